/- Rules, plain laws and walks: HC -/
import Derived.Test.YtlimmmidfhpakaaGA6
import Derived.Test.YtlimmmidfhpakaaGA7
namespace Go.Proofs.Ytlimmmidfhpakaa
open Go.RowKit
set_option maxRecDepth 100000
set_option linter.unusedVariables false
set_option linter.unusedSimpArgs false
set_option maxHeartbeats 8000000 in
theorem equalH_spec (F : Fz) (w : World) (v u : Value) (l m : By) (hs : Sat w F) (hv : Bs F v l) (hu : Bs F u m) :
    Calls Try.prog 34 #[v, u] w (Tells w (.bool (l == m))) := by
 obtain ⟨a, c, rfl, _⟩ := hv.shape
 obtain ⟨a2, c2, rfl, _⟩ := hu.shape
 have S := St.start hs
 go_enter Try.func34, Try.ntmps34
 refine wp_seq_k (fun K1 hK1 => region_wl ?_)
 refine do_ rfl (.bool false) (ex_assign _) ?_
 simp only [pS, pN, pA, pC, pZ]
 refine wl_nil (hK1 _ _ ?_)
 refine wp_seq_k (fun K2 hK2 => region_wl ?_)
 refine do_ rfl (.slice a l.length c) (ex_move _) ?_
 simp only [pS, pN, pA, pC, pZ]
 refine do_ rfl (.string ⟨l.toArray⟩) (ex_convert (v := (.slice a l.length c)) rfl (run_string Try.underlying25 Try.underlying5 Try.underlying9 (S).sat hv)) ?_
 simp only [pS, pN, pA, pC, pZ]
 refine do_ rfl (.slice a2 m.length c2) (ex_move _) ?_
 simp only [pS, pN, pA, pC, pZ]
 refine do_ rfl (.string ⟨m.toArray⟩) (ex_convert (v := (.slice a2 m.length c2)) rfl (run_string Try.underlying25 Try.underlying5 Try.underlying9 (S).sat hu)) ?_
 simp only [pS, pN, pA, pC, pZ]
 refine do_ rfl (.bool (l == m)) (ex_strop (op := .eql) (l := l) (m := m) (b := (l == m)) (by simp) rfl rfl (rfl)) ?_
 simp only [pS, pN, pA, pC, pZ]
 refine do_ rfl (.bool (l == m)) (ex_assign _) ?_
 simp only [pS, pN, pA, pC, pZ]
 refine wl_nil (hK2 _ _ ?_)
 refine wp_ret ?_
 (try simp only [Exit.then, Exit.inBlock, ↓reduceIte, Nat.reduceEqDiff])
 refine bodyPost_ret (v := (.bool (l == m))) ?_ rfl ?_
 ·exact res_t rfl rfl
 ·exact ⟨rfl, S.gr.below⟩
set_option maxHeartbeats 8000000 in
theorem foldedPast_spec (F : Fz) (w : World) (u : Value) (cs : List Cm) (n : Nat) (hs : Sat w F) (hl : Cms F u cs) {m : Nat} (hh : HistOk m cs) (hm : m ≤ 60) (h300 : cs.length ≤ 300) (hn : cs.length < n) (hn2 : n ≤ 1000) :
    Calls Try.prog 35 #[u, .int .i64 (n : Int)] w (Gives w F (TnsE [] 0)) := by
 obtain ⟨a, c, rfl, hc1, hc2⟩ := Sl.shape hl
 unfold maxLen at hc2
 have S := St.start hs
 go_enter Try.func35, Try.ntmps35
 refine wp_seq_k (fun K1 hK1 => region_wl ?_)
 refine do_ rfl (.slice none 0 0) (ex_assign _) ?_
 simp only [pS, pN, pA, pC, pZ]
 refine do_ rfl (.int .i64 0) (ex_assign _) ?_
 simp only [pS, pN, pA, pC, pZ]
 refine wl_nil (hK1 _ _ ?_)
 refine wp_seq_k (fun K2 hK2 => ?_)
 refine wp_seq_k (fun K3 hK3 => region_wl ?_)
 refine do_ rfl (.slice a cs.length c) (ex_move _) ?_
 simp only [pS, pN, pA, pC, pZ]
 refine do_ rfl (.int .i64 ((cs.length : Nat) : Int)) (ex_len Try.underlying44 rfl) ?_
 simp only [pS, pN, pA, pC, pZ]
 refine do_ rfl (.bool false) (ex_gtr (m := ((cs.length : Nat) : Int)) (n := (300 : Int)) (b := false) rfl rfl (decide_eq_false (by omega))) ?_
 simp only [pS, pN, pA, pC, pZ]
 refine wl_nil (hK3 _ _ ?_)
 refine wp_cond_false rfl ?_
 refine wp_skip ?_
 refine hK2 _ _ ?_
 refine wp_seq_k (fun K4 hK4 => region_wl ?_)
 refine do_ rfl (.slice none 0 0) (ex_assign _) ?_
 simp only [pS, pN, pA, pC, pZ]
 refine do_ rfl (.slice none 0 0) (ex_assign _) ?_
 simp only [pS, pN, pA, pC, pZ]
 refine wl_nil (hK4 _ _ ?_)
 refine wp_seq_k (fun K5 hK5 => ?_)
 refine wp_seq_k (fun K6 hK6 => region_wl ?_)
 refine do_ rfl (.slice a cs.length c) (ex_move _) ?_
 simp only [pS, pN, pA, pC, pZ]
 refine do_ rfl (.int .i64 ((cs.length : Nat) : Int)) (ex_len Try.underlying44 rfl) ?_
 simp only [pS, pN, pA, pC, pZ]
 refine do_ rfl (.int .i64 0) (ex_move _) ?_
 simp only [pS, pN, pA, pC, pZ]
 refine wl_nil (hK6 _ _ ?_)
 refine wp_block ?_
 refine wp_loop_g (fun mm aa w9 => ∃ (k : Nat) (v : Value) (F7 : Fz) (u8 : Nat → Value), mm = cs.length - k ∧ u8 = slots aa ∧ aa = ⟨#[(.slice a cs.length c), (.int .i64 ((n : Nat) : Int)), undef, undef, (u8 4), (u8 5), v, (.slice none 0 0), (u8 8), (u8 9), (u8 10), (u8 11), (u8 12), (.slice a cs.length c), (.int .i64 ((cs.length : Nat) : Int)), (.bool false), (.slice a cs.length c), (.int .i64 ((cs.length : Nat) : Int)), (.int .i64 ((k : Nat) : Int)), (u8 19), (u8 20), (u8 21), (u8 22), (u8 23), (u8 24), (u8 25), (u8 26), (u8 27), (u8 28), (u8 29), (u8 30), (u8 31), (u8 32), (u8 33), (u8 34), (u8 35), (u8 36), (u8 37), (u8 38), (u8 39), (u8 40), (u8 41), (u8 42), (u8 43), (u8 44), (u8 45), (u8 46), (u8 47), (u8 48), (u8 49), undef], []⟩ ∧ St w F w9 F7 [] [] ∧ Le F F7 ∧ (k ≤ cs.length) ∧ (Tns F7 v (stateC cs k))) _ ⟨0, (.slice none 0 0), F, _, rfl, rfl, rfl, S, Le.refl _, (by omega), (Sl.nil _ _ _)⟩ ?_
 rintro m10 a11 w12 ⟨k, v, F7, u8, rfl, -, rfl, S13, le14, hk, hvf⟩ K15 hK15
 refine wp_seq_k (fun K16 hK16 => region_wl ?_)
 by_cases hc19 : k < cs.length
 ·refine do_ rfl (.bool true) (ex_lss (m := ((k : Nat) : Int)) (n := ((cs.length : Nat) : Int)) (b := true) rfl rfl (decide_eq_true (by omega))) ?_
  simp only [pS, pN, pA, pC, pZ]
  refine wl_nil (hK16 _ _ ?_)
  refine wp_seq_k (fun K17 hK17 => ?_)
  refine wp_cond_true rfl ?_
  refine wp_skip ?_
  refine hK17 _ _ ?_
  refine wp_seq_k (fun K18 hK18 => ?_)
  refine wp_block ?_
  refine wp_seq_k (fun K19 hK19 => ?_)
  obtain ⟨p, hp⟩ : ∃ p, cs[k]? = some p := ⟨cs[k], List.getElem?_eq_getElem hc19⟩
  have hpo := hh.ok p (List.mem_of_getElem? hp)
  have hpt : p.turn = k + 1 := by have := hh.turn k hc19; rw [List.getElem?_eq_getElem hc19] at hp; cases hp; exact this
  have okk := (state_ok hh k).mono hm
  have hae : applyE (stateC cs k) p.writes = (0, stateC cs (k + 1)) := by have h := state_next hh hc19; rw [List.getElem?_eq_getElem hc19] at hp; cases hp; rw [applyE_ok hpo.ok hpo.some.2, h]
  obtain ⟨b20, o21, ha22, xa25, xc26, c23, c24, r27⟩ := Cms.get (hl.mono le14) hp
  refine region_wl ?_
  refine do_ rfl (.int .i64 ((k : Nat) : Int)) (ex_move _) ?_
  simp only [pS, pN, pA, pC, pZ]
  refine do_ rfl (.pointer (some ⟨b20, o21 + k * 2, none⟩)) (ex_at (i := k) (sz := 2) Try.underlying44 (sizeof_72 _) rfl ha22 rfl (by omega) rfl) ?_
  simp only [pS, pN, pA, pC, pZ]
  refine do_ rfl (.agg #[(.int .i64 ((p.turn : Nat) : Int)), (.slice xa25 p.writes.length xc26)]) (ex_load rfl (loadN (cs := [(.int .i64 ((p.turn : Nat) : Int)), (.slice xa25 p.writes.length xc26)]) Try.underlying72 rfl (size_72) (range2 (St.fz S13 c23) (St.fz S13 c24)))) ?_
  simp only [pS, pN, pA, pC, pZ]
  refine stNew S13 (v := fun n => .pointer (some ⟨n, 0, none⟩)) rfl (ex_alloc (zero_72 _)) (fun n28 w29 S30 => ?_)
  simp only [pS, pN, pA, pC, pZ]
  have S30 : St w F w29 F7 [⟨n28, [(.int .i64 0), (.slice none 0 0)], 72⟩] [] := S30
  refine do_ rfl (.int .i64 ((k : Nat) : Int)) (ex_assign _) ?_
  simp only [pS, pN, pA, pC, pZ]
  refine stStore (i := 0) (v := (.agg #[(.int .i64 ((p.turn : Nat) : Int)), (.slice xa25 p.writes.length xc26)])) S30 rfl rfl rfl rfl (size_72) (allc2 rfl rfl) (Nat.le_of_ble_eq_true rfl) (fun w31 S32 => ?_)
  simp only [pS, pN, pA, pC, pZ]
  have S32 : St w F w31 F7 [⟨n28, [(.int .i64 ((p.turn : Nat) : Int)), (.slice xa25 p.writes.length xc26)], 72⟩] [] := S32
  refine wl_nil (hK19 _ _ ?_)
  refine wp_seq_k (fun K33 hK33 => ?_)
  refine wp_seq_k (fun K34 hK34 => region_wl ?_)
  refine do_ rfl (.agg #[(.int .i64 ((p.turn : Nat) : Int)), (.slice xa25 p.writes.length xc26)]) (ex_load rfl (loadN (cs := [(.int .i64 ((p.turn : Nat) : Int)), (.slice xa25 p.writes.length xc26)]) Try.underlying72 rfl (size_72) (St.range S32 (i := 0) rfl 0 [(.int .i64 ((p.turn : Nat) : Int)), (.slice xa25 p.writes.length xc26)] (sub_range 0 rfl)))) ?_
  simp only [pS, pN, pA, pC, pZ]
  refine stTells (v := (.int .i64 0)) S32 rfl (ex_fn (vs := #[(.agg #[(.int .i64 ((p.turn : Nat) : Int)), (.slice xa25 p.writes.length xc26)])]) (map1 rfl) rfl (ent_50 _ _)) (tapeCheckOk_spec _ _ _ p (S32).sat ⟨_, _, rfl, r27⟩ hpo) (fun w35 S36 => ?_)
  simp only [pS, pN, pA, pC, pZ]
  refine do_ rfl (.int .i64 0) (ex_assign _) ?_
  simp only [pS, pN, pA, pC, pZ]
  refine wl_nil (hK34 _ _ ?_)
  refine wp_seq_k (fun K37 hK37 => region_wl ?_)
  refine do_ rfl (.int .i64 0) (ex_move _) ?_
  simp only [pS, pN, pA, pC, pZ]
  refine do_ rfl (.bool false) (ex_neq (b := false) rfl rfl (by decide)) ?_
  simp only [pS, pN, pA, pC, pZ]
  refine wl_nil (hK37 _ _ ?_)
  refine wp_cond_false rfl ?_
  refine wp_skip ?_
  refine hK33 _ _ ?_
  refine wp_seq_k (fun K38 hK38 => ?_)
  refine wp_seq_k (fun K39 hK39 => region_wl ?_)
  refine do_ rfl (.pointer (some ⟨n28, 0, none⟩)) (ex_field (q := ⟨n28, 0, none⟩) rfl (fa_72_0 _ _)) ?_
  simp only [pS, pN, pA, pC, pZ]
  refine do_ rfl (.int .i64 ((p.turn : Nat) : Int)) (ex_load rfl (load1 (nagg_3 _) (St.cell S36 (i := 0) rfl rfl))) ?_
  simp only [pS, pN, pA, pC, pZ]
  refine do_ rfl (.int .i64 ((k : Nat) : Int)) (ex_move _) ?_
  simp only [pS, pN, pA, pC, pZ]
  refine do_ rfl (.int .i64 (((k + 1) : Nat) : Int)) (ex_add (m := ((k : Nat) : Int)) (n := (1 : Int)) (r := (((k + 1) : Nat) : Int)) rfl rfl (by omega) (by omega) (by omega)) ?_
  simp only [pS, pN, pA, pC, pZ]
  refine do_ rfl (.bool false) (ex_neq (m := ((p.turn : Nat) : Int)) (n := (((k + 1) : Nat) : Int)) (b := false) rfl rfl (bne_eq_false_iff_eq.2 (by omega))) ?_
  simp only [pS, pN, pA, pC, pZ]
  refine wl_nil (hK39 _ _ ?_)
  refine wp_cond_false rfl ?_
  refine wp_skip ?_
  refine hK38 _ _ ?_
  refine wp_seq_k (fun K40 hK40 => region_wl ?_)
  refine do_ rfl v (ex_move _) ?_
  simp only [pS, pN, pA, pC, pZ]
  refine do_ rfl (.pointer (some ⟨n28, 1, none⟩)) (ex_field (q := ⟨n28, 1, none⟩) rfl (fa_72_1 _ _)) ?_
  simp only [pS, pN, pA, pC, pZ]
  refine do_ rfl (.slice xa25 p.writes.length xc26) (ex_load rfl (load1 (nagg_47 _) (St.cell S36 (i := 0) rfl rfl))) ?_
  simp only [pS, pN, pA, pC, pZ]
  refine stGives S36 rfl (ex_fn (vs := #[v, (.slice xa25 p.writes.length xc26)]) (map2 rfl rfl) rfl (ent_17 _ _)) (apply_is (S36).sat hvf r27 okk hpo.ok hae) ?_
  intro v46 w41 F43 S42 le44 R45
  obtain ⟨_, rfl, r49⟩ := R45
  obtain ⟨a47, c48, rfl, h50, h51⟩ := Sl.shape r49
  unfold maxLen at h51
  have h50 : (stateC cs (k + 1)).length ≤ c48 := h50
  have r49 : Tns _ (.slice a47 (stateC cs (k + 1)).length c48) (stateC cs (k + 1)) := r49
  simp only [pS, pN, pA, pC, pZ]
  refine do_ rfl (.tuple #[(.slice a47 (stateC cs (k + 1)).length c48), (.int .i64 0)]) (ex_move _) ?_
  simp only [pS, pN, pA, pC, pZ]
  refine do_ rfl (.slice a47 (stateC cs (k + 1)).length c48) (ex_extract rfl rfl) ?_
  simp only [pS, pN, pA, pC, pZ]
  refine do_ rfl (.int .i64 0) (ex_extract rfl rfl) ?_
  simp only [pS, pN, pA, pC, pZ]
  refine do_ rfl (.slice a47 (stateC cs (k + 1)).length c48) (ex_assign _) ?_
  simp only [pS, pN, pA, pC, pZ]
  refine do_ rfl (.int .i64 0) (ex_assign _) ?_
  simp only [pS, pN, pA, pC, pZ]
  refine wl_nil (hK40 _ _ ?_)
  refine wp_seq_k (fun K52 hK52 => ?_)
  refine wp_seq_k (fun K53 hK53 => region_wl ?_)
  refine do_ rfl (.int .i64 0) (ex_move _) ?_
  simp only [pS, pN, pA, pC, pZ]
  refine do_ rfl (.bool false) (ex_neq (b := false) rfl rfl (by decide)) ?_
  simp only [pS, pN, pA, pC, pZ]
  refine wl_nil (hK53 _ _ ?_)
  refine wp_cond_false rfl ?_
  refine wp_skip ?_
  refine hK52 _ _ ?_
  refine wp_seq_k (fun K54 hK54 => region_wl ?_)
  refine do_ rfl (.slice a47 (stateC cs (k + 1)).length c48) (ex_move _) ?_
  simp only [pS, pN, pA, pC, pZ]
  refine do_ rfl (.slice a47 (stateC cs (k + 1)).length c48) (ex_assign _) ?_
  simp only [pS, pN, pA, pC, pZ]
  refine wl_nil (hK54 _ _ ?_)
  refine wp_seq_k (fun K55 hK55 => region_wl ?_)
  refine do_ rfl (.int .i64 ((k : Nat) : Int)) (ex_move _) ?_
  simp only [pS, pN, pA, pC, pZ]
  refine do_ rfl (.int .i64 (((k + 1) : Nat) : Int)) (ex_add (m := ((k : Nat) : Int)) (n := (1 : Int)) (r := (((k + 1) : Nat) : Int)) rfl rfl (by omega) (by omega) (by omega)) ?_
  simp only [pS, pN, pA, pC, pZ]
  refine do_ rfl (.int .i64 ((n : Nat) : Int)) (ex_move _) ?_
  simp only [pS, pN, pA, pC, pZ]
  refine do_ rfl (.bool false) (ex_eql (m := (((k + 1) : Nat) : Int)) (n := ((n : Nat) : Int)) (b := false) rfl rfl (beq_eq_false_iff_ne.2 (by omega))) ?_
  simp only [pS, pN, pA, pC, pZ]
  refine wl_nil (hK55 _ _ ?_)
  refine wp_cond_false rfl ?_
  refine wp_skip ?_
  refine hK18 _ _ ?_
  refine region_wl ?_
  refine do_ rfl (.int .i64 (((k + 1) : Nat) : Int)) (ex_add (m := ((k : Nat) : Int)) (n := (1 : Int)) (r := (((k + 1) : Nat) : Int)) rfl rfl (by omega) (by omega) (by omega)) ?_
  simp only [pS, pN, pA, pC, pZ]
  refine do_ rfl (.int .i64 (((k + 1) : Nat) : Int)) (ex_move _) ?_
  simp only [pS, pN, pA, pC, pZ]
  refine wl_nil ?_
  have S42 := St.drop S42 (L' := []) (.cons _ (List.Sublist.refl _))
  exact hK15 _ _ _ (by omega) ⟨(k + 1), (.slice a47 (stateC cs (k + 1)).length c48), F43, _, rfl, rfl, rfl, S42, (le14.trans le44), (by omega), r49⟩
 ·refine do_ rfl (.bool false) (ex_lss (m := ((k : Nat) : Int)) (n := ((cs.length : Nat) : Int)) (b := false) rfl rfl (decide_eq_false (by omega))) ?_
  simp only [pS, pN, pA, pC, pZ]
  refine wl_nil (hK16 _ _ ?_)
  refine wp_seq_k (fun K56 hK56 => ?_)
  refine wp_cond_false rfl ?_
  refine wp_exit ?_
  refine hK5 _ _ ?_
  refine wp_seq_k (fun K57 hK57 => region_wl ?_)
  refine do_ rfl (.slice none 0 0) (ex_move _) ?_
  simp only [pS, pN, pA, pC, pZ]
  refine do_ rfl (.slice none 0 0) (ex_assign _) ?_
  simp only [pS, pN, pA, pC, pZ]
  refine do_ rfl (.int .i64 0) (ex_assign _) ?_
  simp only [pS, pN, pA, pC, pZ]
  refine wl_nil (hK57 _ _ ?_)
  refine wp_ret ?_
  (try simp only [Exit.then, Exit.inBlock, ↓reduceIte, Nat.reduceEqDiff])
  refine bodyPost_ret (v := (.tuple #[(.slice none 0 0), (.int .i64 0)])) ?_ rfl ?_
  ·exact res_tt rfl rfl rfl
  ·exact ⟨_, _, rfl, S13.gr, _, rfl, Sl.nil _ _ _⟩
set_option maxHeartbeats 8000000 in
theorem foldPast_spec (F : Fz) (w : World) (u : Value) (cs : List Cm) (n : Nat) (hs : Sat w F) (hl : Cms F u cs) {m : Nat} (hh : HistOk m cs) (hm : m ≤ 60) (h300 : cs.length ≤ 300) (hn : cs.length < n) (hn2 : n ≤ 1000) :
    Calls Try.prog 15 #[u, .int .i64 (n : Int)] w (Gives w F (TnsE [] 2)) := by
 obtain ⟨a, c, rfl, hc1, hc2⟩ := Sl.shape hl
 unfold maxLen at hc2
 have S := St.start hs
 go_enter Try.func15, Try.ntmps15
 refine wp_seq_k (fun K1 hK1 => region_wl ?_)
 refine do_ rfl (.slice none 0 0) (ex_assign _) ?_
 simp only [pS, pN, pA, pC, pZ]
 refine do_ rfl (.int .i64 0) (ex_assign _) ?_
 simp only [pS, pN, pA, pC, pZ]
 refine wl_nil (hK1 _ _ ?_)
 refine wp_seq_k (fun K2 hK2 => region_wl ?_)
 refine do_ rfl (.slice a cs.length c) (ex_move _) ?_
 simp only [pS, pN, pA, pC, pZ]
 refine do_ rfl (.int .i64 ((n : Nat) : Int)) (ex_move _) ?_
 simp only [pS, pN, pA, pC, pZ]
 refine stGives S rfl (ex_fn (vs := #[(.slice a cs.length c), (.int .i64 ((n : Nat) : Int))]) (map2 rfl rfl) rfl (ent_35 _ _)) (foldedPast_spec _ _ _ cs n (S).sat hl hh hm h300 hn hn2) ?_
 intro v8 w3 F5 S4 le6 R7
 obtain ⟨_, rfl, r11⟩ := R7
 obtain ⟨a9, c10, rfl, h12, h13⟩ := Sl.shape r11
 unfold maxLen at h13
 simp only [pS, pN, pA, pC, pZ]
 refine do_ rfl (.tuple #[(.slice a9 ([] : Forest).length c10), (.int .i64 0)]) (ex_move _) ?_
 simp only [pS, pN, pA, pC, pZ]
 refine do_ rfl (.slice a9 ([] : Forest).length c10) (ex_extract rfl rfl) ?_
 simp only [pS, pN, pA, pC, pZ]
 refine do_ rfl (.int .i64 0) (ex_extract rfl rfl) ?_
 simp only [pS, pN, pA, pC, pZ]
 refine do_ rfl (.slice a9 ([] : Forest).length c10) (ex_assign _) ?_
 simp only [pS, pN, pA, pC, pZ]
 refine do_ rfl (.int .i64 0) (ex_assign _) ?_
 simp only [pS, pN, pA, pC, pZ]
 refine wl_nil (hK2 _ _ ?_)
 refine wp_seq_k (fun K14 hK14 => ?_)
 refine wp_seq_k (fun K15 hK15 => region_wl ?_)
 refine do_ rfl (.int .i64 0) (ex_move _) ?_
 simp only [pS, pN, pA, pC, pZ]
 refine do_ rfl (.bool false) (ex_neq (b := false) rfl rfl (by decide)) ?_
 simp only [pS, pN, pA, pC, pZ]
 refine wl_nil (hK15 _ _ ?_)
 refine wp_cond_false rfl ?_
 refine wp_skip ?_
 refine hK14 _ _ ?_
 refine wp_seq_k (fun K16 hK16 => ?_)
 refine wp_seq_k (fun K17 hK17 => region_wl ?_)
 refine do_ rfl (.int .i64 ((n : Nat) : Int)) (ex_move _) ?_
 simp only [pS, pN, pA, pC, pZ]
 refine do_ rfl (.bool false) (ex_lss (m := ((n : Nat) : Int)) (n := (0 : Int)) (b := false) rfl rfl (decide_eq_false (by omega))) ?_
 simp only [pS, pN, pA, pC, pZ]
 refine do_ rfl (.bool false) (ex_move _) ?_
 simp only [pS, pN, pA, pC, pZ]
 refine do_ rfl (.int .i64 ((n : Nat) : Int)) (ex_move _) ?_
 simp only [pS, pN, pA, pC, pZ]
 refine do_ rfl (.slice a cs.length c) (ex_move _) ?_
 simp only [pS, pN, pA, pC, pZ]
 refine do_ rfl (.int .i64 ((cs.length : Nat) : Int)) (ex_len Try.underlying44 rfl) ?_
 simp only [pS, pN, pA, pC, pZ]
 refine do_ rfl (.bool true) (ex_gtr (m := ((n : Nat) : Int)) (n := ((cs.length : Nat) : Int)) (b := true) rfl rfl (decide_eq_true (by omega))) ?_
 simp only [pS, pN, pA, pC, pZ]
 refine do_ rfl (.bool true) (ex_pick (b := false) rfl) ?_
 simp only [pS, pN, pA, pC, pZ]
 refine wl_nil (hK17 _ _ ?_)
 refine wp_cond_true rfl ?_
 refine wp_seq_k (fun K18 hK18 => region_wl ?_)
 refine do_ rfl (.slice none 0 0) (ex_assign _) ?_
 simp only [pS, pN, pA, pC, pZ]
 refine do_ rfl (.int .i64 2) (ex_assign _) ?_
 simp only [pS, pN, pA, pC, pZ]
 refine wl_nil (hK18 _ _ ?_)
 refine wp_ret ?_
 (try simp only [Exit.then, Exit.inBlock, ↓reduceIte, Nat.reduceEqDiff])
 refine bodyPost_ret (v := (.tuple #[(.slice none 0 0), (.int .i64 2)])) ?_ rfl ?_
 ·exact res_tt rfl rfl rfl
 ·exact ⟨_, _, rfl, S4.gr, _, rfl, Sl.nil _ _ _⟩
set_option maxHeartbeats 8000000 in
theorem changesPast_spec (F : Fz) (w : World) (u : Value) (cs : List Cm) (n : Nat) (hs : Sat w F) (hl : Cms F u cs) {m : Nat} (hh : HistOk m cs) (hm : m ≤ 60) (h300 : cs.length ≤ 300) (hn : cs.length < n) (hn2 : n ≤ 1000) :
    Calls Try.prog 13 #[u, .int .i64 0, .int .i64 (n : Int)] w (Gives w F fun _ u => u = .tuple #[.slice none 0 0, .int .i64 2]) := by
 obtain ⟨a, c, rfl, hc1, hc2⟩ := Sl.shape hl
 unfold maxLen at hc2
 have S := St.start hs
 go_enter Try.func13, Try.ntmps13
 refine wp_seq_k (fun K1 hK1 => region_wl ?_)
 refine do_ rfl (.slice none 0 0) (ex_assign _) ?_
 simp only [pS, pN, pA, pC, pZ]
 refine do_ rfl (.int .i64 0) (ex_assign _) ?_
 simp only [pS, pN, pA, pC, pZ]
 refine wl_nil (hK1 _ _ ?_)
 refine wp_seq_k (fun K2 hK2 => region_wl ?_)
 refine do_ rfl (.slice a cs.length c) (ex_move _) ?_
 simp only [pS, pN, pA, pC, pZ]
 refine do_ rfl (.int .i64 0) (ex_move _) ?_
 simp only [pS, pN, pA, pC, pZ]
 refine stGives S rfl (ex_fn (vs := #[(.slice a cs.length c), (.int .i64 0)]) (map2 rfl rfl) rfl (ent_15 _ _)) (fold_spec _ _ _ cs 0 (S).sat hl hh hm h300 (by omega)) ?_
 intro v8 w3 F5 S4 le6 R7
 obtain ⟨_, rfl, r11⟩ := R7
 obtain ⟨a9, c10, rfl, h12, h13⟩ := Sl.shape r11
 unfold maxLen at h13
 have h12 : (stateC cs 0).length ≤ c10 := h12
 have r11 : Tns _ (.slice a9 (stateC cs 0).length c10) (stateC cs 0) := r11
 simp only [pS, pN, pA, pC, pZ]
 refine do_ rfl (.tuple #[(.slice a9 (stateC cs 0).length c10), (.int .i64 0)]) (ex_move _) ?_
 simp only [pS, pN, pA, pC, pZ]
 refine do_ rfl (.slice a9 (stateC cs 0).length c10) (ex_extract rfl rfl) ?_
 simp only [pS, pN, pA, pC, pZ]
 refine do_ rfl (.int .i64 0) (ex_extract rfl rfl) ?_
 simp only [pS, pN, pA, pC, pZ]
 refine do_ rfl (.slice a9 (stateC cs 0).length c10) (ex_assign _) ?_
 simp only [pS, pN, pA, pC, pZ]
 refine do_ rfl (.int .i64 0) (ex_assign _) ?_
 simp only [pS, pN, pA, pC, pZ]
 refine wl_nil (hK2 _ _ ?_)
 refine wp_seq_k (fun K14 hK14 => ?_)
 refine wp_seq_k (fun K15 hK15 => region_wl ?_)
 refine do_ rfl (.int .i64 0) (ex_move _) ?_
 simp only [pS, pN, pA, pC, pZ]
 refine do_ rfl (.bool false) (ex_neq (b := false) rfl rfl (by decide)) ?_
 simp only [pS, pN, pA, pC, pZ]
 refine wl_nil (hK15 _ _ ?_)
 refine wp_cond_false rfl ?_
 refine wp_skip ?_
 refine hK14 _ _ ?_
 refine wp_seq_k (fun K16 hK16 => region_wl ?_)
 refine do_ rfl (.slice a cs.length c) (ex_move _) ?_
 simp only [pS, pN, pA, pC, pZ]
 refine do_ rfl (.int .i64 ((n : Nat) : Int)) (ex_move _) ?_
 simp only [pS, pN, pA, pC, pZ]
 refine stGives S4 rfl (ex_fn (vs := #[(.slice a cs.length c), (.int .i64 ((n : Nat) : Int))]) (map2 rfl rfl) rfl (ent_15 _ _)) (foldPast_spec _ _ _ cs n (S4).sat (hl.mono le6) hh hm h300 hn hn2) ?_
 intro v22 w17 F19 S18 le20 R21
 obtain ⟨_, rfl, r25⟩ := R21
 obtain ⟨a23, c24, rfl, h26, h27⟩ := Sl.shape r25
 unfold maxLen at h27
 simp only [pS, pN, pA, pC, pZ]
 refine do_ rfl (.tuple #[(.slice a23 ([] : Forest).length c24), (.int .i64 2)]) (ex_move _) ?_
 simp only [pS, pN, pA, pC, pZ]
 refine do_ rfl (.slice a23 ([] : Forest).length c24) (ex_extract rfl rfl) ?_
 simp only [pS, pN, pA, pC, pZ]
 refine do_ rfl (.int .i64 2) (ex_extract rfl rfl) ?_
 simp only [pS, pN, pA, pC, pZ]
 refine do_ rfl (.slice a23 ([] : Forest).length c24) (ex_assign _) ?_
 simp only [pS, pN, pA, pC, pZ]
 refine do_ rfl (.int .i64 2) (ex_assign _) ?_
 simp only [pS, pN, pA, pC, pZ]
 refine wl_nil (hK16 _ _ ?_)
 refine wp_seq_k (fun K28 hK28 => ?_)
 refine wp_seq_k (fun K29 hK29 => region_wl ?_)
 refine do_ rfl (.int .i64 2) (ex_move _) ?_
 simp only [pS, pN, pA, pC, pZ]
 refine do_ rfl (.bool true) (ex_neq (b := true) rfl rfl (by decide)) ?_
 simp only [pS, pN, pA, pC, pZ]
 refine wl_nil (hK29 _ _ ?_)
 refine wp_cond_true rfl ?_
 refine wp_seq_k (fun K30 hK30 => region_wl ?_)
 refine do_ rfl (.int .i64 2) (ex_move _) ?_
 simp only [pS, pN, pA, pC, pZ]
 refine do_ rfl (.slice none 0 0) (ex_assign _) ?_
 simp only [pS, pN, pA, pC, pZ]
 refine do_ rfl (.int .i64 2) (ex_assign _) ?_
 simp only [pS, pN, pA, pC, pZ]
 refine wl_nil (hK30 _ _ ?_)
 refine wp_ret ?_
 (try simp only [Exit.then, Exit.inBlock, ↓reduceIte, Nat.reduceEqDiff])
 refine bodyPost_ret (v := (.tuple #[(.slice none 0 0), (.int .i64 2)])) ?_ rfl ?_
 ·exact res_tt rfl rfl rfl
 ·exact ⟨_, _, rfl, S18.gr, rfl⟩
set_option maxHeartbeats 8000000 in
theorem changes_spec (F : Fz) (w : World) (u : Value) (cs : List Cm) (i1 i2 : Nat) (hs : Sat w F) (hl : Cms F u cs) {m : Nat} (hh : HistOk m cs) (hm : m ≤ 60) (h300 : cs.length ≤ 300) (hi1 : i1 ≤ cs.length) (hi2 : i2 ≤ cs.length) :
    Calls Try.prog 13 #[u, .int .i64 (i1 : Int), .int .i64 (i2 : Int)] w (Gives w F fun F' u => ∃ ps x, IsPl (stateC cs i1) (stateC cs i2) ps ∧ u = .tuple #[x, .int .i64 0] ∧ Wrs F' x (chgs (stateC cs i1) (stateC cs i2) ps)) := by
 obtain ⟨a, c, rfl, hc1, hc2⟩ := Sl.shape hl
 unfold maxLen at hc2
 obtain ⟨i27, hi27, hz27, hs27, hb27⟩ := info_parts info_27
 have okA := (state_ok hh i1).mono hm
 have okB := (state_ok hh i2).mono hm
 have S := St.start hs
 go_enter Try.func13, Try.ntmps13
 refine wp_seq_k (fun K1 hK1 => region_wl ?_)
 refine do_ rfl (.slice none 0 0) (ex_assign _) ?_
 simp only [pS, pN, pA, pC, pZ]
 refine do_ rfl (.int .i64 0) (ex_assign _) ?_
 simp only [pS, pN, pA, pC, pZ]
 refine wl_nil (hK1 _ _ ?_)
 refine wp_seq_k (fun K2 hK2 => region_wl ?_)
 refine do_ rfl (.slice a cs.length c) (ex_move _) ?_
 simp only [pS, pN, pA, pC, pZ]
 refine do_ rfl (.int .i64 ((i1 : Nat) : Int)) (ex_move _) ?_
 simp only [pS, pN, pA, pC, pZ]
 refine stGives S rfl (ex_fn (vs := #[(.slice a cs.length c), (.int .i64 ((i1 : Nat) : Int))]) (map2 rfl rfl) rfl (ent_15 _ _)) (fold_spec _ _ _ cs i1 (S).sat hl hh hm h300 (by omega)) ?_
 intro v8 w3 F5 S4 le6 R7
 obtain ⟨_, rfl, r11⟩ := R7
 obtain ⟨a9, c10, rfl, h12, h13⟩ := Sl.shape r11
 unfold maxLen at h13
 have h12 : (stateC cs i1).length ≤ c10 := h12
 have r11 : Tns _ (.slice a9 (stateC cs i1).length c10) (stateC cs i1) := r11
 simp only [pS, pN, pA, pC, pZ]
 refine do_ rfl (.tuple #[(.slice a9 (stateC cs i1).length c10), (.int .i64 0)]) (ex_move _) ?_
 simp only [pS, pN, pA, pC, pZ]
 refine do_ rfl (.slice a9 (stateC cs i1).length c10) (ex_extract rfl rfl) ?_
 simp only [pS, pN, pA, pC, pZ]
 refine do_ rfl (.int .i64 0) (ex_extract rfl rfl) ?_
 simp only [pS, pN, pA, pC, pZ]
 refine do_ rfl (.slice a9 (stateC cs i1).length c10) (ex_assign _) ?_
 simp only [pS, pN, pA, pC, pZ]
 refine do_ rfl (.int .i64 0) (ex_assign _) ?_
 simp only [pS, pN, pA, pC, pZ]
 refine wl_nil (hK2 _ _ ?_)
 refine wp_seq_k (fun K14 hK14 => ?_)
 refine wp_seq_k (fun K15 hK15 => region_wl ?_)
 refine do_ rfl (.int .i64 0) (ex_move _) ?_
 simp only [pS, pN, pA, pC, pZ]
 refine do_ rfl (.bool false) (ex_neq (b := false) rfl rfl (by decide)) ?_
 simp only [pS, pN, pA, pC, pZ]
 refine wl_nil (hK15 _ _ ?_)
 refine wp_cond_false rfl ?_
 refine wp_skip ?_
 refine hK14 _ _ ?_
 refine wp_seq_k (fun K16 hK16 => region_wl ?_)
 refine do_ rfl (.slice a cs.length c) (ex_move _) ?_
 simp only [pS, pN, pA, pC, pZ]
 refine do_ rfl (.int .i64 ((i2 : Nat) : Int)) (ex_move _) ?_
 simp only [pS, pN, pA, pC, pZ]
 refine stGives S4 rfl (ex_fn (vs := #[(.slice a cs.length c), (.int .i64 ((i2 : Nat) : Int))]) (map2 rfl rfl) rfl (ent_15 _ _)) (fold_spec _ _ _ cs i2 (S4).sat (hl.mono le6) hh hm h300 (by omega)) ?_
 intro v22 w17 F19 S18 le20 R21
 obtain ⟨_, rfl, r25⟩ := R21
 obtain ⟨a23, c24, rfl, h26, h27⟩ := Sl.shape r25
 unfold maxLen at h27
 have h26 : (stateC cs i2).length ≤ c24 := h26
 have r25 : Tns _ (.slice a23 (stateC cs i2).length c24) (stateC cs i2) := r25
 simp only [pS, pN, pA, pC, pZ]
 refine do_ rfl (.tuple #[(.slice a23 (stateC cs i2).length c24), (.int .i64 0)]) (ex_move _) ?_
 simp only [pS, pN, pA, pC, pZ]
 refine do_ rfl (.slice a23 (stateC cs i2).length c24) (ex_extract rfl rfl) ?_
 simp only [pS, pN, pA, pC, pZ]
 refine do_ rfl (.int .i64 0) (ex_extract rfl rfl) ?_
 simp only [pS, pN, pA, pC, pZ]
 refine do_ rfl (.slice a23 (stateC cs i2).length c24) (ex_assign _) ?_
 simp only [pS, pN, pA, pC, pZ]
 refine do_ rfl (.int .i64 0) (ex_assign _) ?_
 simp only [pS, pN, pA, pC, pZ]
 refine wl_nil (hK16 _ _ ?_)
 refine wp_seq_k (fun K28 hK28 => ?_)
 refine wp_seq_k (fun K29 hK29 => region_wl ?_)
 refine do_ rfl (.int .i64 0) (ex_move _) ?_
 simp only [pS, pN, pA, pC, pZ]
 refine do_ rfl (.bool false) (ex_neq (b := false) rfl rfl (by decide)) ?_
 simp only [pS, pN, pA, pC, pZ]
 refine wl_nil (hK29 _ _ ?_)
 refine wp_cond_false rfl ?_
 refine wp_skip ?_
 refine hK28 _ _ ?_
 refine wp_seq_k (fun K30 hK30 => region_wl ?_)
 refine do_ rfl (.slice none 0 0) (ex_assign _) ?_
 simp only [pS, pN, pA, pC, pZ]
 refine wl_nil (hK30 _ _ ?_)
 refine wp_seq_k (fun K31 hK31 => ?_)
 refine wp_seq_k (fun K32 hK32 => region_wl ?_)
 refine do_ rfl (.slice a9 (stateC cs i1).length c10) (ex_move _) ?_
 simp only [pS, pN, pA, pC, pZ]
 refine do_ rfl (.slice a23 (stateC cs i2).length c24) (ex_move _) ?_
 simp only [pS, pN, pA, pC, pZ]
 refine stNew S18 (v := fun n => .slice (some ⟨n, 0, none⟩) 2 2) rfl (ex_lit (ps := #[(0, (.slice a9 (stateC cs i1).length c10)), (1, (.slice a23 (stateC cs i2).length c24))]) (cells := #[(.slice a9 (stateC cs i1).length c10), (.slice a23 (stateC cs i2).length c24)]) (E := 52) (bmap2 rfl rfl) (fun w => by kernel_rfl)) (fun n33 w34 S35 => ?_)
 simp only [pS, pN, pA, pC, pZ]
 have S35 : St w F w34 F19 [⟨n33, [(.slice a9 (stateC cs i1).length c10), (.slice a23 (stateC cs i2).length c24)], 52⟩] [] := S35
 obtain ⟨S36, le37, hc38⟩ := St.freezeBlk S35 (i := 0) rfl
 have r40 : Frs _ (.slice (some ⟨n33, 0, none⟩) 2 2) [(stateC cs i1), (stateC cs i2)] := sl_of_block (R := FrC) (l := [(stateC cs i1), (stateC cs i2)]) (el := [[(.slice a9 (stateC cs i1).length c10)], [(.slice a23 (stateC cs i2).length c24)]]) hc38 rfl ⟨⟨_, rfl, (r11.mono le20).mono le37⟩, ⟨_, rfl, r25.mono le37⟩, trivial⟩ (by simp) (by unfold maxLen; simp)
 generalize addF F19 w34 n33 = F39 at *
 have S36 : St w F w34 F39 [] [] := S36
 refine stGives S36 rfl (ex_fn (vs := #[(.slice (some ⟨n33, 0, none⟩) 2 2)]) (map1 rfl) rfl (ent_33 _ _)) (places_spec _ _ _ [(stateC cs i1), (stateC cs i2)] (S36).sat r40 (by intro f hf; rcases List.mem_cons.1 hf with rfl | hf; exact okA; rw [List.mem_singleton.1 hf]; exact okB) (by simp)) ?_
 intro v46 w41 F43 S42 le44 R45
 obtain ⟨so, hperm, hsort, R45⟩ := R45
 simp only [List.flatMap_cons, List.flatMap_nil, List.append_nil] at hperm
 have hpl := places_of okA okB hperm hsort
 have hpn := pls_len okA okB hperm
 generalize compactW so = ps at R45 hpl hpn
 obtain ⟨a47, c48, rfl, h49, h50⟩ := Sl.shape R45
 unfold maxLen at h50
 simp only [pS, pN, pA, pC, pZ]
 refine do_ rfl (.int .i64 ((ps.length : Nat) : Int)) (ex_len Try.underlying47 rfl) ?_
 simp only [pS, pN, pA, pC, pZ]
 refine do_ rfl (.int .i64 0) (ex_move _) ?_
 simp only [pS, pN, pA, pC, pZ]
 refine wl_nil (hK32 _ _ ?_)
 refine wp_block ?_
 have S51 := St.addNil S42 4 WrC WrC.mono 27 w.heap.size
 have S51 : St w F w41 F43 [] [ownP 4 WrC WrC.mono 27 w.heap.size (.slice none 0 0) (chgs (stateC cs i1) (stateC cs i2) (ps.take 0))] := S51
 refine wp_loop_g (fun mm aa w54 => ∃ (i : Nat) (v : Value) (F52 : Fz) (u53 : Nat → Value), mm = ps.length - i ∧ u53 = slots aa ∧ aa = ⟨#[(.slice a cs.length c), (.int .i64 ((i1 : Nat) : Int)), (.int .i64 ((i2 : Nat) : Int)), undef, undef, undef, (.slice none 0 0), (.int .i64 0), (.slice a9 (stateC cs i1).length c10), (.int .i64 0), (.slice a23 (stateC cs i2).length c24), v, undef, (u53 13), (u53 14), (u53 15), (u53 16), (u53 17), (.tuple #[(.slice a9 (stateC cs i1).length c10), (.int .i64 0)]), (.slice a cs.length c), (.int .i64 ((i1 : Nat) : Int)), (.tuple #[(.slice a9 (stateC cs i1).length c10), (.int .i64 0)]), (.slice a9 (stateC cs i1).length c10), (.int .i64 0), (.int .i64 0), (.bool false), undef, (.tuple #[(.slice a23 (stateC cs i2).length c24), (.int .i64 0)]), (.slice a cs.length c), (.int .i64 ((i2 : Nat) : Int)), (.tuple #[(.slice a23 (stateC cs i2).length c24), (.int .i64 0)]), (.slice a23 (stateC cs i2).length c24), (.int .i64 0), (.int .i64 0), (.bool false), undef, (.slice a9 (stateC cs i1).length c10), (.slice a23 (stateC cs i2).length c24), (.slice (some ⟨n33, 0, none⟩) 2 2), (.slice a47 ps.length c48), (.int .i64 ((ps.length : Nat) : Int)), (.int .i64 ((i : Nat) : Int)), (u53 42), (u53 43), (u53 44), (u53 45), (u53 46), (u53 47), (u53 48), (u53 49), (u53 50), (u53 51), (u53 52), (u53 53), (u53 54), (u53 55), (u53 56), (u53 57), (u53 58), (u53 59), (u53 60), (u53 61), (u53 62), (u53 63), (u53 64), (u53 65), (u53 66), (u53 67), (u53 68), (u53 69), (u53 70), (u53 71), (u53 72), (u53 73), (u53 74), (u53 75), (u53 76), (u53 77), (u53 78), (u53 79), (u53 80), (u53 81), (u53 82), (u53 83), (u53 84), (u53 85), (u53 86), undef], []⟩ ∧ St w F w54 F52 [] [ownP 4 WrC WrC.mono 27 w.heap.size v (chgs (stateC cs i1) (stateC cs i2) (ps.take i))] ∧ Le F43 F52 ∧ (i ≤ ps.length)) _ ⟨0, (.slice none 0 0), F43, _, rfl, rfl, rfl, S51, Le.refl _, (by omega)⟩ ?_
 rintro m55 a56 w57 ⟨i, v, F52, u53, rfl, -, rfl, S58, le59, hi⟩ K60 hK60
 refine wp_seq_k (fun K61 hK61 => region_wl ?_)
 by_cases hc42 : i < ps.length
 ·refine do_ rfl (.bool true) (ex_lss (m := ((i : Nat) : Int)) (n := ((ps.length : Nat) : Int)) (b := true) rfl rfl (decide_eq_true (by omega))) ?_
  simp only [pS, pN, pA, pC, pZ]
  refine wl_nil (hK61 _ _ ?_)
  refine wp_seq_k (fun K62 hK62 => ?_)
  refine wp_cond_true rfl ?_
  refine wp_skip ?_
  refine hK62 _ _ ?_
  refine wp_seq_k (fun K63 hK63 => ?_)
  refine wp_block ?_
  refine wp_seq_k (fun K64 hK64 => ?_)
  obtain ⟨p, hp⟩ : ∃ p, ps[i]? = some p := ⟨ps[i], List.getElem?_eq_getElem hc42⟩
  have hco := chg_ok okA okB hpl (List.mem_of_getElem? hp)
  obtain ⟨b65, o66, ha67, xa69, xc70, xa73, xc74, xa78, xc79, c68, c72, c76, c77, r71, r75, r80⟩ := Wrs.get (R45.mono le59) hp
  refine region_wl ?_
  refine do_ rfl (.pointer (some ⟨b65, o66 + i * 4, none⟩)) (ex_at (i := i) (sz := 4) Try.underlying47 (sizeof_27 _) rfl ha67 rfl (by omega) rfl) ?_
  simp only [pS, pN, pA, pC, pZ]
  refine do_ rfl (.agg #[(.slice xa69 p.name.length xc70), (.slice xa73 p.key.length xc74), (.bool p.gone), (.slice xa78 p.value.length xc79)]) (ex_load rfl (loadN (cs := [(.slice xa69 p.name.length xc70), (.slice xa73 p.key.length xc74), (.bool p.gone), (.slice xa78 p.value.length xc79)]) Try.underlying27 rfl (size_27) (range4 (St.fz S58 c68) (St.fz S58 c72) (St.fz S58 c76) (St.fz S58 c77)))) ?_
  simp only [pS, pN, pA, pC, pZ]
  refine stNew S58 (v := fun n => .pointer (some ⟨n, 0, none⟩)) rfl (ex_alloc (zero_27 _)) (fun n81 w82 S83 => ?_)
  simp only [pS, pN, pA, pC, pZ]
  have S83 : St w F w82 F52 [⟨n81, [(.slice none 0 0), (.slice none 0 0), (.bool false), (.slice none 0 0)], 27⟩] [ownP 4 WrC WrC.mono 27 w.heap.size v (chgs (stateC cs i1) (stateC cs i2) (ps.take i))] := S83
  refine stStore (i := 0) (v := (.agg #[(.slice xa69 p.name.length xc70), (.slice xa73 p.key.length xc74), (.bool p.gone), (.slice xa78 p.value.length xc79)])) S83 rfl rfl rfl rfl (size_27) (allc4 rfl rfl rfl rfl) (Nat.le_of_ble_eq_true rfl) (fun w84 S85 => ?_)
  simp only [pS, pN, pA, pC, pZ]
  have S85 : St w F w84 F52 [⟨n81, [(.slice xa69 p.name.length xc70), (.slice xa73 p.key.length xc74), (.bool p.gone), (.slice xa78 p.value.length xc79)], 27⟩] [ownP 4 WrC WrC.mono 27 w.heap.size v (chgs (stateC cs i1) (stateC cs i2) (ps.take i))] := S85
  refine wl_nil (hK64 _ _ ?_)
  refine wp_seq_k (fun K86 hK86 => region_wl ?_)
  refine do_ rfl (.slice a9 (stateC cs i1).length c10) (ex_move _) ?_
  simp only [pS, pN, pA, pC, pZ]
  refine do_ rfl (.pointer (some ⟨n81, 0, none⟩)) (ex_field (q := ⟨n81, 0, none⟩) rfl (fa_27_0 _ _)) ?_
  simp only [pS, pN, pA, pC, pZ]
  refine do_ rfl (.slice xa69 p.name.length xc70) (ex_load rfl (load1 (nagg_25 _) (St.cell S85 (i := 0) rfl rfl))) ?_
  simp only [pS, pN, pA, pC, pZ]
  refine do_ rfl (.pointer (some ⟨n81, 1, none⟩)) (ex_field (q := ⟨n81, 1, none⟩) rfl (fa_27_1 _ _)) ?_
  simp only [pS, pN, pA, pC, pZ]
  refine do_ rfl (.slice xa73 p.key.length xc74) (ex_load rfl (load1 (nagg_25 _) (St.cell S85 (i := 0) rfl rfl))) ?_
  simp only [pS, pN, pA, pC, pZ]
  refine stGives S85 rfl (ex_fn (vs := #[(.slice a9 (stateC cs i1).length c10), (.slice xa69 p.name.length xc70), (.slice xa73 p.key.length xc74)]) (map3 rfl rfl rfl) rfl (ent_16 _ _)) (getF_spec _ _ _ _ _ (stateC cs i1) p.name p.key (S85).sat (r11.mono (((le20.trans le37).trans le44).trans le59)) r71 r75 okA hco.1 hco.2) ?_
  intro v92 w87 F89 S88 le90 R91
  obtain ⟨_, rfl, a93, c94, rfl, r95⟩ := R91
  have r95 : Bs _ (.slice a93 ((getF (stateC cs i1) p.name p.key).getD []).length c94) ((getF (stateC cs i1) p.name p.key).getD []) := r95
  simp only [pS, pN, pA, pC, pZ]
  refine do_ rfl (.tuple #[(.agg #[(.bool (getF (stateC cs i1) p.name p.key).isSome), (.slice a93 ((getF (stateC cs i1) p.name p.key).getD []).length c94)]), (.int .i64 0)]) (ex_move _) ?_
  simp only [pS, pN, pA, pC, pZ]
  refine do_ rfl (.agg #[(.bool (getF (stateC cs i1) p.name p.key).isSome), (.slice a93 ((getF (stateC cs i1) p.name p.key).getD []).length c94)]) (ex_extract rfl rfl) ?_
  simp only [pS, pN, pA, pC, pZ]
  refine do_ rfl (.int .i64 0) (ex_extract rfl rfl) ?_
  simp only [pS, pN, pA, pC, pZ]
  refine stNew S88 (v := fun n => .pointer (some ⟨n, 0, none⟩)) rfl (ex_alloc (zero_38 _)) (fun n96 w97 S98 => ?_)
  simp only [pS, pN, pA, pC, pZ]
  have S98 : St w F w97 F89 [⟨n96, [(.bool false), (.slice none 0 0)], 38⟩, ⟨n81, [(.slice xa69 p.name.length xc70), (.slice xa73 p.key.length xc74), (.bool p.gone), (.slice xa78 p.value.length xc79)], 27⟩] [ownP 4 WrC WrC.mono 27 w.heap.size v (chgs (stateC cs i1) (stateC cs i2) (ps.take i))] := S98
  refine stStore (i := 0) (v := (.agg #[(.bool (getF (stateC cs i1) p.name p.key).isSome), (.slice a93 ((getF (stateC cs i1) p.name p.key).getD []).length c94)])) S98 rfl rfl rfl rfl (size_38) (allc2 rfl rfl) (Nat.le_of_ble_eq_true rfl) (fun w99 S100 => ?_)
  simp only [pS, pN, pA, pC, pZ]
  have S100 : St w F w99 F89 [⟨n96, [(.bool (getF (stateC cs i1) p.name p.key).isSome), (.slice a93 ((getF (stateC cs i1) p.name p.key).getD []).length c94)], 38⟩, ⟨n81, [(.slice xa69 p.name.length xc70), (.slice xa73 p.key.length xc74), (.bool p.gone), (.slice xa78 p.value.length xc79)], 27⟩] [ownP 4 WrC WrC.mono 27 w.heap.size v (chgs (stateC cs i1) (stateC cs i2) (ps.take i))] := S100
  refine do_ rfl (.int .i64 0) (ex_assign _) ?_
  simp only [pS, pN, pA, pC, pZ]
  refine wl_nil (hK86 _ _ ?_)
  refine wp_seq_k (fun K101 hK101 => region_wl ?_)
  refine do_ rfl (.slice a23 (stateC cs i2).length c24) (ex_move _) ?_
  simp only [pS, pN, pA, pC, pZ]
  refine do_ rfl (.pointer (some ⟨n81, 0, none⟩)) (ex_field (q := ⟨n81, 0, none⟩) rfl (fa_27_0 _ _)) ?_
  simp only [pS, pN, pA, pC, pZ]
  refine do_ rfl (.slice xa69 p.name.length xc70) (ex_load rfl (load1 (nagg_25 _) (St.cell S100 (i := 1) rfl rfl))) ?_
  simp only [pS, pN, pA, pC, pZ]
  refine do_ rfl (.pointer (some ⟨n81, 1, none⟩)) (ex_field (q := ⟨n81, 1, none⟩) rfl (fa_27_1 _ _)) ?_
  simp only [pS, pN, pA, pC, pZ]
  refine do_ rfl (.slice xa73 p.key.length xc74) (ex_load rfl (load1 (nagg_25 _) (St.cell S100 (i := 1) rfl rfl))) ?_
  simp only [pS, pN, pA, pC, pZ]
  refine stGives S100 rfl (ex_fn (vs := #[(.slice a23 (stateC cs i2).length c24), (.slice xa69 p.name.length xc70), (.slice xa73 p.key.length xc74)]) (map3 rfl rfl rfl) rfl (ent_16 _ _)) (getF_spec _ _ _ _ _ (stateC cs i2) p.name p.key (S100).sat (r25.mono (((le37.trans le44).trans le59).trans le90)) (r71.mono le90) (r75.mono le90) okB hco.1 hco.2) ?_
  intro v107 w102 F104 S103 le105 R106
  obtain ⟨_, rfl, a108, c109, rfl, r110⟩ := R106
  have r110 : Bs _ (.slice a108 ((getF (stateC cs i2) p.name p.key).getD []).length c109) ((getF (stateC cs i2) p.name p.key).getD []) := r110
  simp only [pS, pN, pA, pC, pZ]
  refine do_ rfl (.tuple #[(.agg #[(.bool (getF (stateC cs i2) p.name p.key).isSome), (.slice a108 ((getF (stateC cs i2) p.name p.key).getD []).length c109)]), (.int .i64 0)]) (ex_move _) ?_
  simp only [pS, pN, pA, pC, pZ]
  refine do_ rfl (.agg #[(.bool (getF (stateC cs i2) p.name p.key).isSome), (.slice a108 ((getF (stateC cs i2) p.name p.key).getD []).length c109)]) (ex_extract rfl rfl) ?_
  simp only [pS, pN, pA, pC, pZ]
  refine do_ rfl (.int .i64 0) (ex_extract rfl rfl) ?_
  simp only [pS, pN, pA, pC, pZ]
  refine stNew S103 (v := fun n => .pointer (some ⟨n, 0, none⟩)) rfl (ex_alloc (zero_38 _)) (fun n111 w112 S113 => ?_)
  simp only [pS, pN, pA, pC, pZ]
  have S113 : St w F w112 F104 [⟨n111, [(.bool false), (.slice none 0 0)], 38⟩, ⟨n96, [(.bool (getF (stateC cs i1) p.name p.key).isSome), (.slice a93 ((getF (stateC cs i1) p.name p.key).getD []).length c94)], 38⟩, ⟨n81, [(.slice xa69 p.name.length xc70), (.slice xa73 p.key.length xc74), (.bool p.gone), (.slice xa78 p.value.length xc79)], 27⟩] [ownP 4 WrC WrC.mono 27 w.heap.size v (chgs (stateC cs i1) (stateC cs i2) (ps.take i))] := S113
  refine stStore (i := 0) (v := (.agg #[(.bool (getF (stateC cs i2) p.name p.key).isSome), (.slice a108 ((getF (stateC cs i2) p.name p.key).getD []).length c109)])) S113 rfl rfl rfl rfl (size_38) (allc2 rfl rfl) (Nat.le_of_ble_eq_true rfl) (fun w114 S115 => ?_)
  simp only [pS, pN, pA, pC, pZ]
  have S115 : St w F w114 F104 [⟨n111, [(.bool (getF (stateC cs i2) p.name p.key).isSome), (.slice a108 ((getF (stateC cs i2) p.name p.key).getD []).length c109)], 38⟩, ⟨n96, [(.bool (getF (stateC cs i1) p.name p.key).isSome), (.slice a93 ((getF (stateC cs i1) p.name p.key).getD []).length c94)], 38⟩, ⟨n81, [(.slice xa69 p.name.length xc70), (.slice xa73 p.key.length xc74), (.bool p.gone), (.slice xa78 p.value.length xc79)], 27⟩] [ownP 4 WrC WrC.mono 27 w.heap.size v (chgs (stateC cs i1) (stateC cs i2) (ps.take i))] := S115
  refine do_ rfl (.int .i64 0) (ex_assign _) ?_
  simp only [pS, pN, pA, pC, pZ]
  refine wl_nil (hK101 _ _ ?_)
  refine wp_seq_k (fun K116 hK116 => ?_)
  refine wp_seq_k (fun K117 hK117 => ?_)
  by_cases hce : (getF (stateC cs i1) p.name p.key).isSome = (getF (stateC cs i2) p.name p.key).isSome
  ·by_cases hcv : (getF (stateC cs i1) p.name p.key).getD [] = (getF (stateC cs i2) p.name p.key).getD []
   ·have heq := chg_skip.1 ⟨hce, hcv⟩
    refine region_wl ?_
    refine do_ rfl (.pointer (some ⟨n96, 0, none⟩)) (ex_field (q := ⟨n96, 0, none⟩) rfl (fa_38_0 _ _)) ?_
    simp only [pS, pN, pA, pC, pZ]
    refine do_ rfl (.bool (getF (stateC cs i1) p.name p.key).isSome) (ex_load rfl (load1 (nagg_4 _) (St.cell S115 (i := 1) rfl rfl))) ?_
    simp only [pS, pN, pA, pC, pZ]
    refine do_ rfl (.pointer (some ⟨n111, 0, none⟩)) (ex_field (q := ⟨n111, 0, none⟩) rfl (fa_38_0 _ _)) ?_
    simp only [pS, pN, pA, pC, pZ]
    refine do_ rfl (.bool (getF (stateC cs i2) p.name p.key).isSome) (ex_load rfl (load1 (nagg_4 _) (St.cell S115 (i := 0) rfl rfl))) ?_
    simp only [pS, pN, pA, pC, pZ]
    refine do_ rfl (.bool true) (ex_eqlB Try.underlying4 rfl rfl (beq_iff_eq.2 hce)) ?_
    simp only [pS, pN, pA, pC, pZ]
    refine do_ rfl (.bool true) (ex_move _) ?_
    simp only [pS, pN, pA, pC, pZ]
    refine do_ rfl (.pointer (some ⟨n96, 1, none⟩)) (ex_field (q := ⟨n96, 1, none⟩) rfl (fa_38_1 _ _)) ?_
    simp only [pS, pN, pA, pC, pZ]
    refine do_ rfl (.slice a93 ((getF (stateC cs i1) p.name p.key).getD []).length c94) (ex_load rfl (load1 (nagg_25 _) (St.cell S115 (i := 1) rfl rfl))) ?_
    simp only [pS, pN, pA, pC, pZ]
    refine do_ rfl (.pointer (some ⟨n111, 1, none⟩)) (ex_field (q := ⟨n111, 1, none⟩) rfl (fa_38_1 _ _)) ?_
    simp only [pS, pN, pA, pC, pZ]
    refine do_ rfl (.slice a108 ((getF (stateC cs i2) p.name p.key).getD []).length c109) (ex_load rfl (load1 (nagg_25 _) (St.cell S115 (i := 0) rfl rfl))) ?_
    simp only [pS, pN, pA, pC, pZ]
    refine stTells (v := (.bool true)) S115 rfl (ex_fn (vs := #[(.slice a93 ((getF (stateC cs i1) p.name p.key).getD []).length c94), (.slice a108 ((getF (stateC cs i2) p.name p.key).getD []).length c109)]) (map2 rfl rfl) rfl (ent_34 _ _)) (tells_bool (equalH_spec _ _ _ _ ((getF (stateC cs i1) p.name p.key).getD []) ((getF (stateC cs i2) p.name p.key).getD []) (S115).sat (r95.mono le105) r110) (beq_iff_eq.2 hcv)) (fun w118 S119 => ?_)
    simp only [pS, pN, pA, pC, pZ]
    refine do_ rfl (.bool true) (ex_pick (b := true) rfl) ?_
    simp only [pS, pN, pA, pC, pZ]
    refine wl_nil (hK117 _ _ ?_)
    refine wp_cond_true rfl ?_
    refine wp_exit ?_
    refine hK63 _ _ ?_
    refine region_wl ?_
    refine do_ rfl (.int .i64 (((i + 1) : Nat) : Int)) (ex_add (m := ((i : Nat) : Int)) (n := (1 : Int)) (r := (((i + 1) : Nat) : Int)) rfl rfl (by omega) (by omega) (by omega)) ?_
    simp only [pS, pN, pA, pC, pZ]
    refine do_ rfl (.int .i64 (((i + 1) : Nat) : Int)) (ex_move _) ?_
    simp only [pS, pN, pA, pC, pZ]
    refine wl_nil ?_
    have S119 := St.drop S119 (L' := []) (.cons _ (.cons _ (.cons _ (List.Sublist.refl _))))
    have he120 := chgs_less hp heq
    rw [he120] at S119
    exact hK60 _ _ _ (by omega) ⟨(i + 1), v, F104, _, rfl, rfl, rfl, S119, ((le59.trans le90).trans le105), (by omega)⟩
   ·have hne : ¬ (getF (stateC cs i1) p.name p.key) = (getF (stateC cs i2) p.name p.key) := fun e => hcv (by rw [e])
    refine region_wl ?_
    refine do_ rfl (.pointer (some ⟨n96, 0, none⟩)) (ex_field (q := ⟨n96, 0, none⟩) rfl (fa_38_0 _ _)) ?_
    simp only [pS, pN, pA, pC, pZ]
    refine do_ rfl (.bool (getF (stateC cs i1) p.name p.key).isSome) (ex_load rfl (load1 (nagg_4 _) (St.cell S115 (i := 1) rfl rfl))) ?_
    simp only [pS, pN, pA, pC, pZ]
    refine do_ rfl (.pointer (some ⟨n111, 0, none⟩)) (ex_field (q := ⟨n111, 0, none⟩) rfl (fa_38_0 _ _)) ?_
    simp only [pS, pN, pA, pC, pZ]
    refine do_ rfl (.bool (getF (stateC cs i2) p.name p.key).isSome) (ex_load rfl (load1 (nagg_4 _) (St.cell S115 (i := 0) rfl rfl))) ?_
    simp only [pS, pN, pA, pC, pZ]
    refine do_ rfl (.bool true) (ex_eqlB Try.underlying4 rfl rfl (beq_iff_eq.2 hce)) ?_
    simp only [pS, pN, pA, pC, pZ]
    refine do_ rfl (.bool true) (ex_move _) ?_
    simp only [pS, pN, pA, pC, pZ]
    refine do_ rfl (.pointer (some ⟨n96, 1, none⟩)) (ex_field (q := ⟨n96, 1, none⟩) rfl (fa_38_1 _ _)) ?_
    simp only [pS, pN, pA, pC, pZ]
    refine do_ rfl (.slice a93 ((getF (stateC cs i1) p.name p.key).getD []).length c94) (ex_load rfl (load1 (nagg_25 _) (St.cell S115 (i := 1) rfl rfl))) ?_
    simp only [pS, pN, pA, pC, pZ]
    refine do_ rfl (.pointer (some ⟨n111, 1, none⟩)) (ex_field (q := ⟨n111, 1, none⟩) rfl (fa_38_1 _ _)) ?_
    simp only [pS, pN, pA, pC, pZ]
    refine do_ rfl (.slice a108 ((getF (stateC cs i2) p.name p.key).getD []).length c109) (ex_load rfl (load1 (nagg_25 _) (St.cell S115 (i := 0) rfl rfl))) ?_
    simp only [pS, pN, pA, pC, pZ]
    refine stTells (v := (.bool false)) S115 rfl (ex_fn (vs := #[(.slice a93 ((getF (stateC cs i1) p.name p.key).getD []).length c94), (.slice a108 ((getF (stateC cs i2) p.name p.key).getD []).length c109)]) (map2 rfl rfl) rfl (ent_34 _ _)) (tells_bool (equalH_spec _ _ _ _ ((getF (stateC cs i1) p.name p.key).getD []) ((getF (stateC cs i2) p.name p.key).getD []) (S115).sat (r95.mono le105) r110) (beq_eq_false_iff_ne.2 hcv)) (fun w121 S122 => ?_)
    simp only [pS, pN, pA, pC, pZ]
    refine do_ rfl (.bool false) (ex_pick (b := true) rfl) ?_
    simp only [pS, pN, pA, pC, pZ]
    refine wl_nil (hK117 _ _ ?_)
    refine wp_cond_false rfl ?_
    refine wp_skip ?_
    refine hK116 _ _ ?_
    refine wp_seq_k (fun K123 hK123 => ?_)
    obtain ⟨S124, le125, hc126⟩ := St.freezeBlk S122 (i := 0) rfl
    generalize addF F104 w121 n111 = F127 at *
    have S124 : St w F w121 F127 [⟨n96, [(.bool (getF (stateC cs i1) p.name p.key).isSome), (.slice a93 ((getF (stateC cs i1) p.name p.key).getD []).length c94)], 38⟩, ⟨n81, [(.slice xa69 p.name.length xc70), (.slice xa73 p.key.length xc74), (.bool p.gone), (.slice xa78 p.value.length xc79)], 27⟩] [ownP 4 WrC WrC.mono 27 w.heap.size v (chgs (stateC cs i1) (stateC cs i2) (ps.take i))] := S124
    refine region_hl S124 (by kernel_rfl) (fun w129 S128 => ?_)
    refine hl_take 0 rfl (by kernel_rfl) (v := (.pointer (some ⟨n111, 0, none⟩))) (fun _ _ _ h => h) S128.sat rfl (fun w130 hs131 => ex_field (q := ⟨n111, 0, none⟩) rfl (fa_38_0 _ _)) ?_
    simp only [pS, pN, pA, pC, pZ]
    refine hl_take 1 rfl (by kernel_rfl) (v := (.bool (getF (stateC cs i2) p.name p.key).isSome)) (fun _ _ _ h => h) S128.sat rfl (fun w132 hs133 => ex_load rfl (load1 (nagg_4 _) (St.fz (St.start hs133) (hc126 0 _ rfl)))) ?_
    simp only [pS, pN, pA, pC, pZ]
    refine hl_take 2 rfl (by kernel_rfl) (v := (.bool (!(getF (stateC cs i2) p.name p.key).isSome))) (fun _ _ _ h => h) S128.sat rfl (fun w134 hs135 => ex_not rfl rfl) ?_
    simp only [pS, pN, pA, pC, pZ]
    refine hl_take 3 rfl (by kernel_rfl) (v := (.pointer (some ⟨n111, 1, none⟩))) (fun _ _ _ h => h) S128.sat rfl (fun w136 hs137 => ex_field (q := ⟨n111, 1, none⟩) rfl (fa_38_1 _ _)) ?_
    simp only [pS, pN, pA, pC, pZ]
    refine hl_take 4 rfl (by kernel_rfl) (v := (.slice a108 ((getF (stateC cs i2) p.name p.key).getD []).length c109)) (fun _ _ _ h => h) S128.sat rfl (fun w138 hs139 => ex_load rfl (load1 (nagg_25 _) (St.fz (St.start hs139) (hc126 1 _ rfl)))) ?_
    simp only [pS, pN, pA, pC, pZ]
    refine hl_take 5 rfl (by kernel_rfl) (v := (.pointer (some ⟨n81, 2, none⟩))) (fun _ _ _ h => h) S128.sat rfl (fun w140 hs141 => ex_field (q := ⟨n81, 2, none⟩) rfl (fa_27_2 _ _)) ?_
    simp only [pS, pN, pA, pC, pZ]
    refine hl_next 6 (by kernel_rfl) rfl ?_
    refine stStore (i := 1) (v := (.bool (!(getF (stateC cs i2) p.name p.key).isSome))) S128 rfl rfl rfl rfl (size_4) (allc1 rfl) (Nat.le_of_ble_eq_true rfl) (fun w142 S143 => ?_)
    simp only [pS, pN, pA, pC, pZ]
    have S143 : St w F w142 F127 [⟨n96, [(.bool (getF (stateC cs i1) p.name p.key).isSome), (.slice a93 ((getF (stateC cs i1) p.name p.key).getD []).length c94)], 38⟩, ⟨n81, [(.slice xa69 p.name.length xc70), (.slice xa73 p.key.length xc74), (.bool (!(getF (stateC cs i2) p.name p.key).isSome)), (.slice xa78 p.value.length xc79)], 27⟩] [ownP 4 WrC WrC.mono 27 w.heap.size v (chgs (stateC cs i1) (stateC cs i2) (ps.take i))] := S143
    refine wl_nil (hl_back S143.sat ?_)
    refine hl_take 7 rfl (by kernel_rfl) (v := (.pointer (some ⟨n81, 3, none⟩))) (fun _ _ _ h => h) S143.sat rfl (fun w144 hs145 => ex_field (q := ⟨n81, 3, none⟩) rfl (fa_27_3 _ _)) ?_
    simp only [pS, pN, pA, pC, pZ]
    refine hl_next 8 (by kernel_rfl) rfl ?_
    refine stStore (i := 1) (v := (.slice a108 ((getF (stateC cs i2) p.name p.key).getD []).length c109)) S143 rfl rfl rfl rfl (size_25) (allc1 rfl) (Nat.le_of_ble_eq_true rfl) (fun w146 S147 => ?_)
    simp only [pS, pN, pA, pC, pZ]
    have S147 : St w F w146 F127 [⟨n96, [(.bool (getF (stateC cs i1) p.name p.key).isSome), (.slice a93 ((getF (stateC cs i1) p.name p.key).getD []).length c94)], 38⟩, ⟨n81, [(.slice xa69 p.name.length xc70), (.slice xa73 p.key.length xc74), (.bool (!(getF (stateC cs i2) p.name p.key).isSome)), (.slice a108 ((getF (stateC cs i2) p.name p.key).getD []).length c109)], 27⟩] [ownP 4 WrC WrC.mono 27 w.heap.size v (chgs (stateC cs i1) (stateC cs i2) (ps.take i))] := S147
    refine wl_nil (hl_back S147.sat ?_)
    refine hl_done (by kernel_rfl) ?_
    refine hK123 _ _ ?_
    refine region_wl ?_
    refine do_ rfl v (ex_move _) ?_
    simp only [pS, pN, pA, pC, pZ]
    refine do_ rfl (.agg #[(.slice xa69 p.name.length xc70), (.slice xa73 p.key.length xc74), (.bool (!(getF (stateC cs i2) p.name p.key).isSome)), (.slice a108 ((getF (stateC cs i2) p.name p.key).getD []).length c109)]) (ex_load rfl (loadN (cs := [(.slice xa69 p.name.length xc70), (.slice xa73 p.key.length xc74), (.bool (!(getF (stateC cs i2) p.name p.key).isSome)), (.slice a108 ((getF (stateC cs i2) p.name p.key).getD []).length c109)]) Try.underlying27 rfl (size_27) (St.range S147 (i := 1) rfl 0 [(.slice xa69 p.name.length xc70), (.slice xa73 p.key.length xc74), (.bool (!(getF (stateC cs i2) p.name p.key).isSome)), (.slice a108 ((getF (stateC cs i2) p.name p.key).getD []).length c109)] (sub_range 0 rfl)))) ?_
    simp only [pS, pN, pA, pC, pZ]
    refine stNew S147 (v := fun n => .slice (some ⟨n, 0, none⟩) 1 1) rfl (ex_lit (ps := #[(0, (.agg #[(.slice xa69 p.name.length xc70), (.slice xa73 p.key.length xc74), (.bool (!(getF (stateC cs i2) p.name p.key).isSome)), (.slice a108 ((getF (stateC cs i2) p.name p.key).getD []).length c109)]))]) (cells := #[(.slice xa69 p.name.length xc70), (.slice xa73 p.key.length xc74), (.bool (!(getF (stateC cs i2) p.name p.key).isSome)), (.slice a108 ((getF (stateC cs i2) p.name p.key).getD []).length c109)]) (E := 27) (bmap1 rfl) (fun w => by kernel_rfl)) (fun n148 w149 S150 => ?_)
    simp only [pS, pN, pA, pC, pZ]
    have S150 : St w F w149 F127 [⟨n148, [(.slice xa69 p.name.length xc70), (.slice xa73 p.key.length xc74), (.bool (!(getF (stateC cs i2) p.name p.key).isSome)), (.slice a108 ((getF (stateC cs i2) p.name p.key).getD []).length c109)], 27⟩, ⟨n96, [(.bool (getF (stateC cs i1) p.name p.key).isSome), (.slice a93 ((getF (stateC cs i1) p.name p.key).getD []).length c94)], 38⟩, ⟨n81, [(.slice xa69 p.name.length xc70), (.slice xa73 p.key.length xc74), (.bool (!(getF (stateC cs i2) p.name p.key).isSome)), (.slice a108 ((getF (stateC cs i2) p.name p.key).getD []).length c109)], 27⟩] [ownP 4 WrC WrC.mono 27 w.heap.size v (chgs (stateC cs i1) (stateC cs i2) (ps.take i))] := S150
    have hcg := chgs_len (stateC cs i1) (stateC cs i2) (ps.take i)
    have hcl2 := List.length_take_le i ps
    refine stPush (i := 0) (r := 0) (p := (chgW (stateC cs i2) p)) (cs := [(.slice xa69 p.name.length xc70), (.slice xa73 p.key.length xc74), (.bool (!(getF (stateC cs i2) p.name p.key).isSome)), (.slice a108 ((getF (stateC cs i2) p.name p.key).getD []).length c109)]) S150 rfl i27 (.agg #[(.slice none 0 0), (.slice none 0 0), (.bool false), (.slice none 0 0)]) 80 Try.underlying47 hi27 hz27 hs27 hb27 rfl (by decide) rfl rfl rfl rfl rfl (WrC.oneCell (p := chgW (stateC cs i2) p) ⟨_, _, _, _, rfl, (r71.mono ((le90.trans le105).trans le125)), (r75.mono ((le90.trans le105).trans le125)), rfl, (r110.mono le125)⟩) (⟨_, _, _, _, rfl, (r71.mono ((le90.trans le105).trans le125)), (r75.mono ((le90.trans le105).trans le125)), rfl, (r110.mono le125)⟩) (Nat.le_refl _) S150.gr.below.size (by unfold maxLen; omega) (by omega) ?_
    intro v151 w152 S153 hn154
    simp only [pS, pN, pA, pC, pZ]
    have S153 := St.drop S153 (L' := [⟨n96, [(.bool (getF (stateC cs i1) p.name p.key).isSome), (.slice a93 ((getF (stateC cs i1) p.name p.key).getD []).length c94)], 38⟩, ⟨n81, [(.slice xa69 p.name.length xc70), (.slice xa73 p.key.length xc74), (.bool (!(getF (stateC cs i2) p.name p.key).isSome)), (.slice a108 ((getF (stateC cs i2) p.name p.key).getD []).length c109)], 27⟩]) (.cons _ (List.Sublist.refl _))
    have S153 : St w F w152 F127 [⟨n96, [(.bool (getF (stateC cs i1) p.name p.key).isSome), (.slice a93 ((getF (stateC cs i1) p.name p.key).getD []).length c94)], 38⟩, ⟨n81, [(.slice xa69 p.name.length xc70), (.slice xa73 p.key.length xc74), (.bool (!(getF (stateC cs i2) p.name p.key).isSome)), (.slice a108 ((getF (stateC cs i2) p.name p.key).getD []).length c109)], 27⟩] [ownP 4 WrC WrC.mono 27 w.heap.size v151 ((chgs (stateC cs i1) (stateC cs i2) (ps.take i)) ++ [(chgW (stateC cs i2) p)])] := S153
    refine do_ rfl v151 (ex_assign _) ?_
    simp only [pS, pN, pA, pC, pZ]
    refine wl_nil (hK63 _ _ ?_)
    refine region_wl ?_
    refine do_ rfl (.int .i64 (((i + 1) : Nat) : Int)) (ex_add (m := ((i : Nat) : Int)) (n := (1 : Int)) (r := (((i + 1) : Nat) : Int)) rfl rfl (by omega) (by omega) (by omega)) ?_
    simp only [pS, pN, pA, pC, pZ]
    refine do_ rfl (.int .i64 (((i + 1) : Nat) : Int)) (ex_move _) ?_
    simp only [pS, pN, pA, pC, pZ]
    refine wl_nil ?_
    have S153 := St.drop S153 (L' := []) (.cons _ (.cons _ (List.Sublist.refl _)))
    have he155 := chgs_more hp hne
    rw [he155] at S153
    exact hK60 _ _ _ (by omega) ⟨(i + 1), v151, F127, _, rfl, rfl, rfl, S153, (((le59.trans le90).trans le105).trans le125), (by omega)⟩
  ·have hne : ¬ (getF (stateC cs i1) p.name p.key) = (getF (stateC cs i2) p.name p.key) := fun e => hce (by rw [e])
   refine region_wl ?_
   refine do_ rfl (.pointer (some ⟨n96, 0, none⟩)) (ex_field (q := ⟨n96, 0, none⟩) rfl (fa_38_0 _ _)) ?_
   simp only [pS, pN, pA, pC, pZ]
   refine do_ rfl (.bool (getF (stateC cs i1) p.name p.key).isSome) (ex_load rfl (load1 (nagg_4 _) (St.cell S115 (i := 1) rfl rfl))) ?_
   simp only [pS, pN, pA, pC, pZ]
   refine do_ rfl (.pointer (some ⟨n111, 0, none⟩)) (ex_field (q := ⟨n111, 0, none⟩) rfl (fa_38_0 _ _)) ?_
   simp only [pS, pN, pA, pC, pZ]
   refine do_ rfl (.bool (getF (stateC cs i2) p.name p.key).isSome) (ex_load rfl (load1 (nagg_4 _) (St.cell S115 (i := 0) rfl rfl))) ?_
   simp only [pS, pN, pA, pC, pZ]
   refine do_ rfl (.bool false) (ex_eqlB Try.underlying4 rfl rfl (beq_eq_false_iff_ne.2 hce)) ?_
   simp only [pS, pN, pA, pC, pZ]
   refine do_ rfl (.bool false) (ex_move _) ?_
   simp only [pS, pN, pA, pC, pZ]
   refine doN (wanted_no rfl rfl rfl (c := false) rfl (by decide)) ?_
   simp only [pS, pN, pA, pC, pZ]
   refine doN (wanted_no rfl rfl rfl (c := false) rfl (by decide)) ?_
   simp only [pS, pN, pA, pC, pZ]
   refine doN (wanted_no rfl rfl rfl (c := false) rfl (by decide)) ?_
   simp only [pS, pN, pA, pC, pZ]
   refine doN (wanted_no rfl rfl rfl (c := false) rfl (by decide)) ?_
   simp only [pS, pN, pA, pC, pZ]
   refine doN (wanted_no rfl rfl rfl (c := false) rfl (by decide)) ?_
   simp only [pS, pN, pA, pC, pZ]
   refine do_ rfl (.bool false) (ex_pick (b := false) rfl) ?_
   simp only [pS, pN, pA, pC, pZ]
   refine wl_nil (hK117 _ _ ?_)
   refine wp_cond_false rfl ?_
   refine wp_skip ?_
   refine hK116 _ _ ?_
   refine wp_seq_k (fun K156 hK156 => ?_)
   obtain ⟨S157, le158, hc159⟩ := St.freezeBlk S115 (i := 0) rfl
   generalize addF F104 w114 n111 = F160 at *
   have S157 : St w F w114 F160 [⟨n96, [(.bool (getF (stateC cs i1) p.name p.key).isSome), (.slice a93 ((getF (stateC cs i1) p.name p.key).getD []).length c94)], 38⟩, ⟨n81, [(.slice xa69 p.name.length xc70), (.slice xa73 p.key.length xc74), (.bool p.gone), (.slice xa78 p.value.length xc79)], 27⟩] [ownP 4 WrC WrC.mono 27 w.heap.size v (chgs (stateC cs i1) (stateC cs i2) (ps.take i))] := S157
   refine region_hl S157 (by kernel_rfl) (fun w162 S161 => ?_)
   refine hl_take 0 rfl (by kernel_rfl) (v := (.pointer (some ⟨n111, 0, none⟩))) (fun _ _ _ h => h) S161.sat rfl (fun w163 hs164 => ex_field (q := ⟨n111, 0, none⟩) rfl (fa_38_0 _ _)) ?_
   simp only [pS, pN, pA, pC, pZ]
   refine hl_take 1 rfl (by kernel_rfl) (v := (.bool (getF (stateC cs i2) p.name p.key).isSome)) (fun _ _ _ h => h) S161.sat rfl (fun w165 hs166 => ex_load rfl (load1 (nagg_4 _) (St.fz (St.start hs166) (hc159 0 _ rfl)))) ?_
   simp only [pS, pN, pA, pC, pZ]
   refine hl_take 2 rfl (by kernel_rfl) (v := (.bool (!(getF (stateC cs i2) p.name p.key).isSome))) (fun _ _ _ h => h) S161.sat rfl (fun w167 hs168 => ex_not rfl rfl) ?_
   simp only [pS, pN, pA, pC, pZ]
   refine hl_take 3 rfl (by kernel_rfl) (v := (.pointer (some ⟨n111, 1, none⟩))) (fun _ _ _ h => h) S161.sat rfl (fun w169 hs170 => ex_field (q := ⟨n111, 1, none⟩) rfl (fa_38_1 _ _)) ?_
   simp only [pS, pN, pA, pC, pZ]
   refine hl_take 4 rfl (by kernel_rfl) (v := (.slice a108 ((getF (stateC cs i2) p.name p.key).getD []).length c109)) (fun _ _ _ h => h) S161.sat rfl (fun w171 hs172 => ex_load rfl (load1 (nagg_25 _) (St.fz (St.start hs172) (hc159 1 _ rfl)))) ?_
   simp only [pS, pN, pA, pC, pZ]
   refine hl_take 5 rfl (by kernel_rfl) (v := (.pointer (some ⟨n81, 2, none⟩))) (fun _ _ _ h => h) S161.sat rfl (fun w173 hs174 => ex_field (q := ⟨n81, 2, none⟩) rfl (fa_27_2 _ _)) ?_
   simp only [pS, pN, pA, pC, pZ]
   refine hl_next 6 (by kernel_rfl) rfl ?_
   refine stStore (i := 1) (v := (.bool (!(getF (stateC cs i2) p.name p.key).isSome))) S161 rfl rfl rfl rfl (size_4) (allc1 rfl) (Nat.le_of_ble_eq_true rfl) (fun w175 S176 => ?_)
   simp only [pS, pN, pA, pC, pZ]
   have S176 : St w F w175 F160 [⟨n96, [(.bool (getF (stateC cs i1) p.name p.key).isSome), (.slice a93 ((getF (stateC cs i1) p.name p.key).getD []).length c94)], 38⟩, ⟨n81, [(.slice xa69 p.name.length xc70), (.slice xa73 p.key.length xc74), (.bool (!(getF (stateC cs i2) p.name p.key).isSome)), (.slice xa78 p.value.length xc79)], 27⟩] [ownP 4 WrC WrC.mono 27 w.heap.size v (chgs (stateC cs i1) (stateC cs i2) (ps.take i))] := S176
   refine wl_nil (hl_back S176.sat ?_)
   refine hl_take 7 rfl (by kernel_rfl) (v := (.pointer (some ⟨n81, 3, none⟩))) (fun _ _ _ h => h) S176.sat rfl (fun w177 hs178 => ex_field (q := ⟨n81, 3, none⟩) rfl (fa_27_3 _ _)) ?_
   simp only [pS, pN, pA, pC, pZ]
   refine hl_next 8 (by kernel_rfl) rfl ?_
   refine stStore (i := 1) (v := (.slice a108 ((getF (stateC cs i2) p.name p.key).getD []).length c109)) S176 rfl rfl rfl rfl (size_25) (allc1 rfl) (Nat.le_of_ble_eq_true rfl) (fun w179 S180 => ?_)
   simp only [pS, pN, pA, pC, pZ]
   have S180 : St w F w179 F160 [⟨n96, [(.bool (getF (stateC cs i1) p.name p.key).isSome), (.slice a93 ((getF (stateC cs i1) p.name p.key).getD []).length c94)], 38⟩, ⟨n81, [(.slice xa69 p.name.length xc70), (.slice xa73 p.key.length xc74), (.bool (!(getF (stateC cs i2) p.name p.key).isSome)), (.slice a108 ((getF (stateC cs i2) p.name p.key).getD []).length c109)], 27⟩] [ownP 4 WrC WrC.mono 27 w.heap.size v (chgs (stateC cs i1) (stateC cs i2) (ps.take i))] := S180
   refine wl_nil (hl_back S180.sat ?_)
   refine hl_done (by kernel_rfl) ?_
   refine hK156 _ _ ?_
   refine region_wl ?_
   refine do_ rfl v (ex_move _) ?_
   simp only [pS, pN, pA, pC, pZ]
   refine do_ rfl (.agg #[(.slice xa69 p.name.length xc70), (.slice xa73 p.key.length xc74), (.bool (!(getF (stateC cs i2) p.name p.key).isSome)), (.slice a108 ((getF (stateC cs i2) p.name p.key).getD []).length c109)]) (ex_load rfl (loadN (cs := [(.slice xa69 p.name.length xc70), (.slice xa73 p.key.length xc74), (.bool (!(getF (stateC cs i2) p.name p.key).isSome)), (.slice a108 ((getF (stateC cs i2) p.name p.key).getD []).length c109)]) Try.underlying27 rfl (size_27) (St.range S180 (i := 1) rfl 0 [(.slice xa69 p.name.length xc70), (.slice xa73 p.key.length xc74), (.bool (!(getF (stateC cs i2) p.name p.key).isSome)), (.slice a108 ((getF (stateC cs i2) p.name p.key).getD []).length c109)] (sub_range 0 rfl)))) ?_
   simp only [pS, pN, pA, pC, pZ]
   refine stNew S180 (v := fun n => .slice (some ⟨n, 0, none⟩) 1 1) rfl (ex_lit (ps := #[(0, (.agg #[(.slice xa69 p.name.length xc70), (.slice xa73 p.key.length xc74), (.bool (!(getF (stateC cs i2) p.name p.key).isSome)), (.slice a108 ((getF (stateC cs i2) p.name p.key).getD []).length c109)]))]) (cells := #[(.slice xa69 p.name.length xc70), (.slice xa73 p.key.length xc74), (.bool (!(getF (stateC cs i2) p.name p.key).isSome)), (.slice a108 ((getF (stateC cs i2) p.name p.key).getD []).length c109)]) (E := 27) (bmap1 rfl) (fun w => by kernel_rfl)) (fun n181 w182 S183 => ?_)
   simp only [pS, pN, pA, pC, pZ]
   have S183 : St w F w182 F160 [⟨n181, [(.slice xa69 p.name.length xc70), (.slice xa73 p.key.length xc74), (.bool (!(getF (stateC cs i2) p.name p.key).isSome)), (.slice a108 ((getF (stateC cs i2) p.name p.key).getD []).length c109)], 27⟩, ⟨n96, [(.bool (getF (stateC cs i1) p.name p.key).isSome), (.slice a93 ((getF (stateC cs i1) p.name p.key).getD []).length c94)], 38⟩, ⟨n81, [(.slice xa69 p.name.length xc70), (.slice xa73 p.key.length xc74), (.bool (!(getF (stateC cs i2) p.name p.key).isSome)), (.slice a108 ((getF (stateC cs i2) p.name p.key).getD []).length c109)], 27⟩] [ownP 4 WrC WrC.mono 27 w.heap.size v (chgs (stateC cs i1) (stateC cs i2) (ps.take i))] := S183
   have hcg := chgs_len (stateC cs i1) (stateC cs i2) (ps.take i)
   have hcl2 := List.length_take_le i ps
   refine stPush (i := 0) (r := 0) (p := (chgW (stateC cs i2) p)) (cs := [(.slice xa69 p.name.length xc70), (.slice xa73 p.key.length xc74), (.bool (!(getF (stateC cs i2) p.name p.key).isSome)), (.slice a108 ((getF (stateC cs i2) p.name p.key).getD []).length c109)]) S183 rfl i27 (.agg #[(.slice none 0 0), (.slice none 0 0), (.bool false), (.slice none 0 0)]) 80 Try.underlying47 hi27 hz27 hs27 hb27 rfl (by decide) rfl rfl rfl rfl rfl (WrC.oneCell (p := chgW (stateC cs i2) p) ⟨_, _, _, _, rfl, (r71.mono ((le90.trans le105).trans le158)), (r75.mono ((le90.trans le105).trans le158)), rfl, (r110.mono le158)⟩) (⟨_, _, _, _, rfl, (r71.mono ((le90.trans le105).trans le158)), (r75.mono ((le90.trans le105).trans le158)), rfl, (r110.mono le158)⟩) (Nat.le_refl _) S183.gr.below.size (by unfold maxLen; omega) (by omega) ?_
   intro v184 w185 S186 hn187
   simp only [pS, pN, pA, pC, pZ]
   have S186 := St.drop S186 (L' := [⟨n96, [(.bool (getF (stateC cs i1) p.name p.key).isSome), (.slice a93 ((getF (stateC cs i1) p.name p.key).getD []).length c94)], 38⟩, ⟨n81, [(.slice xa69 p.name.length xc70), (.slice xa73 p.key.length xc74), (.bool (!(getF (stateC cs i2) p.name p.key).isSome)), (.slice a108 ((getF (stateC cs i2) p.name p.key).getD []).length c109)], 27⟩]) (.cons _ (List.Sublist.refl _))
   have S186 : St w F w185 F160 [⟨n96, [(.bool (getF (stateC cs i1) p.name p.key).isSome), (.slice a93 ((getF (stateC cs i1) p.name p.key).getD []).length c94)], 38⟩, ⟨n81, [(.slice xa69 p.name.length xc70), (.slice xa73 p.key.length xc74), (.bool (!(getF (stateC cs i2) p.name p.key).isSome)), (.slice a108 ((getF (stateC cs i2) p.name p.key).getD []).length c109)], 27⟩] [ownP 4 WrC WrC.mono 27 w.heap.size v184 ((chgs (stateC cs i1) (stateC cs i2) (ps.take i)) ++ [(chgW (stateC cs i2) p)])] := S186
   refine do_ rfl v184 (ex_assign _) ?_
   simp only [pS, pN, pA, pC, pZ]
   refine wl_nil (hK63 _ _ ?_)
   refine region_wl ?_
   refine do_ rfl (.int .i64 (((i + 1) : Nat) : Int)) (ex_add (m := ((i : Nat) : Int)) (n := (1 : Int)) (r := (((i + 1) : Nat) : Int)) rfl rfl (by omega) (by omega) (by omega)) ?_
   simp only [pS, pN, pA, pC, pZ]
   refine do_ rfl (.int .i64 (((i + 1) : Nat) : Int)) (ex_move _) ?_
   simp only [pS, pN, pA, pC, pZ]
   refine wl_nil ?_
   have S186 := St.drop S186 (L' := []) (.cons _ (.cons _ (List.Sublist.refl _)))
   have he188 := chgs_more hp hne
   rw [he188] at S186
   exact hK60 _ _ _ (by omega) ⟨(i + 1), v184, F160, _, rfl, rfl, rfl, S186, (((le59.trans le90).trans le105).trans le158), (by omega)⟩
 ·refine do_ rfl (.bool false) (ex_lss (m := ((i : Nat) : Int)) (n := ((ps.length : Nat) : Int)) (b := false) rfl rfl (decide_eq_false (by omega))) ?_
  simp only [pS, pN, pA, pC, pZ]
  refine wl_nil (hK61 _ _ ?_)
  refine wp_seq_k (fun K189 hK189 => ?_)
  refine wp_cond_false rfl ?_
  refine wp_exit ?_
  refine hK31 _ _ ?_
  refine wp_seq_k (fun K190 hK190 => region_wl ?_)
  refine do_ rfl v (ex_move _) ?_
  simp only [pS, pN, pA, pC, pZ]
  refine do_ rfl v (ex_assign _) ?_
  simp only [pS, pN, pA, pC, pZ]
  refine do_ rfl (.int .i64 0) (ex_assign _) ?_
  simp only [pS, pN, pA, pC, pZ]
  refine wl_nil (hK190 _ _ ?_)
  refine wp_ret ?_
  (try simp only [Exit.then, Exit.inBlock, ↓reduceIte, Nat.reduceEqDiff])
  refine bodyPost_ret (v := (.tuple #[v, (.int .i64 0)])) ?_ rfl ?_
  ·exact res_tt rfl rfl rfl
  ·rw [List.take_of_length_le (by omega)] at S58
   obtain ⟨F9, S9, le9, hv9⟩ := St.freeze S58 (i := 0) rfl (Nat.le_refl _)
   exact ⟨_, _, rfl, S9.gr, ps, _, hpl, rfl, hv9⟩
end Go.Proofs.Ytlimmmidfhpakaa
