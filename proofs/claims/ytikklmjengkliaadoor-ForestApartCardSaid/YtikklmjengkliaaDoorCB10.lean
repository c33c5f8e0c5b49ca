/- Rules, plain laws and walks: RP3 RU1 RU2 RV TD -/
import Derived.Test.YtikklmjengkliaaDoorCB9
import Derived.RangeFuncNested
import Derived.RangeFuncLeaves
import Derived.RangeFuncCalls
import Derived.Test.YtikklmjengkliaaDoorCB7
namespace Go.Proofs.YtikklmjengkliaaDoor
open Go.RowKit
set_option maxRecDepth 100000
set_option linter.unusedVariables false
set_option linter.unusedSimpArgs false
/-- Steps as a proof that was made has them. -/
def StpsOk (l : List Stp) : Prop := ∀ s ∈ l, s.bit < 145 ∧ s.other.length = 32
theorem wayB_step {k pk : By} {last : Int} {l : List Stp} {i : Nat} {s : Stp} (hp : l[i]? = some s) (h1 : last < s.bit) (h2 : bitL k s.bit = s.right) (h3 : bitL pk s.bit = s.right) (hs : s.bit < 145) (ho : s.other.length = 32) : wayB k pk last (l.drop i) = wayB k pk s.bit (l.drop (i + 1)) := by
  obtain ⟨hi, rfl⟩ := List.getElem?_eq_some_iff.1 hp
  rw [List.drop_eq_getElem_cons hi, wayB, h2, h3]
  simp [h1, hs, ho]
theorem wayB_bad {k pk : By} {last : Int} {l : List Stp} {i : Nat} {s : Stp} (hp : l[i]? = some s) (h : ¬ (last < s.bit) ∨ bitL k s.bit ≠ s.right ∨ bitL pk s.bit ≠ s.right) : wayB k pk last (l.drop i) = false := by
  obtain ⟨hi, rfl⟩ := List.getElem?_eq_some_iff.1 hp
  rw [List.drop_eq_getElem_cons hi, wayB]
  rcases h with h | h | h
  · simp [h]
  · simp [h]
  · simp [h]
set_option maxHeartbeats 8000000 in
theorem noneP_spec (F : Fz) (w : World) (v : Value) (p : Pr) (hs : Sat w F) (hv : Pr2V F v p) (hp : p = ([], [])) :
    Calls Tryd.prog 100 #[v] w (Tells w (.bool true)) := by
 obtain ⟨x0, y0, x1, y1, rfl, h0, h1⟩ := hv
 have e1 : p.1.length = 0 := by rw [hp]; rfl
 have e2 : p.2.length = 0 := by rw [hp]; rfl
 have S := St.start hs
 go_enter Tryd.func100, Tryd.ntmps100
 refine wp_seq_k (fun K1 hK1 => region_wl ?_)
 refine stNew S (v := fun n => .pointer (some ⟨n, 0, none⟩)) rfl (ex_box (v := (.agg #[(.slice x0 p.1.length y0), (.slice x1 p.2.length y1)])) rfl) (fun n2 w3 S4 => ?_)
 simp only [pS, pN, pA, pC, pZ]
 have S4 : St w F w3 F [⟨n2, [(.slice x0 p.1.length y0), (.slice x1 p.2.length y1)], 34⟩] [] := S4
 refine do_ rfl (.bool false) (ex_assign _) ?_
 simp only [pS, pN, pA, pC, pZ]
 refine wl_nil (hK1 _ _ ?_)
 refine wp_seq_k (fun K5 hK5 => region_wl ?_)
 refine do_ rfl (.pointer (some ⟨n2, 0, none⟩)) (ex_field (q := ⟨n2, 0, none⟩) rfl (fa_34_0 _ _)) ?_
 simp only [pS, pN, pA, pC, pZ]
 refine do_ rfl (.slice x0 p.1.length y0) (ex_load rfl (load1 (nagg_23 _) (St.cell S4 (i := 0) rfl rfl))) ?_
 simp only [pS, pN, pA, pC, pZ]
 refine do_ rfl (.int .i64 ((p.1.length : Nat) : Int)) (ex_len Tryd.underlying23 rfl) ?_
 simp only [pS, pN, pA, pC, pZ]
 refine do_ rfl (.pointer (some ⟨n2, 1, none⟩)) (ex_field (q := ⟨n2, 1, none⟩) rfl (fa_34_1 _ _)) ?_
 simp only [pS, pN, pA, pC, pZ]
 refine do_ rfl (.slice x1 p.2.length y1) (ex_load rfl (load1 (nagg_23 _) (St.cell S4 (i := 0) rfl rfl))) ?_
 simp only [pS, pN, pA, pC, pZ]
 refine do_ rfl (.int .i64 ((p.2.length : Nat) : Int)) (ex_len Tryd.underlying23 rfl) ?_
 simp only [pS, pN, pA, pC, pZ]
 refine do_ rfl (.int .i64 (((p.1.length + p.2.length) : Nat) : Int)) (ex_add (m := ((p.1.length : Nat) : Int)) (n := ((p.2.length : Nat) : Int)) (r := (((p.1.length + p.2.length) : Nat) : Int)) rfl rfl (by omega) (by omega) (by omega)) ?_
 simp only [pS, pN, pA, pC, pZ]
 refine do_ rfl (.bool true) (ex_eql (m := (((p.1.length + p.2.length) : Nat) : Int)) (n := (0 : Int)) (b := true) rfl rfl (beq_iff_eq.2 (by omega))) ?_
 simp only [pS, pN, pA, pC, pZ]
 refine do_ rfl (.bool true) (ex_assign _) ?_
 simp only [pS, pN, pA, pC, pZ]
 refine wl_nil (hK5 _ _ ?_)
 refine wp_ret ?_
 (try simp only [Exit.then, Exit.inBlock, ↓reduceIte, Nat.reduceEqDiff])
 refine bodyPost_ret (v := (.bool true)) ?_ rfl ?_
 ·exact res_t rfl rfl
 ·exact ⟨rfl, S4.gr.below⟩
theorem check0_spec (F : Fz) (w : World) (v : Value) (l : List UInt8) (hv : Bs F v l) (hk : 1 ≤ l.length ∧ l.length ≤ 16) : Calls Tryd.prog 82 #[v] w fun e w' => e = .returned (.int .i64 0) ∧ w' = w := by
  have := check_spec F w v l hv
  rwa [checkN_ok hk.1 hk.2] at this
set_option maxHeartbeats 8000000 in
theorem checkEmpty_spec (F : Fz) (w : World) (v u : Value) (k : By) (p : Prf) (hs : Sat w F) (hu : Bs F u k) (hv : PrfV F v p) (hk : 1 ≤ k.length ∧ k.length ≤ 16) (he : p.empty = true) (hst : p.steps = []) (hpp : p.pair = ([], [])) :
    Calls Tryd.prog 79 #[u, v] w (Tells w (.int .i64 0)) := by
 obtain ⟨sa, sc, pa, pc, qa, qc, rfl, h1, h2, h3⟩ := hv
 obtain ⟨ka, kc, rfl, hk1, hk2⟩ := hu.shape
 obtain ⟨_, _, e1, q1, q2⟩ := Sl.shape h1
 injection e1 with _ _ e1
 subst e1
 unfold maxLen at hk2 q2
 rw [he]
 have e0 : p.steps.length = 0 := by rw [hst]; rfl
 have S := St.start hs
 go_enter Tryd.func79, Tryd.ntmps79
 refine wp_seq_k (fun K1 hK1 => region_wl ?_)
 refine stNew S (v := fun n => .pointer (some ⟨n, 0, none⟩)) rfl (ex_box (v := (.agg #[(.bool true), (.slice sa p.steps.length sc), (.slice pa p.pair.1.length pc), (.slice qa p.pair.2.length qc)])) rfl) (fun n2 w3 S4 => ?_)
 simp only [pS, pN, pA, pC, pZ]
 have S4 : St w F w3 F [⟨n2, [(.bool true), (.slice sa p.steps.length sc), (.slice pa p.pair.1.length pc), (.slice qa p.pair.2.length qc)], 49⟩] [] := S4
 refine do_ rfl (.int .i64 0) (ex_assign _) ?_
 simp only [pS, pN, pA, pC, pZ]
 refine wl_nil (hK1 _ _ ?_)
 refine wp_seq_k (fun K5 hK5 => ?_)
 refine wp_seq_k (fun K6 hK6 => region_wl ?_)
 refine do_ rfl (.slice ka k.length kc) (ex_move _) ?_
 simp only [pS, pN, pA, pC, pZ]
 refine stTells (v := (.int .i64 0)) S4 rfl (ex_fn (vs := #[(.slice ka k.length kc)]) (map1 rfl) rfl (ent_82 _ _)) (tells_same (check0_spec _ _ _ k hu hk)) (fun w7 S8 => ?_)
 simp only [pS, pN, pA, pC, pZ]
 refine do_ rfl (.int .i64 0) (ex_assign _) ?_
 simp only [pS, pN, pA, pC, pZ]
 refine wl_nil (hK6 _ _ ?_)
 refine wp_seq_k (fun K9 hK9 => region_wl ?_)
 refine do_ rfl (.int .i64 0) (ex_move _) ?_
 simp only [pS, pN, pA, pC, pZ]
 refine do_ rfl (.bool false) (ex_neq (m := (0 : Int)) (n := (0 : Int)) (b := false) rfl rfl (bne_eq_false_iff_eq.2 (by omega))) ?_
 simp only [pS, pN, pA, pC, pZ]
 refine wl_nil (hK9 _ _ ?_)
 refine wp_cond_false rfl ?_
 refine wp_skip ?_
 refine hK5 _ _ ?_
 refine wp_seq_k (fun K10 hK10 => ?_)
 refine wp_seq_k (fun K11 hK11 => region_wl ?_)
 refine do_ rfl (.pointer (some ⟨n2, 0, none⟩)) (ex_field (q := ⟨n2, 0, none⟩) rfl (fa_49_0 _ _)) ?_
 simp only [pS, pN, pA, pC, pZ]
 refine do_ rfl (.bool true) (ex_load rfl (load1 (nagg_4 _) (St.cell S8 (i := 0) rfl rfl))) ?_
 simp only [pS, pN, pA, pC, pZ]
 refine wl_nil (hK11 _ _ ?_)
 refine wp_cond_true rfl ?_
 refine wp_seq_k (fun K12 hK12 => ?_)
 refine wp_seq_k (fun K13 hK13 => region_wl ?_)
 refine do_ rfl (.pointer (some ⟨n2, 1, none⟩)) (ex_field (q := ⟨n2, 1, none⟩) rfl (fa_49_1 _ _)) ?_
 simp only [pS, pN, pA, pC, pZ]
 refine do_ rfl (.slice sa p.steps.length sc) (ex_load rfl (load1 (nagg_47 _) (St.cell S8 (i := 0) rfl rfl))) ?_
 simp only [pS, pN, pA, pC, pZ]
 refine do_ rfl (.int .i64 ((p.steps.length : Nat) : Int)) (ex_len Tryd.underlying47 rfl) ?_
 simp only [pS, pN, pA, pC, pZ]
 refine do_ rfl (.bool false) (ex_gtr (m := ((p.steps.length : Nat) : Int)) (n := (0 : Int)) (b := false) rfl rfl (decide_eq_false (by omega))) ?_
 simp only [pS, pN, pA, pC, pZ]
 refine do_ rfl (.bool false) (ex_move _) ?_
 simp only [pS, pN, pA, pC, pZ]
 refine do_ rfl (.pointer (some ⟨n2, 2, none⟩)) (ex_field (q := ⟨n2, 2, none⟩) rfl (fa_49_2 _ _)) ?_
 simp only [pS, pN, pA, pC, pZ]
 refine do_ rfl (.agg #[(.slice pa p.pair.1.length pc), (.slice qa p.pair.2.length qc)]) (ex_load rfl (loadN (cs := [(.slice pa p.pair.1.length pc), (.slice qa p.pair.2.length qc)]) Tryd.underlying34 rfl (size_34) (St.range S8 (i := 0) rfl 2 [(.slice pa p.pair.1.length pc), (.slice qa p.pair.2.length qc)] (sub_range 2 rfl)))) ?_
 simp only [pS, pN, pA, pC, pZ]
 refine stTells (v := (.bool true)) S8 rfl (ex_fn (vs := #[(.agg #[(.slice pa p.pair.1.length pc), (.slice qa p.pair.2.length qc)])]) (map1 rfl) rfl (ent_100 _ _)) (noneP_spec _ _ _ p.pair (S8).sat ⟨_, _, _, _, rfl, h2, h3⟩ hpp) (fun w14 S15 => ?_)
 simp only [pS, pN, pA, pC, pZ]
 refine do_ rfl (.bool false) (ex_not (b := true) rfl rfl) ?_
 simp only [pS, pN, pA, pC, pZ]
 refine do_ rfl (.bool false) (ex_pick (b := false) rfl) ?_
 simp only [pS, pN, pA, pC, pZ]
 refine wl_nil (hK13 _ _ ?_)
 refine wp_cond_false rfl ?_
 refine wp_skip ?_
 refine hK12 _ _ ?_
 refine wp_seq_k (fun K16 hK16 => region_wl ?_)
 refine do_ rfl (.int .i64 0) (ex_assign _) ?_
 simp only [pS, pN, pA, pC, pZ]
 refine wl_nil (hK16 _ _ ?_)
 refine wp_ret ?_
 (try simp only [Exit.then, Exit.inBlock, ↓reduceIte, Nat.reduceEqDiff])
 refine bodyPost_ret (v := (.int .i64 0)) ?_ rfl ?_
 ·exact res_t rfl rfl
 ·exact ⟨rfl, S15.gr.below⟩
set_option maxHeartbeats 8000000 in
theorem checkPair_spec (F : Fz) (w : World) (v u : Value) (k : By) (p : Prf) (hs : Sat w F) (hu : Bs F u k) (hv : PrfV F v p) (hk : 1 ≤ k.length ∧ k.length ≤ 16) (he : p.empty = false) (hpo : TreeOk 60 [p.pair]) (hso : StpsOk p.steps) (hl : p.steps.length ≤ 1000) :
    Calls Tryd.prog 79 #[u, v] w (Tells w (.int .i64 (if wayB k p.pair.1 (-1) p.steps = true then 0 else 4))) := by
 obtain ⟨sa, sc, pa, pc, qa, qc, rfl, h1, h2, h3⟩ := hv
 obtain ⟨ka, kc, rfl, hk1, hk2⟩ := hu.shape
 obtain ⟨_, _, e1, q1, q2⟩ := Sl.shape h1
 injection e1 with _ _ e1
 subst e1
 unfold maxLen at hk2 q2
 rw [he]
 have hpk := (hpo.ok p.pair (by simp))
 have hpk : 1 ≤ p.pair.1.length ∧ p.pair.1.length ≤ 16 := ⟨hpk.1, hpk.2.1⟩
 have S := St.start hs
 go_enter Tryd.func79, Tryd.ntmps79
 refine wp_seq_k (fun K1 hK1 => region_wl ?_)
 refine stNew S (v := fun n => .pointer (some ⟨n, 0, none⟩)) rfl (ex_box (v := (.agg #[(.bool false), (.slice sa p.steps.length sc), (.slice pa p.pair.1.length pc), (.slice qa p.pair.2.length qc)])) rfl) (fun n2 w3 S4 => ?_)
 simp only [pS, pN, pA, pC, pZ]
 have S4 : St w F w3 F [⟨n2, [(.bool false), (.slice sa p.steps.length sc), (.slice pa p.pair.1.length pc), (.slice qa p.pair.2.length qc)], 49⟩] [] := S4
 refine do_ rfl (.int .i64 0) (ex_assign _) ?_
 simp only [pS, pN, pA, pC, pZ]
 refine wl_nil (hK1 _ _ ?_)
 refine wp_seq_k (fun K5 hK5 => ?_)
 refine wp_seq_k (fun K6 hK6 => region_wl ?_)
 refine do_ rfl (.slice ka k.length kc) (ex_move _) ?_
 simp only [pS, pN, pA, pC, pZ]
 refine stTells (v := (.int .i64 0)) S4 rfl (ex_fn (vs := #[(.slice ka k.length kc)]) (map1 rfl) rfl (ent_82 _ _)) (tells_same (check0_spec _ _ _ k hu hk)) (fun w7 S8 => ?_)
 simp only [pS, pN, pA, pC, pZ]
 refine do_ rfl (.int .i64 0) (ex_assign _) ?_
 simp only [pS, pN, pA, pC, pZ]
 refine wl_nil (hK6 _ _ ?_)
 refine wp_seq_k (fun K9 hK9 => region_wl ?_)
 refine do_ rfl (.int .i64 0) (ex_move _) ?_
 simp only [pS, pN, pA, pC, pZ]
 refine do_ rfl (.bool false) (ex_neq (m := (0 : Int)) (n := (0 : Int)) (b := false) rfl rfl (bne_eq_false_iff_eq.2 (by omega))) ?_
 simp only [pS, pN, pA, pC, pZ]
 refine wl_nil (hK9 _ _ ?_)
 refine wp_cond_false rfl ?_
 refine wp_skip ?_
 refine hK5 _ _ ?_
 refine wp_seq_k (fun K10 hK10 => ?_)
 refine wp_seq_k (fun K11 hK11 => region_wl ?_)
 refine do_ rfl (.pointer (some ⟨n2, 0, none⟩)) (ex_field (q := ⟨n2, 0, none⟩) rfl (fa_49_0 _ _)) ?_
 simp only [pS, pN, pA, pC, pZ]
 refine do_ rfl (.bool false) (ex_load rfl (load1 (nagg_4 _) (St.cell S8 (i := 0) rfl rfl))) ?_
 simp only [pS, pN, pA, pC, pZ]
 refine wl_nil (hK11 _ _ ?_)
 refine wp_cond_false rfl ?_
 refine wp_skip ?_
 refine hK10 _ _ ?_
 refine wp_seq_k (fun K12 hK12 => ?_)
 refine wp_seq_k (fun K13 hK13 => region_wl ?_)
 refine do_ rfl (.pointer (some ⟨n2, 2, none⟩)) (ex_field (q := ⟨n2, 2, none⟩) rfl (fa_49_2 _ _)) ?_
 simp only [pS, pN, pA, pC, pZ]
 refine do_ rfl (.agg #[(.slice pa p.pair.1.length pc), (.slice qa p.pair.2.length qc)]) (ex_load rfl (loadN (cs := [(.slice pa p.pair.1.length pc), (.slice qa p.pair.2.length qc)]) Tryd.underlying34 rfl (size_34) (St.range S8 (i := 0) rfl 2 [(.slice pa p.pair.1.length pc), (.slice qa p.pair.2.length qc)] (sub_range 2 rfl)))) ?_
 simp only [pS, pN, pA, pC, pZ]
 refine stNew S8 (v := fun n => .slice (some ⟨n, 0, none⟩) 1 1) rfl (ex_lit (ps := #[(0, (.agg #[(.slice pa p.pair.1.length pc), (.slice qa p.pair.2.length qc)]))]) (cells := #[(.slice pa p.pair.1.length pc), (.slice qa p.pair.2.length qc)]) (E := 34) (bmap1 rfl) (fun w => by kernel_rfl)) (fun n14 w15 S16 => ?_)
 simp only [pS, pN, pA, pC, pZ]
 have S16 : St w F w15 F [⟨n14, [(.slice pa p.pair.1.length pc), (.slice qa p.pair.2.length qc)], 34⟩, ⟨n2, [(.bool false), (.slice sa p.steps.length sc), (.slice pa p.pair.1.length pc), (.slice qa p.pair.2.length qc)], 49⟩] [] := S16
 obtain ⟨S17, le18, hc19⟩ := St.freezeBlk S16 (i := 0) rfl
 have r21 : Prs _ (.slice (some ⟨n14, 0, none⟩) 1 1) ([(p.pair.1, p.pair.2)] : List Pr) := sl_of_block (R := PrC) (l := ([(p.pair.1, p.pair.2)] : List Pr)) (el := [[(.slice pa p.pair.1.length pc), (.slice qa p.pair.2.length qc)]]) hc19 rfl ⟨⟨_, _, rfl, (h2.mono le18), (h3.mono le18)⟩, trivial⟩ (by simp) (by unfold maxLen; simp)
 generalize addF F w15 n14 = F20 at *
 have S17 : St w F w15 F20 [⟨n2, [(.bool false), (.slice sa p.steps.length sc), (.slice pa p.pair.1.length pc), (.slice qa p.pair.2.length qc)], 49⟩] [] := S17
 refine stTells (v := (.int .i64 0)) S17 rfl (ex_fn (vs := #[(.slice (some ⟨n14, 0, none⟩) 1 1)]) (map1 rfl) rfl (ent_42 _ _)) (treeCheckOk_spec _ _ _ [p.pair] (S17).sat (by simpa using r21) hpo) (fun w22 S23 => ?_)
 simp only [pS, pN, pA, pC, pZ]
 refine do_ rfl (.bool false) (ex_neq (m := (0 : Int)) (n := (0 : Int)) (b := false) rfl rfl (bne_eq_false_iff_eq.2 (by omega))) ?_
 simp only [pS, pN, pA, pC, pZ]
 refine wl_nil (hK13 _ _ ?_)
 refine wp_cond_false rfl ?_
 refine wp_skip ?_
 refine hK12 _ _ ?_
 refine wp_seq_k (fun K24 hK24 => region_wl ?_)
 refine do_ rfl (.int .i64 (-1)) (ex_assign _) ?_
 simp only [pS, pN, pA, pC, pZ]
 refine wl_nil (hK24 _ _ ?_)
 refine wp_seq_k (fun K25 hK25 => ?_)
 refine wp_seq_k (fun K26 hK26 => region_wl ?_)
 refine do_ rfl (.pointer (some ⟨n2, 1, none⟩)) (ex_field (q := ⟨n2, 1, none⟩) rfl (fa_49_1 _ _)) ?_
 simp only [pS, pN, pA, pC, pZ]
 refine do_ rfl (.slice sa p.steps.length sc) (ex_load rfl (load1 (nagg_47 _) (St.cell S23 (i := 0) rfl rfl))) ?_
 simp only [pS, pN, pA, pC, pZ]
 refine do_ rfl (.int .i64 ((p.steps.length : Nat) : Int)) (ex_len Tryd.underlying47 rfl) ?_
 simp only [pS, pN, pA, pC, pZ]
 refine do_ rfl (.int .i64 0) (ex_move _) ?_
 simp only [pS, pN, pA, pC, pZ]
 refine wl_nil (hK26 _ _ ?_)
 refine wp_block ?_
 refine wp_loop_g (fun mm aa w29 => ∃ (i : Nat) (last : Int) (F27 : Fz) (u28 : Nat → Value), mm = p.steps.length - i ∧ u28 = slots aa ∧ aa = ⟨#[(.slice ka k.length kc), (.agg #[(.bool false), (.slice sa p.steps.length sc), (.slice pa p.pair.1.length pc), (.slice qa p.pair.2.length qc)]), undef, (.pointer (some ⟨n2, 0, none⟩)), (u28 4), (.int .i64 0), (.int .i64 last), undef, (u28 8), (u28 9), (u28 10), (u28 11), (u28 12), (.slice ka k.length kc), (.int .i64 0), (.int .i64 0), (.bool false), undef, (.pointer (some ⟨n2, 0, none⟩)), (.bool false), undef, undef, undef, undef, undef, undef, undef, undef, undef, undef, (.pointer (some ⟨n2, 2, none⟩)), (.agg #[(.slice pa p.pair.1.length pc), (.slice qa p.pair.2.length qc)]), (.slice (some ⟨n14, 0, none⟩) 1 1), (.int .i64 0), (.bool false), (.pointer (some ⟨n2, 1, none⟩)), (.slice sa p.steps.length sc), (.int .i64 ((p.steps.length : Nat) : Int)), (.int .i64 ((i : Nat) : Int)), (u28 39), (u28 40), (u28 41), (u28 42), (u28 43), (u28 44), (u28 45), (u28 46), (u28 47), (u28 48), (u28 49), (u28 50), (u28 51), (u28 52), (u28 53), (u28 54), (u28 55), (u28 56), (u28 57), (u28 58), (u28 59), (u28 60), (u28 61), (u28 62), (u28 63), (u28 64), (u28 65), (u28 66), (u28 67), (u28 68), (u28 69), (u28 70), (u28 71), (u28 72), (u28 73), (u28 74), (u28 75), (u28 76), (u28 77), (u28 78), (u28 79), (u28 80), (u28 81), (u28 82), (u28 83), (u28 84), (u28 85), (u28 86)], []⟩ ∧ St w F w29 F27 [⟨n2, [(.bool false), (.slice sa p.steps.length sc), (.slice pa p.pair.1.length pc), (.slice qa p.pair.2.length qc)], 49⟩] [] ∧ Le F20 F27 ∧ (i ≤ p.steps.length) ∧ (-1 ≤ last ∧ last ≤ 200) ∧ (wayB k p.pair.1 last (p.steps.drop i) = wayB k p.pair.1 (-1) p.steps)) _ ⟨0, (-1), F20, _, rfl, rfl, rfl, S23, Le.refl _, (by omega), (by omega), rfl⟩ ?_
 rintro m30 a31 w32 ⟨i, last, F27, u28, rfl, -, rfl, S33, le34, hi, hlast, hw⟩ K35 hK35
 refine wp_seq_k (fun K36 hK36 => region_wl ?_)
 by_cases hc39 : i < p.steps.length
 ·refine do_ rfl (.bool true) (ex_lss (m := ((i : Nat) : Int)) (n := ((p.steps.length : Nat) : Int)) (b := true) rfl rfl (decide_eq_true (by omega))) ?_
  simp only [pS, pN, pA, pC, pZ]
  refine wl_nil (hK36 _ _ ?_)
  refine wp_seq_k (fun K37 hK37 => ?_)
  refine wp_cond_true rfl ?_
  refine wp_skip ?_
  refine hK37 _ _ ?_
  refine wp_seq_k (fun K38 hK38 => ?_)
  refine wp_block ?_
  refine wp_seq_k (fun K39 hK39 => ?_)
  obtain ⟨q, hp⟩ : ∃ q, p.steps[i]? = some q := ⟨p.steps[i], List.getElem?_eq_getElem hc39⟩
  have hq := hso q (List.mem_of_getElem? hp)
  have hq1 := hq.1
  have hq2 := hq.2
  obtain ⟨b40, o41, ha42, xa46, xc47, c43, c44, c45, r48⟩ := Stps.get (h1.mono (le18.trans le34)) hp
  refine region_wl ?_
  refine do_ rfl (.pointer (some ⟨b40, o41 + i * 3, none⟩)) (ex_at (i := i) (sz := 3) Tryd.underlying47 (sizeof_127 _) rfl ha42 rfl (by omega) rfl) ?_
  simp only [pS, pN, pA, pC, pZ]
  refine do_ rfl (.agg #[(.int .i64 ((q.bit : Nat) : Int)), (.bool q.right), (.slice xa46 q.other.length xc47)]) (ex_load rfl (loadN (cs := [(.int .i64 ((q.bit : Nat) : Int)), (.bool q.right), (.slice xa46 q.other.length xc47)]) Tryd.underlying127 rfl (size_127) (range3 (St.fz S33 c43) (St.fz S33 c44) (St.fz S33 c45)))) ?_
  simp only [pS, pN, pA, pC, pZ]
  refine stNew S33 (v := fun n => .pointer (some ⟨n, 0, none⟩)) rfl (ex_alloc (zero_127 _)) (fun n49 w50 S51 => ?_)
  simp only [pS, pN, pA, pC, pZ]
  have S51 : St w F w50 F27 [⟨n49, [(.int .i64 0), (.bool false), (.slice none 0 0)], 127⟩, ⟨n2, [(.bool false), (.slice sa p.steps.length sc), (.slice pa p.pair.1.length pc), (.slice qa p.pair.2.length qc)], 49⟩] [] := S51
  refine stStore (i := 0) (v := (.agg #[(.int .i64 ((q.bit : Nat) : Int)), (.bool q.right), (.slice xa46 q.other.length xc47)])) S51 rfl rfl rfl rfl (size_127) (allc3 rfl rfl rfl) (Nat.le_of_ble_eq_true rfl) (fun w52 S53 => ?_)
  simp only [pS, pN, pA, pC, pZ]
  have S53 : St w F w52 F27 [⟨n49, [(.int .i64 ((q.bit : Nat) : Int)), (.bool q.right), (.slice xa46 q.other.length xc47)], 127⟩, ⟨n2, [(.bool false), (.slice sa p.steps.length sc), (.slice pa p.pair.1.length pc), (.slice qa p.pair.2.length qc)], 49⟩] [] := S53
  refine wl_nil (hK39 _ _ ?_)
  refine wp_seq_k (fun K54 hK54 => region_wl ?_)
  refine do_ rfl (.slice ka k.length kc) (ex_move _) ?_
  simp only [pS, pN, pA, pC, pZ]
  refine do_ rfl (.pointer (some ⟨n49, 0, none⟩)) (ex_field (q := ⟨n49, 0, none⟩) rfl (fa_127_0 _ _)) ?_
  simp only [pS, pN, pA, pC, pZ]
  refine do_ rfl (.int .i64 ((q.bit : Nat) : Int)) (ex_load rfl (load1 (nagg_3 _) (St.cell S53 (i := 0) rfl rfl))) ?_
  simp only [pS, pN, pA, pC, pZ]
  refine stTells (v := (.tuple #[(.bool (bitL k q.bit)), (.int .i64 0)])) S53 rfl (ex_fn (vs := #[(.slice ka k.length kc), (.int .i64 ((q.bit : Nat) : Int))]) (map2 rfl rfl) rfl (ent_77 _ _)) (tells_same (bitE_spec _ _ _ k _ (S53).sat (hu.mono (le18.trans le34)) hk.1 hk.2 (by omega) (by omega))) (fun w55 S56 => ?_)
  simp only [pS, pN, pA, pC, pZ]
  refine do_ rfl (.tuple #[(.bool (bitL k q.bit)), (.int .i64 0)]) (ex_move _) ?_
  simp only [pS, pN, pA, pC, pZ]
  refine do_ rfl (.bool (bitL k q.bit)) (ex_extract rfl rfl) ?_
  simp only [pS, pN, pA, pC, pZ]
  refine do_ rfl (.int .i64 0) (ex_extract rfl rfl) ?_
  simp only [pS, pN, pA, pC, pZ]
  refine do_ rfl (.bool (bitL k q.bit)) (ex_assign _) ?_
  simp only [pS, pN, pA, pC, pZ]
  refine do_ rfl (.int .i64 0) (ex_assign _) ?_
  simp only [pS, pN, pA, pC, pZ]
  refine wl_nil (hK54 _ _ ?_)
  refine wp_seq_k (fun K57 hK57 => region_wl ?_)
  refine do_ rfl (.pointer (some ⟨n2, 2, none⟩)) (ex_field (q := ⟨n2, 2, none⟩) rfl (fa_49_2 _ _)) ?_
  simp only [pS, pN, pA, pC, pZ]
  refine do_ rfl (.pointer (some ⟨n2, 2, none⟩)) (ex_field (q := ⟨n2, 2, none⟩) rfl (fa_34_0 _ _)) ?_
  simp only [pS, pN, pA, pC, pZ]
  refine do_ rfl (.slice pa p.pair.1.length pc) (ex_load rfl (load1 (nagg_23 _) (St.cell S56 (i := 1) rfl rfl))) ?_
  simp only [pS, pN, pA, pC, pZ]
  refine do_ rfl (.pointer (some ⟨n49, 0, none⟩)) (ex_field (q := ⟨n49, 0, none⟩) rfl (fa_127_0 _ _)) ?_
  simp only [pS, pN, pA, pC, pZ]
  refine do_ rfl (.int .i64 ((q.bit : Nat) : Int)) (ex_load rfl (load1 (nagg_3 _) (St.cell S56 (i := 0) rfl rfl))) ?_
  simp only [pS, pN, pA, pC, pZ]
  refine stTells (v := (.tuple #[(.bool (bitL p.pair.1 q.bit)), (.int .i64 0)])) S56 rfl (ex_fn (vs := #[(.slice pa p.pair.1.length pc), (.int .i64 ((q.bit : Nat) : Int))]) (map2 rfl rfl) rfl (ent_77 _ _)) (tells_same (bitE_spec _ _ _ p.pair.1 _ (S56).sat (h2.mono (le18.trans le34)) hpk.1 hpk.2 (by omega) (by omega))) (fun w58 S59 => ?_)
  simp only [pS, pN, pA, pC, pZ]
  refine do_ rfl (.tuple #[(.bool (bitL p.pair.1 q.bit)), (.int .i64 0)]) (ex_move _) ?_
  simp only [pS, pN, pA, pC, pZ]
  refine do_ rfl (.bool (bitL p.pair.1 q.bit)) (ex_extract rfl rfl) ?_
  simp only [pS, pN, pA, pC, pZ]
  refine do_ rfl (.int .i64 0) (ex_extract rfl rfl) ?_
  simp only [pS, pN, pA, pC, pZ]
  refine do_ rfl (.bool (bitL p.pair.1 q.bit)) (ex_assign _) ?_
  simp only [pS, pN, pA, pC, pZ]
  refine do_ rfl (.int .i64 0) (ex_assign _) ?_
  simp only [pS, pN, pA, pC, pZ]
  refine wl_nil (hK57 _ _ ?_)
  refine wp_seq_k (fun K60 hK60 => ?_)
  refine wp_seq_k (fun K61 hK61 => ?_)
  by_cases hb1 : last < ((q.bit : Nat) : Int)
  ·by_cases hb2 : bitL k q.bit = q.right
   ·by_cases hb3 : bitL p.pair.1 q.bit = q.right
    ·refine region_wl ?_
     refine do_ rfl (.int .i64 0) (ex_move _) ?_
     simp only [pS, pN, pA, pC, pZ]
     refine do_ rfl (.bool false) (ex_neq (m := (0 : Int)) (n := (0 : Int)) (b := false) rfl rfl (bne_eq_false_iff_eq.2 (by omega))) ?_
     simp only [pS, pN, pA, pC, pZ]
     refine do_ rfl (.bool false) (ex_move _) ?_
     simp only [pS, pN, pA, pC, pZ]
     refine do_ rfl (.pointer (some ⟨n49, 0, none⟩)) (ex_field (q := ⟨n49, 0, none⟩) rfl (fa_127_0 _ _)) ?_
     simp only [pS, pN, pA, pC, pZ]
     refine do_ rfl (.int .i64 ((q.bit : Nat) : Int)) (ex_load rfl (load1 (nagg_3 _) (St.cell S59 (i := 0) rfl rfl))) ?_
     simp only [pS, pN, pA, pC, pZ]
     refine do_ rfl (.int .i64 last) (ex_move _) ?_
     simp only [pS, pN, pA, pC, pZ]
     refine do_ rfl (.bool false) (ex_leq (m := ((q.bit : Nat) : Int)) (n := last) (b := false) rfl rfl (decide_eq_false (by omega))) ?_
     simp only [pS, pN, pA, pC, pZ]
     refine do_ rfl (.bool false) (ex_pick (b := false) rfl) ?_
     simp only [pS, pN, pA, pC, pZ]
     refine do_ rfl (.bool false) (ex_move _) ?_
     simp only [pS, pN, pA, pC, pZ]
     refine do_ rfl (.bool (bitL k q.bit)) (ex_move _) ?_
     simp only [pS, pN, pA, pC, pZ]
     refine do_ rfl (.pointer (some ⟨n49, 1, none⟩)) (ex_field (q := ⟨n49, 1, none⟩) rfl (fa_127_1 _ _)) ?_
     simp only [pS, pN, pA, pC, pZ]
     refine do_ rfl (.bool q.right) (ex_load rfl (load1 (nagg_4 _) (St.cell S59 (i := 0) rfl rfl))) ?_
     simp only [pS, pN, pA, pC, pZ]
     refine do_ rfl (.bool false) (ex_neqB Tryd.underlying4 rfl rfl (bne_eq_false_iff_eq.2 hb2)) ?_
     simp only [pS, pN, pA, pC, pZ]
     refine do_ rfl (.bool false) (ex_pick (b := false) rfl) ?_
     simp only [pS, pN, pA, pC, pZ]
     refine do_ rfl (.bool false) (ex_move _) ?_
     simp only [pS, pN, pA, pC, pZ]
     refine do_ rfl (.bool (bitL p.pair.1 q.bit)) (ex_move _) ?_
     simp only [pS, pN, pA, pC, pZ]
     refine do_ rfl (.pointer (some ⟨n49, 1, none⟩)) (ex_field (q := ⟨n49, 1, none⟩) rfl (fa_127_1 _ _)) ?_
     simp only [pS, pN, pA, pC, pZ]
     refine do_ rfl (.bool q.right) (ex_load rfl (load1 (nagg_4 _) (St.cell S59 (i := 0) rfl rfl))) ?_
     simp only [pS, pN, pA, pC, pZ]
     refine do_ rfl (.bool false) (ex_neqB Tryd.underlying4 rfl rfl (bne_eq_false_iff_eq.2 hb3)) ?_
     simp only [pS, pN, pA, pC, pZ]
     refine do_ rfl (.bool false) (ex_pick (b := false) rfl) ?_
     simp only [pS, pN, pA, pC, pZ]
     refine do_ rfl (.bool false) (ex_move _) ?_
     simp only [pS, pN, pA, pC, pZ]
     refine do_ rfl (.pointer (some ⟨n49, 2, none⟩)) (ex_field (q := ⟨n49, 2, none⟩) rfl (fa_127_2 _ _)) ?_
     simp only [pS, pN, pA, pC, pZ]
     refine do_ rfl (.slice xa46 q.other.length xc47) (ex_load rfl (load1 (nagg_23 _) (St.cell S59 (i := 0) rfl rfl))) ?_
     simp only [pS, pN, pA, pC, pZ]
     refine do_ rfl (.int .i64 ((q.other.length : Nat) : Int)) (ex_len Tryd.underlying23 rfl) ?_
     simp only [pS, pN, pA, pC, pZ]
     refine do_ rfl (.bool false) (ex_neq (m := ((q.other.length : Nat) : Int)) (n := (32 : Int)) (b := false) rfl rfl (bne_eq_false_iff_eq.2 (by omega))) ?_
     simp only [pS, pN, pA, pC, pZ]
     refine do_ rfl (.bool false) (ex_pick (b := false) rfl) ?_
     simp only [pS, pN, pA, pC, pZ]
     refine wl_nil (hK61 _ _ ?_)
     refine wp_cond_false rfl ?_
     refine wp_skip ?_
     refine hK60 _ _ ?_
     refine region_wl ?_
     refine do_ rfl (.pointer (some ⟨n49, 0, none⟩)) (ex_field (q := ⟨n49, 0, none⟩) rfl (fa_127_0 _ _)) ?_
     simp only [pS, pN, pA, pC, pZ]
     refine do_ rfl (.int .i64 ((q.bit : Nat) : Int)) (ex_load rfl (load1 (nagg_3 _) (St.cell S59 (i := 0) rfl rfl))) ?_
     simp only [pS, pN, pA, pC, pZ]
     refine do_ rfl (.int .i64 ((q.bit : Nat) : Int)) (ex_assign _) ?_
     simp only [pS, pN, pA, pC, pZ]
     refine wl_nil (hK38 _ _ ?_)
     refine region_wl ?_
     refine do_ rfl (.int .i64 (((i + 1) : Nat) : Int)) (ex_add (m := ((i : Nat) : Int)) (n := (1 : Int)) (r := (((i + 1) : Nat) : Int)) rfl rfl (by omega) (by omega) (by omega)) ?_
     simp only [pS, pN, pA, pC, pZ]
     refine do_ rfl (.int .i64 (((i + 1) : Nat) : Int)) (ex_move _) ?_
     simp only [pS, pN, pA, pC, pZ]
     refine wl_nil ?_
     have S59 := St.drop S59 (L' := [⟨n2, [(.bool false), (.slice sa p.steps.length sc), (.slice pa p.pair.1.length pc), (.slice qa p.pair.2.length qc)], 49⟩]) (.cons _ (List.Sublist.refl _))
     exact hK35 _ _ _ (by omega) ⟨(i + 1), ((q.bit : Nat) : Int), F27, _, rfl, rfl, rfl, S59, le34, (by omega), (by omega), ((wayB_step hp hb1 hb2 hb3 hq.1 hq.2).symm.trans hw)⟩
    ·refine region_wl ?_
     refine do_ rfl (.int .i64 0) (ex_move _) ?_
     simp only [pS, pN, pA, pC, pZ]
     refine do_ rfl (.bool false) (ex_neq (m := (0 : Int)) (n := (0 : Int)) (b := false) rfl rfl (bne_eq_false_iff_eq.2 (by omega))) ?_
     simp only [pS, pN, pA, pC, pZ]
     refine do_ rfl (.bool false) (ex_move _) ?_
     simp only [pS, pN, pA, pC, pZ]
     refine do_ rfl (.pointer (some ⟨n49, 0, none⟩)) (ex_field (q := ⟨n49, 0, none⟩) rfl (fa_127_0 _ _)) ?_
     simp only [pS, pN, pA, pC, pZ]
     refine do_ rfl (.int .i64 ((q.bit : Nat) : Int)) (ex_load rfl (load1 (nagg_3 _) (St.cell S59 (i := 0) rfl rfl))) ?_
     simp only [pS, pN, pA, pC, pZ]
     refine do_ rfl (.int .i64 last) (ex_move _) ?_
     simp only [pS, pN, pA, pC, pZ]
     refine do_ rfl (.bool false) (ex_leq (m := ((q.bit : Nat) : Int)) (n := last) (b := false) rfl rfl (decide_eq_false (by omega))) ?_
     simp only [pS, pN, pA, pC, pZ]
     refine do_ rfl (.bool false) (ex_pick (b := false) rfl) ?_
     simp only [pS, pN, pA, pC, pZ]
     refine do_ rfl (.bool false) (ex_move _) ?_
     simp only [pS, pN, pA, pC, pZ]
     refine do_ rfl (.bool (bitL k q.bit)) (ex_move _) ?_
     simp only [pS, pN, pA, pC, pZ]
     refine do_ rfl (.pointer (some ⟨n49, 1, none⟩)) (ex_field (q := ⟨n49, 1, none⟩) rfl (fa_127_1 _ _)) ?_
     simp only [pS, pN, pA, pC, pZ]
     refine do_ rfl (.bool q.right) (ex_load rfl (load1 (nagg_4 _) (St.cell S59 (i := 0) rfl rfl))) ?_
     simp only [pS, pN, pA, pC, pZ]
     refine do_ rfl (.bool false) (ex_neqB Tryd.underlying4 rfl rfl (bne_eq_false_iff_eq.2 hb2)) ?_
     simp only [pS, pN, pA, pC, pZ]
     refine do_ rfl (.bool false) (ex_pick (b := false) rfl) ?_
     simp only [pS, pN, pA, pC, pZ]
     refine do_ rfl (.bool false) (ex_move _) ?_
     simp only [pS, pN, pA, pC, pZ]
     refine do_ rfl (.bool (bitL p.pair.1 q.bit)) (ex_move _) ?_
     simp only [pS, pN, pA, pC, pZ]
     refine do_ rfl (.pointer (some ⟨n49, 1, none⟩)) (ex_field (q := ⟨n49, 1, none⟩) rfl (fa_127_1 _ _)) ?_
     simp only [pS, pN, pA, pC, pZ]
     refine do_ rfl (.bool q.right) (ex_load rfl (load1 (nagg_4 _) (St.cell S59 (i := 0) rfl rfl))) ?_
     simp only [pS, pN, pA, pC, pZ]
     refine do_ rfl (.bool true) (ex_neqB Tryd.underlying4 rfl rfl (bne_iff_ne.2 hb3)) ?_
     simp only [pS, pN, pA, pC, pZ]
     refine do_ rfl (.bool true) (ex_pick (b := false) rfl) ?_
     simp only [pS, pN, pA, pC, pZ]
     refine do_ rfl (.bool true) (ex_move _) ?_
     simp only [pS, pN, pA, pC, pZ]
     refine doN (wanted_no rfl rfl rfl (c := true) rfl (by decide)) ?_
     simp only [pS, pN, pA, pC, pZ]
     refine doN (wanted_no rfl rfl rfl (c := true) rfl (by decide)) ?_
     simp only [pS, pN, pA, pC, pZ]
     refine doN (wanted_no rfl rfl rfl (c := true) rfl (by decide)) ?_
     simp only [pS, pN, pA, pC, pZ]
     refine doN (wanted_no rfl rfl rfl (c := true) rfl (by decide)) ?_
     simp only [pS, pN, pA, pC, pZ]
     refine do_ rfl (.bool true) (ex_pick (b := true) rfl) ?_
     simp only [pS, pN, pA, pC, pZ]
     refine wl_nil (hK61 _ _ ?_)
     refine wp_cond_true rfl ?_
     refine wp_seq_k (fun K62 hK62 => region_wl ?_)
     refine do_ rfl (.int .i64 4) (ex_assign _) ?_
     simp only [pS, pN, pA, pC, pZ]
     refine wl_nil (hK62 _ _ ?_)
     refine wp_ret ?_
     (try simp only [Exit.then, Exit.inBlock, ↓reduceIte, Nat.reduceEqDiff])
     refine bodyPost_ret (v := (.int .i64 4)) ?_ rfl ?_
     ·exact res_t rfl rfl
     ·rw [wayB_bad hp (.inr (.inr hb3))] at hw
      rw [← hw]
      exact ⟨rfl, S59.gr.below⟩
   ·refine region_wl ?_
    refine do_ rfl (.int .i64 0) (ex_move _) ?_
    simp only [pS, pN, pA, pC, pZ]
    refine do_ rfl (.bool false) (ex_neq (m := (0 : Int)) (n := (0 : Int)) (b := false) rfl rfl (bne_eq_false_iff_eq.2 (by omega))) ?_
    simp only [pS, pN, pA, pC, pZ]
    refine do_ rfl (.bool false) (ex_move _) ?_
    simp only [pS, pN, pA, pC, pZ]
    refine do_ rfl (.pointer (some ⟨n49, 0, none⟩)) (ex_field (q := ⟨n49, 0, none⟩) rfl (fa_127_0 _ _)) ?_
    simp only [pS, pN, pA, pC, pZ]
    refine do_ rfl (.int .i64 ((q.bit : Nat) : Int)) (ex_load rfl (load1 (nagg_3 _) (St.cell S59 (i := 0) rfl rfl))) ?_
    simp only [pS, pN, pA, pC, pZ]
    refine do_ rfl (.int .i64 last) (ex_move _) ?_
    simp only [pS, pN, pA, pC, pZ]
    refine do_ rfl (.bool false) (ex_leq (m := ((q.bit : Nat) : Int)) (n := last) (b := false) rfl rfl (decide_eq_false (by omega))) ?_
    simp only [pS, pN, pA, pC, pZ]
    refine do_ rfl (.bool false) (ex_pick (b := false) rfl) ?_
    simp only [pS, pN, pA, pC, pZ]
    refine do_ rfl (.bool false) (ex_move _) ?_
    simp only [pS, pN, pA, pC, pZ]
    refine do_ rfl (.bool (bitL k q.bit)) (ex_move _) ?_
    simp only [pS, pN, pA, pC, pZ]
    refine do_ rfl (.pointer (some ⟨n49, 1, none⟩)) (ex_field (q := ⟨n49, 1, none⟩) rfl (fa_127_1 _ _)) ?_
    simp only [pS, pN, pA, pC, pZ]
    refine do_ rfl (.bool q.right) (ex_load rfl (load1 (nagg_4 _) (St.cell S59 (i := 0) rfl rfl))) ?_
    simp only [pS, pN, pA, pC, pZ]
    refine do_ rfl (.bool true) (ex_neqB Tryd.underlying4 rfl rfl (bne_iff_ne.2 hb2)) ?_
    simp only [pS, pN, pA, pC, pZ]
    refine do_ rfl (.bool true) (ex_pick (b := false) rfl) ?_
    simp only [pS, pN, pA, pC, pZ]
    refine do_ rfl (.bool true) (ex_move _) ?_
    simp only [pS, pN, pA, pC, pZ]
    refine doN (wanted_no rfl rfl rfl (c := true) rfl (by decide)) ?_
    simp only [pS, pN, pA, pC, pZ]
    refine doN (wanted_no rfl rfl rfl (c := true) rfl (by decide)) ?_
    simp only [pS, pN, pA, pC, pZ]
    refine doN (wanted_no rfl rfl rfl (c := true) rfl (by decide)) ?_
    simp only [pS, pN, pA, pC, pZ]
    refine doN (wanted_no rfl rfl rfl (c := true) rfl (by decide)) ?_
    simp only [pS, pN, pA, pC, pZ]
    refine do_ rfl (.bool true) (ex_pick (b := true) rfl) ?_
    simp only [pS, pN, pA, pC, pZ]
    refine do_ rfl (.bool true) (ex_move _) ?_
    simp only [pS, pN, pA, pC, pZ]
    refine doN (wanted_no rfl rfl rfl (c := true) rfl (by decide)) ?_
    simp only [pS, pN, pA, pC, pZ]
    refine doN (wanted_no rfl rfl rfl (c := true) rfl (by decide)) ?_
    simp only [pS, pN, pA, pC, pZ]
    refine doN (wanted_no rfl rfl rfl (c := true) rfl (by decide)) ?_
    simp only [pS, pN, pA, pC, pZ]
    refine doN (wanted_no rfl rfl rfl (c := true) rfl (by decide)) ?_
    simp only [pS, pN, pA, pC, pZ]
    refine do_ rfl (.bool true) (ex_pick (b := true) rfl) ?_
    simp only [pS, pN, pA, pC, pZ]
    refine wl_nil (hK61 _ _ ?_)
    refine wp_cond_true rfl ?_
    refine wp_seq_k (fun K63 hK63 => region_wl ?_)
    refine do_ rfl (.int .i64 4) (ex_assign _) ?_
    simp only [pS, pN, pA, pC, pZ]
    refine wl_nil (hK63 _ _ ?_)
    refine wp_ret ?_
    (try simp only [Exit.then, Exit.inBlock, ↓reduceIte, Nat.reduceEqDiff])
    refine bodyPost_ret (v := (.int .i64 4)) ?_ rfl ?_
    ·exact res_t rfl rfl
    ·rw [wayB_bad hp (.inr (.inl hb2))] at hw
     rw [← hw]
     exact ⟨rfl, S59.gr.below⟩
  ·refine region_wl ?_
   refine do_ rfl (.int .i64 0) (ex_move _) ?_
   simp only [pS, pN, pA, pC, pZ]
   refine do_ rfl (.bool false) (ex_neq (m := (0 : Int)) (n := (0 : Int)) (b := false) rfl rfl (bne_eq_false_iff_eq.2 (by omega))) ?_
   simp only [pS, pN, pA, pC, pZ]
   refine do_ rfl (.bool false) (ex_move _) ?_
   simp only [pS, pN, pA, pC, pZ]
   refine do_ rfl (.pointer (some ⟨n49, 0, none⟩)) (ex_field (q := ⟨n49, 0, none⟩) rfl (fa_127_0 _ _)) ?_
   simp only [pS, pN, pA, pC, pZ]
   refine do_ rfl (.int .i64 ((q.bit : Nat) : Int)) (ex_load rfl (load1 (nagg_3 _) (St.cell S59 (i := 0) rfl rfl))) ?_
   simp only [pS, pN, pA, pC, pZ]
   refine do_ rfl (.int .i64 last) (ex_move _) ?_
   simp only [pS, pN, pA, pC, pZ]
   refine do_ rfl (.bool true) (ex_leq (m := ((q.bit : Nat) : Int)) (n := last) (b := true) rfl rfl (decide_eq_true (by omega))) ?_
   simp only [pS, pN, pA, pC, pZ]
   refine do_ rfl (.bool true) (ex_pick (b := false) rfl) ?_
   simp only [pS, pN, pA, pC, pZ]
   refine do_ rfl (.bool true) (ex_move _) ?_
   simp only [pS, pN, pA, pC, pZ]
   refine doN (wanted_no rfl rfl rfl (c := true) rfl (by decide)) ?_
   simp only [pS, pN, pA, pC, pZ]
   refine doN (wanted_no rfl rfl rfl (c := true) rfl (by decide)) ?_
   simp only [pS, pN, pA, pC, pZ]
   refine doN (wanted_no rfl rfl rfl (c := true) rfl (by decide)) ?_
   simp only [pS, pN, pA, pC, pZ]
   refine doN (wanted_no rfl rfl rfl (c := true) rfl (by decide)) ?_
   simp only [pS, pN, pA, pC, pZ]
   refine do_ rfl (.bool true) (ex_pick (b := true) rfl) ?_
   simp only [pS, pN, pA, pC, pZ]
   refine do_ rfl (.bool true) (ex_move _) ?_
   simp only [pS, pN, pA, pC, pZ]
   refine doN (wanted_no rfl rfl rfl (c := true) rfl (by decide)) ?_
   simp only [pS, pN, pA, pC, pZ]
   refine doN (wanted_no rfl rfl rfl (c := true) rfl (by decide)) ?_
   simp only [pS, pN, pA, pC, pZ]
   refine doN (wanted_no rfl rfl rfl (c := true) rfl (by decide)) ?_
   simp only [pS, pN, pA, pC, pZ]
   refine doN (wanted_no rfl rfl rfl (c := true) rfl (by decide)) ?_
   simp only [pS, pN, pA, pC, pZ]
   refine do_ rfl (.bool true) (ex_pick (b := true) rfl) ?_
   simp only [pS, pN, pA, pC, pZ]
   refine do_ rfl (.bool true) (ex_move _) ?_
   simp only [pS, pN, pA, pC, pZ]
   refine doN (wanted_no rfl rfl rfl (c := true) rfl (by decide)) ?_
   simp only [pS, pN, pA, pC, pZ]
   refine doN (wanted_no rfl rfl rfl (c := true) rfl (by decide)) ?_
   simp only [pS, pN, pA, pC, pZ]
   refine doN (wanted_no rfl rfl rfl (c := true) rfl (by decide)) ?_
   simp only [pS, pN, pA, pC, pZ]
   refine doN (wanted_no rfl rfl rfl (c := true) rfl (by decide)) ?_
   simp only [pS, pN, pA, pC, pZ]
   refine do_ rfl (.bool true) (ex_pick (b := true) rfl) ?_
   simp only [pS, pN, pA, pC, pZ]
   refine wl_nil (hK61 _ _ ?_)
   refine wp_cond_true rfl ?_
   refine wp_seq_k (fun K64 hK64 => region_wl ?_)
   refine do_ rfl (.int .i64 4) (ex_assign _) ?_
   simp only [pS, pN, pA, pC, pZ]
   refine wl_nil (hK64 _ _ ?_)
   refine wp_ret ?_
   (try simp only [Exit.then, Exit.inBlock, ↓reduceIte, Nat.reduceEqDiff])
   refine bodyPost_ret (v := (.int .i64 4)) ?_ rfl ?_
   ·exact res_t rfl rfl
   ·rw [wayB_bad hp (.inl hb1)] at hw
    rw [← hw]
    exact ⟨rfl, S59.gr.below⟩
 ·refine do_ rfl (.bool false) (ex_lss (m := ((i : Nat) : Int)) (n := ((p.steps.length : Nat) : Int)) (b := false) rfl rfl (decide_eq_false (by omega))) ?_
  simp only [pS, pN, pA, pC, pZ]
  refine wl_nil (hK36 _ _ ?_)
  refine wp_seq_k (fun K65 hK65 => ?_)
  refine wp_cond_false rfl ?_
  refine wp_exit ?_
  refine hK25 _ _ ?_
  refine wp_seq_k (fun K66 hK66 => region_wl ?_)
  refine do_ rfl (.int .i64 0) (ex_assign _) ?_
  simp only [pS, pN, pA, pC, pZ]
  refine wl_nil (hK66 _ _ ?_)
  refine wp_ret ?_
  (try simp only [Exit.then, Exit.inBlock, ↓reduceIte, Nat.reduceEqDiff])
  refine bodyPost_ret (v := (.int .i64 0)) ?_ rfl ?_
  ·exact res_t rfl rfl
  ·rw [List.drop_of_length_le (by omega)] at hw
   rw [← hw]
   exact ⟨rfl, S33.gr.below⟩
end Go.Proofs.YtikklmjengkliaaDoor
namespace Go.Proofs.YtikklmjengkliaaDoor
open Go.RowKit
set_option maxRecDepth 100000
set_option linter.unusedVariables false
set_option linter.unusedSimpArgs false
section
variable {P : Program} {ops : Array Oper} {Q : Exit → Act → World → Prop} {a : Act} {w w' : World} {rest : List Oper} {o : Oper} {n : Nat}
/-- In a round the operations of a region go as they go anywhere. -/
theorem wpListIn_of {l : Nat} (hQ : ¬ LetsOut Q) : ∀ (os : List Oper) (a : Act) (w : World), (∀ o ∈ os, ∀ c, o.op ≠ .defer c) → wpList P ops Q os a w → wpListIn (Fence.wide.inRound l) n P ops Q os a w
  | [], a, w, _, h => h
  | o :: os, a, w, hd, h => by
    have ih : ∀ a w, wpList P ops Q os a w → wpListIn (Fence.wide.inRound l) n P ops Q os a w := fun a w => wpListIn_of hQ os a w (fun o ho => hd o (List.mem_cons_of_mem _ ho))
    unfold wpList at h
    unfold wpListIn
    split at h
    · rename_i hw
      rw [if_pos hw]
      rcases h with h | h
      · refine ⟨fun _ _ => trivial, ?_⟩
        rw [Oper.semAt_eq _ _ _ (hd o (List.mem_cons_self ..))]
        unfold Oper.wp at h
        revert h
        generalize (execOp a.eval o).run P w = r
        intro h
        cases r with
        | ok x w' =>
          cases x with
          | value v => exact ih _ _ h
          | skip => exact ih _ _ h
          | defer d => exact ih _ _ h
          | enter f args =>
            exact ⟨fun e => (by cases e), CallsIn.inRound l (callsIn_wide.2 (Calls.mono h fun e w'' he => by
              cases e with
              | returned v => exact ih _ _ he
              | panicked c => exact he
              | outgrown => exact he))⟩
          | row row args =>
            exact ⟨fun e => (by cases e), fun c cs _ => by
              obtain ⟨v, w2, r, s⟩ := h c cs
              exact ⟨v, w2, ih _ _ r, stepsIn_wide.2 s⟩⟩
          | _ => exact False.elim h
        | halt x w' => cases x <;> first | exact h | exact False.elim h
      · exact absurd h.2 hQ
    · rename_i hw
      rw [if_neg hw]
      exact ⟨fun _ _ => trivial, ih _ _ h⟩
def noDefer (os : List Oper) : Bool := os.all fun o => match o.op with | .defer _ => false | _ => true
theorem noDefer_of {os : List Oper} (h : noDefer os = true) : ∀ o ∈ os, ∀ c, o.op ≠ .defer c := by
  intro o ho c e
  have := List.all_eq_true.1 h o ho
  rw [e] at this
  cases this
theorem regionR_wl {id l : Nat} {os : List Oper} (hd : noDefer os = true) (hQ : ¬ LetsOut Q) (h : WL P os.toArray Q os a w) : (Code.region id os.toArray false).wpIn (Fence.wide.inRound l) n P Q a w :=
  wpIn_region_lit (wpListIn_of hQ os a w (noDefer_of hd) h.out)
theorem regionY_wl {id : Nat} {os : List Oper} (h : wpListIn Fence.wide 2 P os.toArray Q os a w) : (Code.region id os.toArray false).wp P Q a w := (wpIn_wide (n := 2)).1 (wpIn_region_lit h)
theorem dI_ (hw : Region.wanted o (yielded ops a.tmps) = true) (v : Value) (hr : (execOp a.eval o).run P w = .ok (.value v) w') (h : wpListIn Fence.wide n P ops Q rest (a.put o.dst v) w') : wpListIn Fence.wide n P ops Q (o :: rest) a w := by
  unfold wpListIn
  rw [if_pos hw]
  refine ⟨fun _ _ => trivial, ?_⟩
  show o.uponIn _ _ _ _ _ _ ((execOp a.eval o).run P w)
  rw [hr]
  exact h
theorem dY_ {l : Nat} {f : FuncId} {tmps : Array Value} {assign body : Code} {R : Ending → World → Prop} (hw : Region.wanted o (yielded ops a.tmps) = true) (hr : (execOp a.eval o).run P w = .ok (.round l f tmps assign body) w) (hR : RoundIn Fence.wide (n - 1) P l f tmps assign body w R)
    (h : ∀ e w', R e w' → ∃ v, e = .returned v ∧ wpListIn Fence.wide n P ops Q rest (a.put o.dst v) w') : wpListIn Fence.wide n P ops Q (o :: rest) a w := by
  unfold wpListIn
  rw [if_pos hw]
  refine ⟨fun _ _ => trivial, ?_⟩
  show o.uponIn _ _ _ _ _ _ ((execOp a.eval o).run P w)
  rw [hr]
  exact ⟨fun e => (by cases e), hR.mono fun e w' he => by obtain ⟨v, rfl, hv⟩ := h e w' he; exact hv⟩
theorem ex_yield {ρ : Operand → Value} {d : Option Tmp} {t : TypeId} {pos : String} {after : Array Edge} {guard : Option (Nat × Bool)} {c : Operand} {xs : Array Operand} {ats : Array TypeId} {vs : Array Value} {l : Nat} {f : FuncId} {tmps : Array Value} {assign body : Code}
    (hf : ρ c = .func (.yield l) #[] #[]) (hv : xs.map ρ = vs) (hy : (Instr.yield l vs).run P w = .ok (.round l f tmps assign body) w) : (execOp ρ ⟨d, .call ⟨.value c, xs, ats⟩, t, pos, after, guard⟩).run P w = .ok (.round l f tmps assign body) w := by
  subst hv
  have : (#[] : Array Value) ++ Array.map ρ xs = Array.map ρ xs := by simp
  simp only [execOp, resolve, hf, Deferred.ofValue, Sem.run_bind, Sem.run_pure, Result.andThen_ok, invoke, this]
  exact hy
end
/-- All cells but one block lie as they lay. -/
def KeepC (b : Nat) (W W' : World) : Prop := ∀ k o, k ≠ b → W.heap[k]? = some o → o.isCells = true → W'.heap[k]? = some o
theorem KeepC.trans {b : Nat} {X Y Z : World} (h : KeepC b X Y) (k : KeepC b Y Z) : KeepC b X Z := fun j o hj ho hc => k j o hj (h j o hj ho hc) hc
theorem KeepC.put {b : Nat} {B : Nat} (W : World) (l : Nat) (o o' : Obj) (_ : B ≤ l) (h : W.heap[l]? = some o) (hc : o.isCells = false) (_ : o.isWalk = false) : KeepC b W (W.putObj l o') := fun k x _ hk hx => by
  rw [World.putObj_heap_other (fun e => by rw [e, h] at hk; cases hk; rw [hc] at hx; cases hx)]
  exact hk
def SatC (F : Fz) (W : World) : Prop := ∀ b c t fr, F b = some (.cells c t fr) → W.heap[b]? = some (.cells c t fr)
theorem SatC.cell {F : Fz} {W : World} (h : SatC F W) {b o : Nat} {v : Value} (hc : cellF F b o = some v) : W.cell? ⟨b, o, none⟩ = some v := by
  unfold cellF at hc
  split at hc
  · rename_i c t fr hb
    simp [World.cell?, h b _ _ _ hb, hc]
  · cases hc
theorem SatC.keep {F : Fz} {W W' : World} {b : Nat} (h : SatC F W) (hF : F b = none) (hk : KeepC b W W') : SatC F W' := fun k c t fr hb => hk k _ (fun e => by rw [e, hF] at hb; cases hb) (h k c t fr hb) rfl
theorem Sat.c {F : Fz} {W : World} (h : Sat W F) : SatC F W := fun b c t fr hb => h b _ hb
theorem SatC.below {F : Fz} {w W : World} (h : SatC F w) (hW : Below w.heap.size w W) : SatC F W := fun b c t fr hb => by
  have := h b c t fr hb
  rw [hW.block b (Array.getElem?_eq_some_iff.1 this).1]
  exact this
/-- What the loop over the steps is handed. -/
def BkX (F : Fz) := { x : Nat × Option Addr × Nat × Stp // Bs F (.slice x.2.1 x.2.2.2.other.length x.2.2.1) x.2.2.2.other ∧ x.2.2.2.bit < 145 ∧ x.2.2.2.other.length = 32 }
def bkS {F : Fz} (x : BkX F) : Stp := x.1.2.2.2
def bkV {F : Fz} (x : BkX F) : Value := .slice x.1.2.1 (bkS x).other.length x.1.2.2.1
def bkEnc {F : Fz} (x : BkX F) : Array Value := #[.int .i64 ((x.1.1 : Nat) : Int), .agg #[.int .i64 (((bkS x).bit : Nat) : Int), .bool (bkS x).right, bkV x]]
set_option maxHeartbeats 8000000 in
theorem back_stops {F : Fz} {A : Option Addr} {c b5 bx : Nat} {l : List Stp} {w : World} (hst : Stps F (.slice A l.length c) l) (hok : StpsOk l) (hs : SatC F w) (hF : F b5 = none) (hb : w.heap[bx]? = some (.cells #[.slice A l.length c] 47 (0, 0))) (hne : bx ≠ b5) :
    SeqStopsK Fence.wide 2 Tryd.prog 107 #[.pointer (some ⟨bx, 0, none⟩)] (bkEnc (F := F)) (KeepC b5) (fun xs => xs.map bkS = l.reverse) (fun _ => True) l.length w := by
  intro lp J Jx W hW hJ hJx hY h0
  have hb1 : W.heap[bx]? = some (.cells #[.slice A l.length c] 47 (0, 0)) := (hW.block bx (Array.getElem?_eq_some_iff.1 hb).1).trans hb
  have hs1 : SatC F W := hs.below hW
  clear hW hb hs
  obtain ⟨_, _, e, q1, q2⟩ := Sl.shape hst
  injection e with _ _ e
  subst e
  unfold maxLen at q2
  have hld : ∀ {W : World}, W.heap[bx]? = some (.cells #[.slice A l.length c] 47 (0, 0)) → W.cell? ⟨bx, 0, none⟩ = some (.slice A l.length c) := fun h => by simp [World.cell?, h]
  refine callsIn_wide.2 ?_
  show Calls _ _ #[.func (.yield lp) #[] #[], .pointer (some ⟨bx, 0, none⟩)] _ _
  go_enter Tryd.func107, Tryd.ntmps107
  refine wp_seq_k (fun K1 hK1 => region_wl ?_)
  refine do_ rfl (.slice A l.length c) (ex_load rfl (load1 (nagg_47 _) (hld hb1))) ?_
  simp only [pS, pN, pA, pC, pZ]
  refine do_ rfl (.int .i64 (l.length : Nat)) (ex_len Tryd.underlying47 rfl) ?_
  simp only [pS, pN, pA, pC, pZ]
  refine do_ rfl (.int .i64 ((l.length : Int) - 1)) (ex_sub (m := (l.length : Int)) (n := 1) (r := (l.length : Int) - 1) rfl rfl rfl (by omega) (by omega)) ?_
  simp only [pS, pN, pA, pC, pZ]
  refine do_ rfl (.int .i64 ((l.length : Int) - 1)) (ex_assign _) ?_
  simp only [pS, pN, pA, pC, pZ]
  refine wl_nil (hK1 _ _ ?_)
  refine wp_block ?_
  refine wp_loop_g (fun mm aa wr => ∃ (k : Nat) (pre : List (BkX F)) (u : Nat → Value), mm = k ∧ u = slots aa ∧ aa = ⟨#[.func (.yield lp) #[] #[], .pointer (some ⟨bx, 0, none⟩), undef, .int .i64 ((k : Int) - 1), .slice A l.length c, .int .i64 (l.length : Nat), .int .i64 ((l.length : Int) - 1), u 7, u 8, u 9, u 10, u 11, u 12, u 13, u 14, u 15, u 16, u 17, u 18], []⟩ ∧ k ≤ l.length ∧ pre.map bkS = (l.drop k).reverse ∧ J pre wr ∧ wr.heap[bx]? = some (.cells #[.slice A l.length c] 47 (0, 0)) ∧ SatC F wr) _ ⟨l.length, [], _, rfl, rfl, rfl, Nat.le_refl _, by simp, h0, hb1, hs1⟩ ?_
  rintro m a wr ⟨k, pre, u, rfl, -, rfl, hk, hpre, hJ0, hb2, hs2⟩ K2 hK2
  refine wp_seq_k (fun K3 hK3 => ?_)
  refine wp_seq_k (fun K4 hK4 => region_wl ?_)
  refine do_ rfl (.int .i64 ((m : Int) - 1)) (ex_move _) ?_
  simp only [pS, pN, pA, pC, pZ]
  have hpl : pre.length = l.length - m := by have := congrArg List.length hpre; simpa using this
  by_cases hm : m = 0
  · subst hm
    refine do_ rfl (.bool false) (ex_geq (m := ((0 : Nat) : Int) - 1) (n := 0) rfl rfl (by decide)) ?_
    simp only [pS, pN, pA, pC, pZ]
    refine wl_nil (hK4 _ _ ?_)
    refine wp_cond_false rfl ?_
    refine wp_exit ?_
    (try simp only [Exit.then, Exit.inBlock, ↓reduceIte, Nat.reduceEqDiff])
    refine bodyPost_end (results_none rfl _ _ _) rfl ?_
    exact ⟨⟨_, rfl⟩, .inl ⟨pre, by simpa using hpre, hJ0⟩⟩
  · refine do_ rfl (.bool true) (ex_geq (m := (m : Int) - 1) (n := 0) rfl rfl (decide_eq_true (by omega))) ?_
    simp only [pS, pN, pA, pC, pZ]
    refine wl_nil (hK4 _ _ ?_)
    refine wp_cond_true rfl ?_
    refine wp_skip ?_
    refine hK3 _ _ ?_
    refine wp_seq_k (fun K5 hK5 => ?_)
    refine wp_block ?_
    refine wp_seq_k (fun K6 hK6 => regionY_wl ?_)
    obtain ⟨s, hs⟩ : ∃ s, l[m - 1]? = some s := ⟨l[m - 1], List.getElem?_eq_getElem (by omega)⟩
    obtain ⟨g, o, ha, xa, xc, c1, c2, c3, r4⟩ := Stps.get hst hs
    have hso := hok s (List.mem_of_getElem? hs)
    obtain ⟨x, hx⟩ : ∃ x : BkX F, x.1 = (m - 1, xa, xc, s) := ⟨⟨(m - 1, xa, xc, s), r4, hso⟩, rfl⟩
    obtain ⟨fn, tmps, assign, body, hy, hR⟩ := hY pre x wr hJ0 (by omega)
    have henc : bkEnc x = #[.int .i64 ((m : Int) - 1), .agg #[.int .i64 ((s.bit : Nat) : Int), .bool s.right, .slice xa s.other.length xc]] := by
      have e1 : x.1.1 = m - 1 := by rw [hx]
      have e2 : x.1.2.1 = xa := by rw [hx]
      have e3 : x.1.2.2.1 = xc := by rw [hx]
      have e4 : x.1.2.2.2 = s := by rw [hx]
      unfold bkEnc bkV bkS
      rw [e1, e2, e3, e4]
      have : ((m - 1 : Nat) : Int) = (m : Int) - 1 := by omega
      rw [this]
    have hxs : bkS x = s := by unfold bkS; rw [hx]
    rw [henc] at hy
    have hstep : (pre ++ [x]).map bkS = (l.drop (m - 1)).reverse := by
      obtain ⟨hi, hie⟩ := List.getElem?_eq_some_iff.1 hs
      rw [List.map_append, hpre, List.drop_eq_getElem_cons hi, hie, show m - 1 + 1 = m from by omega]
      simp [hxs]
    refine dI_ rfl (.func (.yield lp) #[] #[]) (ex_move _) ?_
    simp only [pS, pN, pA, pC, pZ]
    refine dI_ rfl (.int .i64 ((m : Int) - 1)) (ex_move _) ?_
    simp only [pS, pN, pA, pC, pZ]
    refine dI_ rfl (.slice A l.length c) (ex_load rfl (load1 (nagg_47 _) (hld hb2))) ?_
    simp only [pS, pN, pA, pC, pZ]
    refine dI_ rfl (.int .i64 ((m : Int) - 1)) (ex_move _) ?_
    simp only [pS, pN, pA, pC, pZ]
    refine dI_ rfl (.pointer (some ⟨g, o + (m - 1) * 3, none⟩)) (ex_at (i := m - 1) (sz := 3) Tryd.underlying47 (sizeof_127 _) rfl ha (show Value.int .i64 ((m : Int) - 1) = .int .i64 ((m - 1 : Nat) : Int) from by rw [show ((m - 1 : Nat) : Int) = (m : Int) - 1 from by omega]) (by omega) rfl) ?_
    simp only [pS, pN, pA, pC, pZ]
    refine dI_ rfl (.agg #[.int .i64 ((s.bit : Nat) : Int), .bool s.right, .slice xa s.other.length xc]) (ex_load rfl (loadN (cs := [.int .i64 ((s.bit : Nat) : Int), .bool s.right, .slice xa s.other.length xc]) Tryd.underlying127 rfl (size_127) (range3 (hs2.cell c1) (hs2.cell c2) (hs2.cell c3)))) ?_
    simp only [pS, pN, pA, pC, pZ]
    refine dY_ rfl (ex_yield rfl (map2 rfl rfl) hy) hR ?_
    rintro e W' (⟨rfl, hJ3, hk3⟩ | ⟨rfl, hJx3⟩)
    · refine ⟨_, rfl, ?_⟩
      simp only [pS, pN, pA, pC, pZ]
      refine dI_ rfl (.bool false) (ex_not (b := true) rfl rfl) ?_
      simp only [pS, pN, pA, pC, pZ]
      refine wpListIn_nil (hK6 _ _ ?_)
      refine wp_cond_false rfl ?_
      refine wp_skip ?_
      refine hK5 _ _ (region_wl ?_)
      refine do_ rfl (.int .i64 ((m : Int) - 1)) (ex_move _) ?_
      simp only [pS, pN, pA, pC, pZ]
      refine do_ rfl (.int .i64 (((m - 1 : Nat) : Int) - 1)) (ex_sub (m := (m : Int) - 1) (n := 1) (r := ((m - 1 : Nat) : Int) - 1) rfl rfl (by omega) (by omega) (by omega)) ?_
      simp only [pS, pN, pA, pC, pZ]
      refine do_ rfl (.int .i64 (((m - 1 : Nat) : Int) - 1)) (ex_assign _) ?_
      simp only [pS, pN, pA, pC, pZ]
      refine wl_nil (hK2 (m - 1) _ _ (by omega) ?_)
      exact ⟨m - 1, pre ++ [x], _, rfl, rfl, rfl, by omega, hstep, hJ3, hk3 _ _ hne hb2 rfl, hs2.keep hF hk3⟩
    · refine ⟨_, rfl, ?_⟩
      simp only [pS, pN, pA, pC, pZ]
      refine dI_ rfl (.bool true) (ex_not (b := false) rfl rfl) ?_
      simp only [pS, pN, pA, pC, pZ]
      refine wpListIn_nil (hK6 _ _ ?_)
      refine wp_cond_true rfl ?_
      refine wp_ret ?_
      (try simp only [Exit.then, Exit.inBlock, ↓reduceIte, Nat.reduceEqDiff])
      refine bodyPost_ret (results_none rfl _ _ _) rfl ?_
      exact ⟨⟨_, rfl⟩, .inr ⟨_, trivial, hJx3⟩⟩
end Go.Proofs.YtikklmjengkliaaDoor
namespace Go.Proofs.YtikklmjengkliaaDoor
open Go.RowKit
set_option maxRecDepth 100000
set_option linter.unusedVariables false
set_option linter.unusedSimpArgs false
theorem zero_158 (w : World) : (zeroValue 158).run Tryd.prog w = .ok (.agg #[.slice none 0 0, .slice none 0 0]) w := by kernel_rfl
theorem size_158 : (Tryd.prog.info? 158).map (·.size) = some 2 := by kernel_rfl
theorem store_one {P : Program} {w : World} {T T' : TypeId} {b n c : Nat} {dv : Value} {a : Option Addr} (hi : (P.info? T).map (·.size) = some 1) (hb : w.heap[b]? = some (.cells #[dv] T' (0, 0))) : (storeVar T ⟨b, 0, none⟩ (.slice a n c)).run P w = .ok () (w.setCells b 0 [.slice a n c]) :=
  storeV (v := .slice a n c) hi (fun m hm => by
    have h : m < 1 := hm
    obtain rfl : m = 0 := by omega
    exact ⟨by simp [World.cell?, hb], by simp [World.frozen?, hb]⟩) (allc1 rfl)
theorem wpIn_tmps {c : Code} {F : Fence} {n : Nat} {P : Program} {Q : Exit → Act → World → Prop} {w : World} {t t' : Array Value} (h : c.wpIn F n P Q ⟨t', []⟩ w) (e : t = t') : c.wpIn F n P Q ⟨t, []⟩ w := e ▸ h
theorem ex_makeFuncU {P : Program} {ρ : Operand → Value} {w : World} {d : Option Tmp} {t : TypeId} {pos : String} {after : Array Edge} {guard : Option (Nat × Bool)} {k : FuncId} {x : Operand} {v : Value} (hx : ρ x = v) : (execOp ρ ⟨d, .makeFunc (.func k) #[] #[x], t, pos, after, guard⟩).run P w = .ok (.value (.func (.func k) #[] #[v])) w := by
  subst hx
  simp [execOp, Instr.makeFunc]
theorem Bs.cells {F F' : Fz} {v : Value} {l : By} (h : Bs F v l) (hc : ∀ b o u, cellF F b o = some u → cellF F' b o = some u) : Bs F' v l := by
  obtain ⟨a, c, h1, h2, h3, h4, h5⟩ := h
  exact ⟨a, c, h1, h2, h3, h4, h5.imp id fun ⟨b, o, h6, h7⟩ => ⟨b, o, h6, fun j u hu => hc _ _ _ (h7 j u hu)⟩⟩
/-- What holds between two rounds. -/
def UpI {F1 : Fz} (w0 : World) (F0 : Fz) (B b5 : Nat) (d0 : By) (pre : List (BkX F1)) (W : World) : Prop :=
  (w0.heap.size ≤ b5 ∧ b5 < B ∧ w0.heap.size ≤ B ∧ B ≤ W.heap.size) ∧ ∃ F da dc, Gr w0 F0 W F ∧ Le F1 F ∧ (∀ r o, B ≤ r → W.heap[r]? = some o → o.isCells = false → F r = none) ∧ F b5 = none ∧ W.heap[b5]? = some (.cells #[.slice da (pre.foldl (fun d x => up1 (bkS x) d) d0).length dc] 23 (0, 0)) ∧ Bs F (.slice da (pre.foldl (fun d x => up1 (bkS x) d) d0).length dc) (pre.foldl (fun d x => up1 (bkS x) d) d0)
theorem UpI.own {F1 : Fz} {w0 : World} {F0 : Fz} {B b5 : Nat} {d0 : By} : OwnFrom B (UpI (F1 := F1) w0 F0 B b5 d0) := by
  intro pre W W' row ⟨⟨hb1, hb2, hb3, hB⟩, F, da, dc, hG, hle, hcl, h5n, h5, hbs⟩ hg hr
  have hrow : ∀ k, row = some k → F k = none := fun k e => by
    obtain ⟨h1, o, h2, h3⟩ := hr k e
    exact hcl k o h1 h2 h3
  have h5' : W'.heap[b5]? = some (.cells #[.slice da (pre.foldl (fun d x => up1 (bkS x) d) d0).length dc] 23 (0, 0)) := by
    rw [hg.block b5 (Array.getElem?_eq_some_iff.1 h5).1 (fun e => by have := (hr b5 e.symm).1; omega)]
    exact h5
  refine ⟨⟨hb1, hb2, hb3, Nat.le_trans hB hg.size⟩, F, da, dc, ⟨hG.below.grown hg (by omega) (fun k e => by have := (hr k e).1; omega), hG.old, hG.sat.grown hg hrow⟩, hle, fun r o hrB ho hc => ?_, h5n, h5', hbs⟩
  by_cases hlt : r < W.heap.size
  · by_cases e : some r = row
    · exact hrow r e.symm
    · rw [hg.block r hlt e] at ho
      exact hcl r o hrB ho hc
  · exact hG.sat.out (by omega)
/-- The box of a step, in a round. -/
def UpX {F1 : Fz} (B : Nat) (fr : Nat → BkX F1 → Array Value) (x : BkX F1) (a' : Act) (W : World) : Prop :=
  ∃ Bx, B ≤ Bx ∧ W.heap[Bx]? = some (.cells #[.int .i64 (((bkS x).bit : Nat) : Int), .bool (bkS x).right, bkV x] 127 (0, 0)) ∧ a' = ⟨fr Bx x, []⟩
theorem UpX.own {F1 : Fz} {B B' : Nat} {fr : Nat → BkX F1 → Array Value} {x : BkX F1} {a' : Act} : OwnFrom B' (fun (_ : Unit) W => UpX B fr x a' W) := by
  rintro _ W W' row ⟨Bx, h1, h2, h3⟩ hg hr
  refine ⟨Bx, h1, ?_, h3⟩
  rw [hg.block Bx (Array.getElem?_eq_some_iff.1 h2).1 (fun e => by obtain ⟨_, o, ho, hc⟩ := hr Bx e.symm; rw [h2] at ho; cases ho; cases hc)]
  exact h2
theorem keeps_of_below {B : Nat} {W w : World} (h : Below W.heap.size W w) : KeepsFrom B W w := ⟨h.size, fun k o _ hk _ => by rw [h.block k (Array.getElem?_eq_some_iff.1 hk).1]; exact hk⟩
theorem keepC_of_below {b : Nat} {W w : World} (h : Below W.heap.size W w) : KeepC b W w := fun k o _ hk _ => by rw [h.block k (Array.getElem?_eq_some_iff.1 hk).1]; exact hk
/-- Where a new block was laid alone. -/
theorem UpI.below {F1 : Fz} {w0 W w : World} {F0 : Fz} {B b5 : Nat} {d0 : By} {pre : List (BkX F1)} (h : UpI w0 F0 B b5 d0 pre W) (hb : Below W.heap.size W w) : UpI w0 F0 B b5 d0 pre w := by
  obtain ⟨⟨hb1, hb2, hb3, hB⟩, F, da, dc, hG, hle, hcl, h5n, h5, hbs⟩ := h
  refine ⟨⟨hb1, hb2, hb3, Nat.le_trans hB hb.size⟩, F, da, dc, hG.trans (Gr.of_below hG.sat hb), hle, fun r o hrB ho hc => ?_, h5n, (hb.block b5 (Array.getElem?_eq_some_iff.1 h5).1).trans h5, hbs⟩
  by_cases hlt : r < W.heap.size
  · rw [hb.block r hlt] at ho
    exact hcl r o hrB ho hc
  · exact hG.sat.out (by omega)
theorem UpI.end {F1 : Fz} {w0 W : World} {F0 : Fz} {B b5 D : Nat} {d0 : By} {pre : List (BkX F1)} (h : UpI w0 F0 B b5 d0 pre W) (hD : B ≤ D) (hK : W.heap[D]? = some (.deferred (some []))) :
    ∃ da dc F, W.cell? ⟨b5, 0, none⟩ = some (.slice da (pre.foldl (fun d x => up1 (bkS x) d) d0).length dc) ∧ Gr w0 F0 (W.putObj D (.deferred none)) F ∧ Bs F (.slice da (pre.foldl (fun d x => up1 (bkS x) d) d0).length dc) (pre.foldl (fun d x => up1 (bkS x) d) d0) := by
  obtain ⟨⟨hb1, hb2, hb3, hB⟩, F, da, dc, hG, hle, hcl, h5n, h5, hbs⟩ := h
  exact ⟨da, dc, F, by simp [World.cell?, h5], ⟨hG.below.grown (grownBy_putObj' W D _) (by omega) (fun k e => by cases e; omega), hG.old, hG.sat.grown (grownBy_putObj' W D _) (fun k e => by cases e; exact hcl D _ hD hK rfl)⟩, hbs⟩
def onlyC (n : Nat) (F : Fz) : Fz := fun r => match F r with
  | some (.cells c t fr) => some (.cells c t fr)
  | some o => if r < n then some o else none
  | none => none
theorem onlyC_of {n : Nat} {F : Fz} {r : Nat} {o : Obj} (h : onlyC n F r = some o) : F r = some o := by
  unfold onlyC at h
  split at h
  · rename_i hf; rw [hf]; exact h
  · rename_i o' _ hf
    split at h
    · rw [hf]; exact h
    · cases h
  · cases h
theorem onlyC_old {n : Nat} {F : Fz} {r : Nat} (h : r < n) : onlyC n F r = F r := by
  unfold onlyC
  split
  · rename_i hf; exact hf.symm
  · rename_i hf; rw [if_pos h]; exact hf.symm
  · rename_i hf; exact hf.symm
theorem onlyC_cell {n : Nat} {F : Fz} {b o : Nat} {u : Value} (h : cellF F b o = some u) : cellF (onlyC n F) b o = some u := by
  unfold cellF at h ⊢
  split at h
  · rename_i c t fr hb
    have : onlyC n F b = some (.cells c t fr) := by unfold onlyC; rw [hb]
    rw [this]; exact h
  · cases h
theorem onlyC_none {n : Nat} {F : Fz} {r : Nat} {o : Obj} (hn : n ≤ r) (h : F r = some o) (hc : o.isCells = false) : onlyC n F r = none := by
  unfold onlyC
  rw [h]
  cases o with
  | cells => cases hc
  | _ => simp only; rw [if_neg (by omega)]
/-- What a round leaves. -/
theorem up_round {F1 F Fr : Fz} {w0 W w : World} {F0 : Fz} {B b5 Bx : Nat} {d0 : By} {pre : List (BkX F1)} {x : BkX F1} {cs : Array Value} {tx : TypeId} {fx : Nat × Nat} {dv : Value} {xa : Option Addr} {xc : Nat} {D : By} (hb1 : w0.heap.size ≤ b5) (hb2 : b5 < B) (hb3 : w0.heap.size ≤ B) (hB : B ≤ W.heap.size)
    (hG : Gr w0 F0 W F) (hle : Le F1 F) (hcl : ∀ r o, B ≤ r → W.heap[r]? = some o → o.isCells = false → F r = none) (h5n : F b5 = none) (h5 : W.heap[b5]? = some (.cells #[dv] 23 (0, 0)))
    (hx : W.heap[Bx]? = some (.cells cs tx fx)) (hBx : B ≤ Bx) (g : Gr W (addF F W Bx) w Fr) (hD : D = (pre ++ [x]).foldl (fun d x => up1 (bkS x) d) d0) (hbs : Bs Fr (.slice xa D.length xc) D) :
    KeepsFrom B W (w.setCells b5 0 [.slice xa D.length xc]) ∧ KeepC b5 W (w.setCells b5 0 [.slice xa D.length xc]) ∧ UpI w0 F0 B b5 d0 (pre ++ [x]) (w.setCells b5 0 [.slice xa D.length xc]) := by
  have h5lt := (Array.getElem?_eq_some_iff.1 h5).1
  have h5w : w.heap[b5]? = some (.cells #[dv] 23 (0, 0)) := (g.below.block b5 h5lt).trans h5
  have hbl : ∀ k, k ≠ b5 → (w.setCells b5 0 [.slice xa D.length xc]).heap[k]? = w.heap[k]? := fun k hk => heap_setCells_past _ _ _ hk
  have hsz : (w.setCells b5 0 [.slice xa D.length xc]).heap.size = w.heap.size := size_setCells _ _ _
  have hx5 : Bx ≠ b5 := by omega
  have hFb : ∀ r, r ≠ Bx → addF F W Bx r = F r := fun r hr => addF_old hr
  have h5f : Fr b5 = none := by rw [g.old b5 h5lt, hFb b5 (fun e => hx5 e.symm)]; exact h5n
  refine ⟨⟨by rw [hsz]; exact g.below.size, fun k o hk ho hc => ?_⟩, fun k o hk ho hc => ?_, ⟨hb1, hb2, hb3, by rw [hsz]; exact Nat.le_trans hB g.below.size⟩, onlyC W.heap.size Fr, xa, xc, ⟨?_, fun b hb => ?_, fun b o hb => ?_⟩, fun b o hb => ?_, fun r o hr ho hc => ?_, ?_, ?_, ?_⟩
  · rw [hbl k (fun e => by rw [e, h5] at ho; cases ho; cases hc), g.below.block k (Array.getElem?_eq_some_iff.1 ho).1]
    exact ho
  · rw [hbl k hk, g.below.block k (Array.getElem?_eq_some_iff.1 ho).1]
    exact ho
  · exact below_setCells hb1 _ _ _ _ (hG.below.trans (g.below.mono hG.below.size))
  · have hlt : b < W.heap.size := by omega
    rw [onlyC_old hlt, g.old b hlt, hFb b (by omega)]
    exact hG.old b hb
  · have hb' := onlyC_of hb
    rw [hbl b (fun e => by rw [e, h5f] at hb'; cases hb')]
    exact g.sat b o hb'
  · have hlt := hG.sat.lt (hle b o hb)
    rw [onlyC_old hlt, g.old b hlt]
    exact addF_le _ _ _ _ _ (hle b o hb)
  · by_cases hlt : r < W.heap.size
    · have hr5 : r ≠ b5 := by omega
      rw [hbl r hr5, g.below.block r hlt] at ho
      rw [onlyC_old hlt, g.old r hlt, hFb r (fun e => by rw [e, hx] at ho; cases ho; cases hc)]
      exact hcl r o hr ho hc
    · cases hfr : Fr r with
      | none =>
        unfold onlyC
        rw [hfr]
      | some o' =>
        have := g.sat r o' hfr
        rw [hbl r (by omega), this] at ho
        cases ho
        exact onlyC_none (by omega) hfr hc
  · rw [onlyC_old h5lt]; exact h5f
  · have := heap_setCells (vs := [.slice xa D.length xc]) (j := 0) (w := w) (c := [dv]) h5w (by simp)
    rw [this, ← hD]
    rfl
  · rw [← hD]
    exact hbs.cells fun b o u h => onlyC_cell h
theorem up_snoc {F1 : Fz} {pre : List (BkX F1)} {x : BkX F1} {d0 : By} : (pre ++ [x]).foldl (fun d x => up1 (bkS x) d) d0 = up1 (bkS x) (pre.foldl (fun d x => up1 (bkS x) d) d0) := by rw [List.foldl_append]; rfl
theorem up_all {F1 : Fz} {xs : List (BkX F1)} {l : List Stp} {d0 : By} (h : xs.map bkS = l.reverse) : xs.foldl (fun d x => up1 (bkS x) d) d0 = l.foldr up1 d0 := by
  rw [show xs.foldl (fun d x => up1 (bkS x) d) d0 = (xs.map bkS).foldl (fun d s => up1 s d) d0 from by rw [List.foldl_map], h, List.foldl_reverse]
theorem up1_len (s : Stp) (d : By) : (up1 s d).length = 32 := by unfold up1; split <;> exact sumL_len _
theorem up_len {F1 : Fz} : ∀ (xs : List (BkX F1)) (d0 : By), d0.length = 32 → (xs.foldl (fun d x => up1 (bkS x) d) d0).length = 32
  | [], _, h => h
  | x :: xs, d0, h => up_len xs _ (up1_len _ _)
set_option maxHeartbeats 8000000 in
theorem backward_spec {w0 w : World} {F0 F : Fz} {L0 : List Blk} {M0 : List RowP} {a : Option Addr} {n c : Nat} (S : St w0 F0 w F L0 M0) :
    Calls Tryd.prog 101 #[.slice a n c] w fun e w' => ∃ bx, e = .returned (.func (.func 107) #[] #[.pointer (some ⟨bx, 0, none⟩)]) ∧ St w0 F0 w' F (⟨bx, [.slice a n c], 47⟩ :: L0) M0 := by
 go_enter Tryd.func101, Tryd.ntmps101
 refine wp_seq_k (fun K1 hK1 => region_wl ?_)
 refine stNew S (v := fun n => .pointer (some ⟨n, 0, none⟩)) rfl (ex_box (v := (.slice a n c)) rfl) (fun n2 w3 S4 => ?_)
 simp only [pS, pN, pA, pC, pZ]
 have S4 : St w0 F0 w3 F (⟨n2, [(.slice a n c)], 47⟩ :: L0) (M0) := S4
 refine do_ rfl .nilFunc (ex_assign _) ?_
 simp only [pS, pN, pA, pC, pZ]
 refine wl_nil (hK1 _ _ ?_)
 refine wp_seq_k (fun K5 hK5 => region_wl ?_)
 refine do_ rfl (.func (.func 107) #[] #[(.pointer (some ⟨n2, 0, none⟩))]) (ex_makeFuncU rfl) ?_
 simp only [pS, pN, pA, pC, pZ]
 refine do_ rfl (.func (.func 107) #[] #[(.pointer (some ⟨n2, 0, none⟩))]) (ex_assign _) ?_
 simp only [pS, pN, pA, pC, pZ]
 refine wl_nil (hK5 _ _ ?_)
 refine wp_ret ?_
 (try simp only [Exit.then, Exit.inBlock, ↓reduceIte, Nat.reduceEqDiff])
 refine bodyPost_ret (v := (.func (.func 107) #[] #[(.pointer (some ⟨n2, 0, none⟩))])) ?_ rfl ?_
 ·exact res_t rfl rfl
 ·exact ⟨_, rfl, S4⟩
set_option maxHeartbeats 8000000 in
theorem upEmpty_spec (F : Fz) (w : World) (v : Value) (p : Prf) (hs : Sat w F) (hT : Tabs w) (hv : PrfV F v p) (he : p.empty = true) :
    Calls Tryd.prog 81 #[v] w (Gives w F fun F' u => Bs F' u (rootT [])) := by
 obtain ⟨sa, sc, pa, pc, qa, qc, rfl, h1, h2, h3⟩ := hv
 obtain ⟨_, _, e1, q1, q2⟩ := Sl.shape h1
 injection e1 with _ _ e1
 subst e1
 unfold maxLen at q2
 rw [he]
 have S := St.start hs
 go_enter Tryd.func81, Tryd.ntmps81
 refine wp_seq_k (fun K1 hK1 => region_wl ?_)
 refine stNew S (v := fun n => .pointer (some ⟨n, 0, none⟩)) rfl (ex_box (v := (.agg #[(.bool true), (.slice sa p.steps.length sc), (.slice pa p.pair.1.length pc), (.slice qa p.pair.2.length qc)])) rfl) (fun n2 w3 S4 => ?_)
 simp only [pS, pN, pA, pC, pZ]
 have S4 : St w F w3 F [⟨n2, [(.bool true), (.slice sa p.steps.length sc), (.slice pa p.pair.1.length pc), (.slice qa p.pair.2.length qc)], 49⟩] [] := S4
 refine do_ rfl (.slice none 0 0) (ex_assign _) ?_
 simp only [pS, pN, pA, pC, pZ]
 refine wl_nil (hK1 _ _ ?_)
 refine wp_seq_k (fun K5 hK5 => ?_)
 refine wp_seq_k (fun K6 hK6 => region_wl ?_)
 refine do_ rfl (.pointer (some ⟨n2, 0, none⟩)) (ex_field (q := ⟨n2, 0, none⟩) rfl (fa_49_0 _ _)) ?_
 simp only [pS, pN, pA, pC, pZ]
 refine do_ rfl (.bool true) (ex_load rfl (load1 (nagg_4 _) (St.cell S4 (i := 0) rfl rfl))) ?_
 simp only [pS, pN, pA, pC, pZ]
 refine wl_nil (hK6 _ _ ?_)
 refine wp_cond_true rfl ?_
 refine wp_seq_k (fun K7 hK7 => region_wl ?_)
 refine stGives S4 rfl (ex_fn (vs := #[(.slice none 0 0)]) (map1 rfl) rfl (ent_18 _ _)) (Root_spec _ _ _ ([] : List Pr) (S4).sat (hT.at S4.gr.below) (Sl.nil _ _ _) (TreeOk.nil 60)) ?_
 intro v13 w8 F10 S9 le11 R12
 obtain ⟨x14, rfl, r15⟩ := R12
 obtain ⟨xa16, xc17, rfl, _⟩ := r15.shape
 have r15 : Bs _ (.slice xa16 (rootT ([] : List Pr)).length xc17) (rootT ([] : List Pr)) := r15
 simp only [pS, pN, pA, pC, pZ]
 refine do_ rfl (.tuple #[(.slice xa16 (rootT ([] : List Pr)).length xc17), (.int .i64 0)]) (ex_move _) ?_
 simp only [pS, pN, pA, pC, pZ]
 refine do_ rfl (.slice xa16 (rootT ([] : List Pr)).length xc17) (ex_extract rfl rfl) ?_
 simp only [pS, pN, pA, pC, pZ]
 refine do_ rfl (.int .i64 0) (ex_extract rfl rfl) ?_
 simp only [pS, pN, pA, pC, pZ]
 refine do_ rfl (.slice xa16 (rootT ([] : List Pr)).length xc17) (ex_assign _) ?_
 simp only [pS, pN, pA, pC, pZ]
 refine do_ rfl (.int .i64 0) (ex_assign _) ?_
 simp only [pS, pN, pA, pC, pZ]
 refine wl_nil (hK7 _ _ ?_)
 refine wp_seq_k (fun K18 hK18 => region_wl ?_)
 refine do_ rfl (.slice xa16 (rootT ([] : List Pr)).length xc17) (ex_move _) ?_
 simp only [pS, pN, pA, pC, pZ]
 refine do_ rfl (.slice xa16 (rootT ([] : List Pr)).length xc17) (ex_assign _) ?_
 simp only [pS, pN, pA, pC, pZ]
 refine wl_nil (hK18 _ _ ?_)
 refine wp_ret ?_
 (try simp only [Exit.then, Exit.inBlock, ↓reduceIte, Nat.reduceEqDiff])
 refine bodyPost_ret (v := (.slice xa16 (rootT ([] : List Pr)).length xc17)) ?_ rfl ?_
 ·exact res_t rfl rfl
 ·exact ⟨_, _, rfl, S9.gr, r15⟩
set_option maxHeartbeats 8000000 in
theorem upPair_spec (F : Fz) (w : World) (v : Value) (p : Prf) (hs : Sat w F) (hT : Tabs w) (hv : PrfV F v p) (he : p.empty = false) (hpo : TreeOk 60 [(p.pair.1, p.pair.2)]) (hso : StpsOk p.steps) (hl : p.steps.length ≤ 1000) :
    Calls Tryd.prog 81 #[v] w (Gives w F fun F' u => Bs F' u (upN p.steps p.pair)) := by
 obtain ⟨sa, sc, pa, pc, qa, qc, rfl, h1, h2, h3⟩ := hv
 obtain ⟨_, _, e1, q1, q2⟩ := Sl.shape h1
 injection e1 with _ _ e1
 subst e1
 unfold maxLen at q2
 rw [he]
 have S := St.start hs
 refine (callsIn_wide (n := 3)).1 (callsIn_of_wp_marks Tryd.func81 rfl trivial (wpIn_wide.2 ?_))
 simp only [Tryd.ntmps81, List.size_toArray, List.length_cons, List.length_nil, Nat.reduceAdd, Nat.reduceSub, Array.replicate_succ,
  Array.replicate_zero, List.push_toArray, List.append_toArray, List.nil_append, List.cons_append]
 refine wp_seq_k (fun K1 hK1 => region_wl ?_)
 refine stNew S (v := fun n => .pointer (some ⟨n, 0, none⟩)) rfl (ex_box (v := (.agg #[(.bool false), (.slice sa p.steps.length sc), (.slice pa p.pair.1.length pc), (.slice qa p.pair.2.length qc)])) rfl) (fun n2 w3 S4 => ?_)
 simp only [pS, pN, pA, pC, pZ]
 have S4 : St w F w3 F [⟨n2, [(.bool false), (.slice sa p.steps.length sc), (.slice pa p.pair.1.length pc), (.slice qa p.pair.2.length qc)], 49⟩] [] := S4
 refine do_ rfl (.slice none 0 0) (ex_assign _) ?_
 simp only [pS, pN, pA, pC, pZ]
 refine wl_nil (hK1 _ _ ?_)
 refine wp_seq_k (fun K5 hK5 => ?_)
 refine wp_seq_k (fun K6 hK6 => region_wl ?_)
 refine do_ rfl (.pointer (some ⟨n2, 0, none⟩)) (ex_field (q := ⟨n2, 0, none⟩) rfl (fa_49_0 _ _)) ?_
 simp only [pS, pN, pA, pC, pZ]
 refine do_ rfl (.bool false) (ex_load rfl (load1 (nagg_4 _) (St.cell S4 (i := 0) rfl rfl))) ?_
 simp only [pS, pN, pA, pC, pZ]
 refine wl_nil (hK6 _ _ ?_)
 refine wp_cond_false rfl ?_
 refine wp_skip ?_
 refine hK5 _ _ ?_
 refine wp_seq_k (fun K7 hK7 => region_wl ?_)
 refine do_ rfl (.pointer (some ⟨n2, 2, none⟩)) (ex_field (q := ⟨n2, 2, none⟩) rfl (fa_49_2 _ _)) ?_
 simp only [pS, pN, pA, pC, pZ]
 refine do_ rfl (.agg #[(.slice pa p.pair.1.length pc), (.slice qa p.pair.2.length qc)]) (ex_load rfl (loadN (cs := [(.slice pa p.pair.1.length pc), (.slice qa p.pair.2.length qc)]) Tryd.underlying34 rfl (size_34) (St.range S4 (i := 0) rfl 2 [(.slice pa p.pair.1.length pc), (.slice qa p.pair.2.length qc)] (sub_range 2 rfl)))) ?_
 simp only [pS, pN, pA, pC, pZ]
 refine stNew S4 (v := fun n => .slice (some ⟨n, 0, none⟩) 1 1) rfl (ex_lit (ps := #[(0, (.agg #[(.slice pa p.pair.1.length pc), (.slice qa p.pair.2.length qc)]))]) (cells := #[(.slice pa p.pair.1.length pc), (.slice qa p.pair.2.length qc)]) (E := 34) (bmap1 rfl) (fun w => by kernel_rfl)) (fun n8 w9 S10 => ?_)
 simp only [pS, pN, pA, pC, pZ]
 have S10 : St w F w9 F [⟨n8, [(.slice pa p.pair.1.length pc), (.slice qa p.pair.2.length qc)], 34⟩, ⟨n2, [(.bool false), (.slice sa p.steps.length sc), (.slice pa p.pair.1.length pc), (.slice qa p.pair.2.length qc)], 49⟩] [] := S10
 obtain ⟨S11, le12, hc13⟩ := St.freezeBlk S10 (i := 0) rfl
 have r15 : Prs _ (.slice (some ⟨n8, 0, none⟩) 1 1) ([(p.pair.1, p.pair.2)] : List Pr) := sl_of_block (R := PrC) (l := ([(p.pair.1, p.pair.2)] : List Pr)) (el := [[(.slice pa p.pair.1.length pc), (.slice qa p.pair.2.length qc)]]) hc13 rfl ⟨⟨_, _, rfl, (h2.mono le12), (h3.mono le12)⟩, trivial⟩ (by simp) (by unfold maxLen; simp)
 generalize addF F w9 n8 = F14 at *
 have S11 : St w F w9 F14 [⟨n2, [(.bool false), (.slice sa p.steps.length sc), (.slice pa p.pair.1.length pc), (.slice qa p.pair.2.length qc)], 49⟩] [] := S11
 refine stGives S11 rfl (ex_fn (vs := #[(.slice (some ⟨n8, 0, none⟩) 1 1)]) (map1 rfl) rfl (ent_18 _ _)) (Root_spec _ _ _ ([(p.pair.1, p.pair.2)] : List Pr) (S11).sat (hT.at S11.gr.below) r15 hpo) ?_
 intro v21 w16 F18 S17 le19 R20
 obtain ⟨x22, rfl, r23⟩ := R20
 obtain ⟨xa24, xc25, rfl, _⟩ := r23.shape
 have r23 : Bs _ (.slice xa24 (rootT ([(p.pair.1, p.pair.2)] : List Pr)).length xc25) (rootT ([(p.pair.1, p.pair.2)] : List Pr)) := r23
 simp only [pS, pN, pA, pC, pZ]
 refine do_ rfl (.tuple #[(.slice xa24 (rootT ([(p.pair.1, p.pair.2)] : List Pr)).length xc25), (.int .i64 0)]) (ex_move _) ?_
 simp only [pS, pN, pA, pC, pZ]
 refine do_ rfl (.slice xa24 (rootT ([(p.pair.1, p.pair.2)] : List Pr)).length xc25) (ex_extract rfl rfl) ?_
 simp only [pS, pN, pA, pC, pZ]
 refine do_ rfl (.int .i64 0) (ex_extract rfl rfl) ?_
 simp only [pS, pN, pA, pC, pZ]
 refine stNew S17 (v := fun n => .pointer (some ⟨n, 0, none⟩)) rfl (ex_alloc (zero_23 _)) (fun n26 w27 S28 => ?_)
 simp only [pS, pN, pA, pC, pZ]
 have S28 : St w F w27 F18 [⟨n26, [(.slice none 0 0)], 23⟩, ⟨n2, [(.bool false), (.slice sa p.steps.length sc), (.slice pa p.pair.1.length pc), (.slice qa p.pair.2.length qc)], 49⟩] [] := S28
 refine stStore (i := 0) (v := (.slice xa24 (rootT ([(p.pair.1, p.pair.2)] : List Pr)).length xc25)) S28 rfl rfl rfl rfl (size_23) (allc1 rfl) (Nat.le_of_ble_eq_true rfl) (fun w29 S30 => ?_)
 simp only [pS, pN, pA, pC, pZ]
 have S30 : St w F w29 F18 [⟨n26, [(.slice xa24 (rootT ([(p.pair.1, p.pair.2)] : List Pr)).length xc25)], 23⟩, ⟨n2, [(.bool false), (.slice sa p.steps.length sc), (.slice pa p.pair.1.length pc), (.slice qa p.pair.2.length qc)], 49⟩] [] := S30
 refine do_ rfl (.int .i64 0) (ex_assign _) ?_
 simp only [pS, pN, pA, pC, pZ]
 refine wl_nil (hK7 _ _ ?_)
 refine wp_seq_k (fun K31 hK31 => ?_)
 refine wp_seq_k (fun K32 hK32 => region_wl ?_)
 refine do_ rfl (.pointer (some ⟨n2, 1, none⟩)) (ex_field (q := ⟨n2, 1, none⟩) rfl (fa_49_1 _ _)) ?_
 simp only [pS, pN, pA, pC, pZ]
 refine do_ rfl (.slice sa p.steps.length sc) (ex_load rfl (load1 (nagg_47 _) (St.cell S30 (i := 1) rfl rfl))) ?_
 simp only [pS, pN, pA, pC, pZ]
 refine doC rfl (ex_fn (vs := #[(.slice sa p.steps.length sc)]) (map1 rfl) rfl (ent_101 _ _)) (backward_spec S30) ?_
 rintro e33 w34 ⟨bx35, rfl, S36⟩
 refine ⟨_, rfl, ?_⟩
 simp only [pS, pN, pA, pC, pZ]
 have S36 : St w F w34 F18 [⟨bx35, [(.slice sa p.steps.length sc)], 47⟩, ⟨n26, [(.slice xa24 (rootT ([(p.pair.1, p.pair.2)] : List Pr)).length xc25)], 23⟩, ⟨n2, [(.bool false), (.slice sa p.steps.length sc), (.slice pa p.pair.1.length pc), (.slice qa p.pair.2.length qc)], 49⟩] [] := S36
 refine wl_nil (hK32 _ _ ?_)
 refine wp_block ?_
 have hB5 := S36.blk _ (St.mem (i := 1) rfl)
 have hBX := S36.blk _ (St.mem (i := 0) rfl)
 have hBn : (bx35 : Nat) ≠ n26 := by
  have h := S36.bb
  simp only [List.pairwise_cons, List.mem_cons, forall_eq_or_imp] at h
  exact h.1.1
 simp only at hB5 hBX
 obtain ⟨Bw, hBw⟩ : ∃ B, B = w34.heap.size := ⟨_, rfl⟩
 have h5B : n26 < Bw := by rw [hBw]; exact (Array.getElem?_eq_some_iff.1 hB5.1).1
 have hI0 : UpI (F1 := F18) w F Bw n26 (rootT ([(p.pair.1, p.pair.2)] : List Pr)) [] w34 := ⟨⟨hB5.2.2, h5B, by rw [hBw]; exact S36.gr.below.size, by rw [hBw]; exact Nat.le_refl _⟩, F18, _, _, S36.gr, Le.refl _, fun r o hr ho _ => by have := (Array.getElem?_eq_some_iff.1 ho).1; omega, hB5.2.1, hB5.1, r23⟩
 refine (wpIn_wide (n := 3)).1 (wpIn_rangeFunc_ownH (α := BkX F18) (n := 3) rfl (by omega) (gf := 107) (lb := #[.pointer (some ⟨bx35, 0, none⟩)]) rfl trivial (fun args w => ent_107 args w) (back_stops (b5 := n26) (h1.mono (le12.trans le19)) hso S36.sat.c hB5.2.1 hBX.1 hBn) (fun h k => KeepC.trans h k) (fun W l o o' h1 h2 h3 h4 => KeepC.put W l o o' h1 h2 h3 h4) (Below.refl _ _) (fun _ => rfl) (UpI w F Bw n26 (rootT ([(p.pair.1, p.pair.2)] : List Pr))) (fun _ _ _ => False) (by rw [← hBw]; exact UpI.own) (fun _ _ _ _ _ hs _ _ => hs) hI0 (UpX Bw (fun Bq x => #[(.agg #[(.bool false), (.slice sa p.steps.length sc), (.slice pa p.pair.1.length pc), (.slice qa p.pair.2.length qc)]), (.pointer (some ⟨n2, 0, none⟩)), (.slice none 0 0), undef, undef, (.pointer (some ⟨n26, 0, none⟩)), (.int .i64 0), undef, (.pointer (some ⟨Bq, 0, none⟩)), undef, (.pointer (some ⟨n2, 0, none⟩)), (.bool false), undef, undef, undef, undef, undef, (.tuple #[(.slice xa24 (rootT ([(p.pair.1, p.pair.2)] : List Pr)).length xc25), (.int .i64 0)]), (.pointer (some ⟨n2, 2, none⟩)), (.agg #[(.slice pa p.pair.1.length pc), (.slice qa p.pair.2.length qc)]), (.slice (some ⟨n8, 0, none⟩) 1 1), (.tuple #[(.slice xa24 (rootT ([(p.pair.1, p.pair.2)] : List Pr)).length xc25), (.int .i64 0)]), (.slice xa24 (rootT ([(p.pair.1, p.pair.2)] : List Pr)).length xc25), (.int .i64 0), (.pointer (some ⟨n2, 1, none⟩)), (.slice sa p.steps.length sc), (.func (.func 107) #[] #[(.pointer (some ⟨bx35, 0, none⟩))]), (.int .i64 ((x.1.1 : Nat) : Int)), (.agg #[.int .i64 (((bkS x).bit : Nat) : Int), .bool (bkS x).right, bkV x]), undef, undef, undef, undef, undef, undef, undef, undef, undef, undef, undef, undef, undef, undef, undef, undef, undef, undef, undef, undef, undef, undef, undef, undef, undef, undef])) (fun x a' => UpX.own) ?assign ?body ?done ?stop)
 case assign =>
  intro l pre x W K hI hK
  have hI1 := hI
  obtain ⟨⟨_, _, _, hBW⟩, F9, _, _, hG9, _⟩ := hI
  have S := St.start hG9.sat
  refine wpIn_tmps (t' := #[(.agg #[(.bool false), (.slice sa p.steps.length sc), (.slice pa p.pair.1.length pc), (.slice qa p.pair.2.length qc)]), (.pointer (some ⟨n2, 0, none⟩)), (.slice none 0 0), undef, undef, (.pointer (some ⟨n26, 0, none⟩)), (.int .i64 0), undef, undef, undef, (.pointer (some ⟨n2, 0, none⟩)), (.bool false), undef, undef, undef, undef, undef, (.tuple #[(.slice xa24 (rootT ([(p.pair.1, p.pair.2)] : List Pr)).length xc25), (.int .i64 0)]), (.pointer (some ⟨n2, 2, none⟩)), (.agg #[(.slice pa p.pair.1.length pc), (.slice qa p.pair.2.length qc)]), (.slice (some ⟨n8, 0, none⟩) 1 1), (.tuple #[(.slice xa24 (rootT ([(p.pair.1, p.pair.2)] : List Pr)).length xc25), (.int .i64 0)]), (.slice xa24 (rootT ([(p.pair.1, p.pair.2)] : List Pr)).length xc25), (.int .i64 0), (.pointer (some ⟨n2, 1, none⟩)), (.slice sa p.steps.length sc), (.func (.func 107) #[] #[(.pointer (some ⟨bx35, 0, none⟩))]), (.int .i64 ((x.1.1 : Nat) : Int)), (.agg #[.int .i64 (((bkS x).bit : Nat) : Int), .bool (bkS x).right, bkV x]), undef, undef, undef, undef, undef, undef, undef, undef, undef, undef, undef, undef, undef, undef, undef, undef, undef, undef, undef, undef, undef, undef, undef, undef, undef, undef]) ?_ (by simp [bkEnc])
  refine regionR_wl rfl (fun ⟨_, _, h⟩ => h) ?_
  refine stNew S (v := fun n => .pointer (some ⟨n, 0, none⟩)) rfl (ex_alloc (zero_127 _)) (fun n37 w38 S39 => ?_)
  simp only [pS, pN, pA, pC, pZ]
  have S39 : St W F9 w38 F9 [⟨n37, [(.int .i64 0), (.bool false), (.slice none 0 0)], 127⟩] [] := S39
  refine stStore (i := 0) (v := (.agg #[(.int .i64 (((bkS x).bit : Nat) : Int)), (.bool (bkS x).right), (bkV x)])) S39 rfl rfl rfl rfl (size_127) (allc3 rfl rfl rfl) (Nat.le_of_ble_eq_true rfl) (fun w40 S41 => ?_)
  simp only [pS, pN, pA, pC, pZ]
  have S41 : St W F9 w40 F9 [⟨n37, [(.int .i64 (((bkS x).bit : Nat) : Int)), (.bool (bkS x).right), (bkV x)], 127⟩] [] := S41
  refine wl_nil ?_
  have hb_ := S41.blk _ (List.mem_cons_self ..)
  simp only at hb_
  exact hK _ _ (keeps_of_below S41.gr.below) (keepC_of_below S41.gr.below) (hI1.below S41.gr.below) ⟨n37, by omega, hb_.1, rfl⟩
 case body =>
  rintro l pre x a' W hl - ⟨⟨hb1, hb2, hb3, hBW⟩, F9, da, dc, hG9, hle9, hcl9, h5n, h5, hbs⟩ ⟨Bx, hBx, hX, rfl⟩ -
  obtain ⟨D, hD⟩ : ∃ D, D = pre.foldl (fun d x => up1 (bkS x) d) (rootT ([(p.pair.1, p.pair.2)] : List Pr)) := ⟨_, rfl⟩
  have hDl : D.length = 32 := by rw [hD]; exact up_len _ _ (rootT_len _)
  rw [← hD] at h5 hbs
  have hsn : up1 (bkS x) D = (pre ++ [x]).foldl (fun d x => up1 (bkS x) d) (rootT ([(p.pair.1, p.pair.2)] : List Pr)) := by rw [up_snoc, hD]
  obtain ⟨q, hq⟩ : ∃ q, q = bkS x := ⟨_, rfl⟩
  obtain ⟨xa, xc, hxv, hxb, hxl, hx32⟩ : ∃ xa xc, bkV x = .slice xa q.other.length xc ∧ Bs F18 (.slice xa q.other.length xc) q.other ∧ q.bit < 145 ∧ q.other.length = 32 := by
   subst hq
   exact ⟨_, _, rfl, x.2⟩
  rw [hxv, ← hq] at hX
  rw [← hq] at hsn
  obtain ⟨Fb, hFb⟩ : ∃ G, G = addF F9 W Bx := ⟨_, rfl⟩
  have hsb : Sat W Fb := by rw [hFb]; exact hG9.sat.addF Bx
  have hl9 : Le F9 Fb := by rw [hFb]; exact fun b o h => addF_le _ _ _ _ _ h
  have hcx : ∀ j v, #[Value.int .i64 ((q.bit : Nat) : Int), .bool q.right, .slice xa q.other.length xc][j]? = some v → cellF Fb Bx j = some v := by
   intro j v hv
   rw [hFb]
   unfold cellF addF
   cases hfx : F9 Bx with
   | none => simp only [if_true, hX]; exact hv
   | some o => have h := hG9.sat Bx o hfx; rw [hX] at h; cases h; exact hv
  have hx0 := hcx 0 _ rfl
  have hx1 := hcx 1 _ rfl
  have hx2 := hcx 2 _ rfl
  have h5c : W.cell? ⟨n26, 0, none⟩ = some (.slice da D.length dc) := by simp [World.cell?, h5]
  have hT9 : Tabs W := hT.at hG9.below
  have S := St.start hsb
  simp only [hxv, ← hq]
  refine wpIn_block ?_
  refine wpIn_seq_k (fun K42 hK42 => ?_)
  refine regionR_wl rfl (fun ⟨_, _, h⟩ => h) ?_
  refine do_ rfl (.slice da D.length dc) (ex_load rfl (load1 (nagg_23 _) h5c)) ?_
  simp only [pS, pN, pA, pC, pZ]
  refine do_ rfl (.pointer (some ⟨Bx, 2, none⟩)) (ex_field (q := ⟨Bx, 2, none⟩) rfl (fa_127_2 _ _)) ?_
  simp only [pS, pN, pA, pC, pZ]
  refine do_ rfl (.slice xa q.other.length xc) (ex_load rfl (load1 (nagg_23 _) (St.fz S hx2))) ?_
  simp only [pS, pN, pA, pC, pZ]
  refine do_ rfl (.agg #[(.slice da D.length dc), (.slice xa q.other.length xc)]) (ex_build (ps := #[(0, (.slice da D.length dc)), (1, (.slice xa q.other.length xc))]) (bmap2 rfl rfl) (by kernel_rfl)) ?_
  simp only [pS, pN, pA, pC, pZ]
  refine stNew S (v := fun n => .pointer (some ⟨n, 0, none⟩)) rfl (ex_alloc (zero_158 _)) (fun n43 w44 S45 => ?_)
  simp only [pS, pN, pA, pC, pZ]
  have S45 : St W Fb w44 Fb [⟨n43, [(.slice none 0 0), (.slice none 0 0)], 158⟩] [] := S45
  refine stStore (i := 0) (v := (.agg #[(.slice da D.length dc), (.slice xa q.other.length xc)])) S45 rfl rfl rfl rfl (size_158) (allc2 rfl rfl) (Nat.le_of_ble_eq_true rfl) (fun w46 S47 => ?_)
  simp only [pS, pN, pA, pC, pZ]
  have S47 : St W Fb w46 Fb [⟨n43, [(.slice da D.length dc), (.slice xa q.other.length xc)], 158⟩] [] := S47
  refine wl_nil (hK42 _ _ ?_)
  refine wpIn_seq_k (fun K48 hK48 => ?_)
  refine wpIn_seq_k (fun K49 hK49 => ?_)
  refine regionR_wl rfl (fun ⟨_, _, h⟩ => h) ?_
  refine do_ rfl (.pointer (some ⟨Bx, 1, none⟩)) (ex_field (q := ⟨Bx, 1, none⟩) rfl (fa_127_1 _ _)) ?_
  simp only [pS, pN, pA, pC, pZ]
  refine do_ rfl (.bool q.right) (ex_load rfl (load1 (nagg_4 _) (St.fz S47 hx1))) ?_
  simp only [pS, pN, pA, pC, pZ]
  refine wl_nil (hK49 _ _ ?_)
  by_cases hqr : q.right = true
  ·refine wpIn_cond_true (show Value.bool q.right = Value.bool true from by rw [hqr]) ?_
   refine regionR_wl rfl (fun ⟨_, _, h⟩ => h) ?_
   refine do_ rfl (.pointer (some ⟨n43, 1, none⟩)) (ex_atA (i := 1) Tryd.underlying158 (sizeof_23 _) rfl rfl (by omega)) ?_
   simp only [pS, pN, pA, pC, pZ]
   refine do_ rfl (.slice xa q.other.length xc) (ex_load rfl (load1 (nagg_23 _) (St.cell S47 (i := 0) rfl rfl))) ?_
   simp only [pS, pN, pA, pC, pZ]
   refine do_ rfl (.pointer (some ⟨n43, 0, none⟩)) (ex_atA (i := 0) Tryd.underlying158 (sizeof_23 _) rfl rfl (by omega)) ?_
   simp only [pS, pN, pA, pC, pZ]
   refine do_ rfl (.slice da D.length dc) (ex_load rfl (load1 (nagg_23 _) (St.cell S47 (i := 0) rfl rfl))) ?_
   simp only [pS, pN, pA, pC, pZ]
   refine do_ rfl (.pointer (some ⟨n43, 0, none⟩)) (ex_atA (i := 0) Tryd.underlying158 (sizeof_23 _) rfl rfl (by omega)) ?_
   simp only [pS, pN, pA, pC, pZ]
   refine stStore (i := 0) (v := (.slice xa q.other.length xc)) S47 rfl rfl rfl rfl (size_23) (allc1 rfl) (Nat.le_of_ble_eq_true rfl) (fun w50 S51 => ?_)
   simp only [pS, pN, pA, pC, pZ]
   have S51 : St W Fb w50 Fb [⟨n43, [(.slice xa q.other.length xc), (.slice xa q.other.length xc)], 158⟩] [] := S51
   refine do_ rfl (.pointer (some ⟨n43, 1, none⟩)) (ex_atA (i := 1) Tryd.underlying158 (sizeof_23 _) rfl rfl (by omega)) ?_
   simp only [pS, pN, pA, pC, pZ]
   refine stStore (i := 0) (v := (.slice da D.length dc)) S51 rfl rfl rfl rfl (size_23) (allc1 rfl) (Nat.le_of_ble_eq_true rfl) (fun w52 S53 => ?_)
   simp only [pS, pN, pA, pC, pZ]
   have S53 : St W Fb w52 Fb [⟨n43, [(.slice xa q.other.length xc), (.slice da D.length dc)], 158⟩] [] := S53
   refine wl_nil (hK48 _ _ ?_)
   refine regionR_wl rfl (fun ⟨_, _, h⟩ => h) ?_
   refine do_ rfl (.pointer (some ⟨Bx, 0, none⟩)) (ex_field (q := ⟨Bx, 0, none⟩) rfl (fa_127_0 _ _)) ?_
   simp only [pS, pN, pA, pC, pZ]
   refine do_ rfl (.int .i64 ((q.bit : Nat) : Int)) (ex_load rfl (load1 (nagg_3 _) (St.fz S53 hx0))) ?_
   simp only [pS, pN, pA, pC, pZ]
   refine do_ rfl (bv (b8 q.bit)) (ex_convert (v := (.int .i64 ((q.bit : Nat) : Int))) rfl (conv_b8 q.bit _)) ?_
   simp only [pS, pN, pA, pC, pZ]
   refine stNew S53 (v := fun n => .slice (some ⟨n, 0, none⟩) 1 1) rfl (ex_lit (ps := #[(0, (bv (b8 q.bit)))]) (cells := #[(bv (b8 q.bit))]) (E := 5) (bmap1 rfl) (fun w => by kernel_rfl)) (fun n54 w55 S56 => ?_)
   simp only [pS, pN, pA, pC, pZ]
   have S56 : St W Fb w55 Fb [⟨n54, [(bv (b8 q.bit))], 5⟩, ⟨n43, [(.slice xa q.other.length xc), (.slice da D.length dc)], 158⟩] [] := S56
   refine do_ rfl (.pointer (some ⟨n43, 0, none⟩)) (ex_atA (i := 0) Tryd.underlying158 (sizeof_23 _) rfl rfl (by omega)) ?_
   simp only [pS, pN, pA, pC, pZ]
   refine do_ rfl (.slice xa q.other.length xc) (ex_load rfl (load1 (nagg_23 _) (St.cell S56 (i := 1) rfl rfl))) ?_
   simp only [pS, pN, pA, pC, pZ]
   refine do_ rfl (.pointer (some ⟨n43, 1, none⟩)) (ex_atA (i := 1) Tryd.underlying158 (sizeof_23 _) rfl rfl (by omega)) ?_
   simp only [pS, pN, pA, pC, pZ]
   refine do_ rfl (.slice da D.length dc) (ex_load rfl (load1 (nagg_23 _) (St.cell S56 (i := 1) rfl rfl))) ?_
   simp only [pS, pN, pA, pC, pZ]
   refine stNew S56 (v := fun n => .slice (some ⟨n, 0, none⟩) 3 3) rfl (ex_lit (ps := #[(0, (.slice (some ⟨n54, 0, none⟩) 1 1)), (1, (.slice xa q.other.length xc)), (2, (.slice da D.length dc))]) (cells := #[(.slice (some ⟨n54, 0, none⟩) 1 1), (.slice xa q.other.length xc), (.slice da D.length dc)]) (E := 23) (bmap3 rfl rfl rfl) (fun w => by kernel_rfl)) (fun n57 w58 S59 => ?_)
   simp only [pS, pN, pA, pC, pZ]
   have S59 : St W Fb w58 Fb [⟨n57, [(.slice (some ⟨n54, 0, none⟩) 1 1), (.slice xa q.other.length xc), (.slice da D.length dc)], 23⟩, ⟨n54, [(bv (b8 q.bit))], 5⟩, ⟨n43, [(.slice xa q.other.length xc), (.slice da D.length dc)], 158⟩] [] := S59
   obtain ⟨S60, le61, hc62⟩ := St.freezeBlk S59 (i := 1) rfl
   have r64 : Bs _ (.slice (some ⟨n54, 0, none⟩) 1 1) ([(b8 q.bit)] : By) := bs_of_block (l := ([(b8 q.bit)] : By)) hc62 rfl (by unfold maxLen; simp)
   generalize addF Fb w58 n54 = F63 at *
   have S60 : St W Fb w58 F63 [⟨n57, [(.slice (some ⟨n54, 0, none⟩) 1 1), (.slice xa q.other.length xc), (.slice da D.length dc)], 23⟩, ⟨n43, [(.slice xa q.other.length xc), (.slice da D.length dc)], 158⟩] [] := S60
   obtain ⟨S65, le66, hc67⟩ := St.freezeBlk S60 (i := 0) rfl
   have r69 : Lss _ (.slice (some ⟨n57, 0, none⟩) 3 3) ([([(b8 q.bit)] : By), q.other, D] : List By) := sl_of_block (R := LsC) (l := ([([(b8 q.bit)] : By), q.other, D] : List By)) (el := [[(.slice (some ⟨n54, 0, none⟩) 1 1)], [(.slice xa q.other.length xc)], [(.slice da D.length dc)]]) hc67 rfl ⟨⟨_, rfl, (r64.mono le66)⟩, ⟨_, rfl, (((hxb.mono (hle9.trans hl9)).mono le61).mono le66)⟩, ⟨_, rfl, (((hbs.mono hl9).mono le61).mono le66)⟩, trivial⟩ (by simp) (by unfold maxLen; simp)
   generalize addF F63 w58 n57 = F68 at *
   have S65 : St W Fb w58 F68 [⟨n43, [(.slice xa q.other.length xc), (.slice da D.length dc)], 158⟩] [] := S65
   refine stGives S65 rfl (ex_fn (vs := #[(.int .u8 2), (.slice (some ⟨n57, 0, none⟩) 3 3)]) (map2 rfl rfl) rfl (ent_43 _ _)) (Parts_spec _ _ _ 2 [([(b8 q.bit)] : By), q.other, D] (S65).sat (hT9.at S65.gr.below) r69 (by simp [partB_len]; omega)) ?_
   intro v75 w70 F72 S71 le73 R74
   obtain ⟨x76, rfl, r77⟩ := R74
   obtain ⟨xa78, xc79, rfl, _⟩ := r77.shape
   have r77 : Bs _ (.slice xa78 (partsL 2 [([(b8 q.bit)] : By), q.other, D]).length xc79) (partsL 2 [([(b8 q.bit)] : By), q.other, D]) := r77
   simp only [pS, pN, pA, pC, pZ]
   refine do_ rfl (.tuple #[(.slice xa78 (partsL 2 [([(b8 q.bit)] : By), q.other, D]).length xc79), (.int .i64 0)]) (ex_move _) ?_
   simp only [pS, pN, pA, pC, pZ]
   refine do_ rfl (.slice xa78 (partsL 2 [([(b8 q.bit)] : By), q.other, D]).length xc79) (ex_extract rfl rfl) ?_
   simp only [pS, pN, pA, pC, pZ]
   refine do_ rfl (.int .i64 0) (ex_extract rfl rfl) ?_
   simp only [pS, pN, pA, pC, pZ]
   have h5w := (S71.gr.below.block n26 (Array.getElem?_eq_some_iff.1 h5).1).trans h5
   refine doS rfl (ex_store rfl (store_one (size_23) h5w)) ?_
   simp only [pS, pN, pA, pC, pZ]
   refine wl_nil ?_
   (try simp only [Exit.then, Exit.inBlock, ↓reduceIte, Nat.reduceEqDiff])
   have hup : up1 q D = (partsL 2 [([(b8 q.bit)] : By), q.other, D]) := by unfold up1; rw [hqr]; rfl
   have hg := S71.gr
   rw [hFb] at hg
   rw [← hBw]
   exact up_round (D := (partsL 2 [([(b8 q.bit)] : By), q.other, D])) hb1 hb2 hb3 hBW hG9 hle9 hcl9 h5n h5 hX hBx hg (hup.symm.trans hsn) r77
  ·have hqr := Bool.eq_false_iff.2 hqr
   refine wpIn_cond_false (show Value.bool q.right = Value.bool false from by rw [hqr]) ?_
   refine wpIn_skip ?_
   refine hK48 _ _ ?_
   refine regionR_wl rfl (fun ⟨_, _, h⟩ => h) ?_
   refine do_ rfl (.pointer (some ⟨Bx, 0, none⟩)) (ex_field (q := ⟨Bx, 0, none⟩) rfl (fa_127_0 _ _)) ?_
   simp only [pS, pN, pA, pC, pZ]
   refine do_ rfl (.int .i64 ((q.bit : Nat) : Int)) (ex_load rfl (load1 (nagg_3 _) (St.fz S47 hx0))) ?_
   simp only [pS, pN, pA, pC, pZ]
   refine do_ rfl (bv (b8 q.bit)) (ex_convert (v := (.int .i64 ((q.bit : Nat) : Int))) rfl (conv_b8 q.bit _)) ?_
   simp only [pS, pN, pA, pC, pZ]
   refine stNew S47 (v := fun n => .slice (some ⟨n, 0, none⟩) 1 1) rfl (ex_lit (ps := #[(0, (bv (b8 q.bit)))]) (cells := #[(bv (b8 q.bit))]) (E := 5) (bmap1 rfl) (fun w => by kernel_rfl)) (fun n80 w81 S82 => ?_)
   simp only [pS, pN, pA, pC, pZ]
   have S82 : St W Fb w81 Fb [⟨n80, [(bv (b8 q.bit))], 5⟩, ⟨n43, [(.slice da D.length dc), (.slice xa q.other.length xc)], 158⟩] [] := S82
   refine do_ rfl (.pointer (some ⟨n43, 0, none⟩)) (ex_atA (i := 0) Tryd.underlying158 (sizeof_23 _) rfl rfl (by omega)) ?_
   simp only [pS, pN, pA, pC, pZ]
   refine do_ rfl (.slice da D.length dc) (ex_load rfl (load1 (nagg_23 _) (St.cell S82 (i := 1) rfl rfl))) ?_
   simp only [pS, pN, pA, pC, pZ]
   refine do_ rfl (.pointer (some ⟨n43, 1, none⟩)) (ex_atA (i := 1) Tryd.underlying158 (sizeof_23 _) rfl rfl (by omega)) ?_
   simp only [pS, pN, pA, pC, pZ]
   refine do_ rfl (.slice xa q.other.length xc) (ex_load rfl (load1 (nagg_23 _) (St.cell S82 (i := 1) rfl rfl))) ?_
   simp only [pS, pN, pA, pC, pZ]
   refine stNew S82 (v := fun n => .slice (some ⟨n, 0, none⟩) 3 3) rfl (ex_lit (ps := #[(0, (.slice (some ⟨n80, 0, none⟩) 1 1)), (1, (.slice da D.length dc)), (2, (.slice xa q.other.length xc))]) (cells := #[(.slice (some ⟨n80, 0, none⟩) 1 1), (.slice da D.length dc), (.slice xa q.other.length xc)]) (E := 23) (bmap3 rfl rfl rfl) (fun w => by kernel_rfl)) (fun n83 w84 S85 => ?_)
   simp only [pS, pN, pA, pC, pZ]
   have S85 : St W Fb w84 Fb [⟨n83, [(.slice (some ⟨n80, 0, none⟩) 1 1), (.slice da D.length dc), (.slice xa q.other.length xc)], 23⟩, ⟨n80, [(bv (b8 q.bit))], 5⟩, ⟨n43, [(.slice da D.length dc), (.slice xa q.other.length xc)], 158⟩] [] := S85
   obtain ⟨S86, le87, hc88⟩ := St.freezeBlk S85 (i := 1) rfl
   have r90 : Bs _ (.slice (some ⟨n80, 0, none⟩) 1 1) ([(b8 q.bit)] : By) := bs_of_block (l := ([(b8 q.bit)] : By)) hc88 rfl (by unfold maxLen; simp)
   generalize addF Fb w84 n80 = F89 at *
   have S86 : St W Fb w84 F89 [⟨n83, [(.slice (some ⟨n80, 0, none⟩) 1 1), (.slice da D.length dc), (.slice xa q.other.length xc)], 23⟩, ⟨n43, [(.slice da D.length dc), (.slice xa q.other.length xc)], 158⟩] [] := S86
   obtain ⟨S91, le92, hc93⟩ := St.freezeBlk S86 (i := 0) rfl
   have r95 : Lss _ (.slice (some ⟨n83, 0, none⟩) 3 3) ([([(b8 q.bit)] : By), D, q.other] : List By) := sl_of_block (R := LsC) (l := ([([(b8 q.bit)] : By), D, q.other] : List By)) (el := [[(.slice (some ⟨n80, 0, none⟩) 1 1)], [(.slice da D.length dc)], [(.slice xa q.other.length xc)]]) hc93 rfl ⟨⟨_, rfl, (r90.mono le92)⟩, ⟨_, rfl, (((hbs.mono hl9).mono le87).mono le92)⟩, ⟨_, rfl, (((hxb.mono (hle9.trans hl9)).mono le87).mono le92)⟩, trivial⟩ (by simp) (by unfold maxLen; simp)
   generalize addF F89 w84 n83 = F94 at *
   have S91 : St W Fb w84 F94 [⟨n43, [(.slice da D.length dc), (.slice xa q.other.length xc)], 158⟩] [] := S91
   refine stGives S91 rfl (ex_fn (vs := #[(.int .u8 2), (.slice (some ⟨n83, 0, none⟩) 3 3)]) (map2 rfl rfl) rfl (ent_43 _ _)) (Parts_spec _ _ _ 2 [([(b8 q.bit)] : By), D, q.other] (S91).sat (hT9.at S91.gr.below) r95 (by simp [partB_len]; omega)) ?_
   intro v101 w96 F98 S97 le99 R100
   obtain ⟨x102, rfl, r103⟩ := R100
   obtain ⟨xa104, xc105, rfl, _⟩ := r103.shape
   have r103 : Bs _ (.slice xa104 (partsL 2 [([(b8 q.bit)] : By), D, q.other]).length xc105) (partsL 2 [([(b8 q.bit)] : By), D, q.other]) := r103
   simp only [pS, pN, pA, pC, pZ]
   refine do_ rfl (.tuple #[(.slice xa104 (partsL 2 [([(b8 q.bit)] : By), D, q.other]).length xc105), (.int .i64 0)]) (ex_move _) ?_
   simp only [pS, pN, pA, pC, pZ]
   refine do_ rfl (.slice xa104 (partsL 2 [([(b8 q.bit)] : By), D, q.other]).length xc105) (ex_extract rfl rfl) ?_
   simp only [pS, pN, pA, pC, pZ]
   refine do_ rfl (.int .i64 0) (ex_extract rfl rfl) ?_
   simp only [pS, pN, pA, pC, pZ]
   have h5w := (S97.gr.below.block n26 (Array.getElem?_eq_some_iff.1 h5).1).trans h5
   refine doS rfl (ex_store rfl (store_one (size_23) h5w)) ?_
   simp only [pS, pN, pA, pC, pZ]
   refine wl_nil ?_
   (try simp only [Exit.then, Exit.inBlock, ↓reduceIte, Nat.reduceEqDiff])
   have hup : up1 q D = (partsL 2 [([(b8 q.bit)] : By), D, q.other]) := by unfold up1; rw [hqr]; rfl
   have hg := S97.gr
   rw [hFb] at hg
   rw [← hBw]
   exact up_round (D := (partsL 2 [([(b8 q.bit)] : By), D, q.other])) hb1 hb2 hb3 hBW hG9 hle9 hcl9 h5n h5 hX hBx hg (hup.symm.trans hsn) r103
 case done =>
  intro D xs W hD hS hI hK
  rw [← hBw] at hD
  obtain ⟨da, dc, F9, h5c, hG9, hbs⟩ := hI.end hD hK
  (try simp only [Exit.then, Exit.inBlock, ↓reduceIte, Nat.reduceEqDiff])
  refine hK31 _ _ ?_
  refine wp_seq_k (fun K106 hK106 => region_wl ?_)
  refine do_ rfl _ (ex_load rfl (load1 (nagg_23 _) h5c)) ?_
  simp only [pS, pN, pA, pC, pZ]
  refine do_ rfl _ (ex_assign _) ?_
  simp only [pS, pN, pA, pC, pZ]
  refine wl_nil (hK106 _ _ ?_)
  refine wp_ret ?_
  (try simp only [Exit.then, Exit.inBlock, ↓reduceIte, Nat.reduceEqDiff])
  refine ⟨by simp, .inl ⟨_, _, rfl, run_takeDeferred hK, ?_⟩⟩
  refine ⟨_, results_tmp rfl _ _ _, ?_⟩
  refine ⟨_, F9, rfl, hG9, ?_⟩
  exact bs_app hbs (up_all hS)
 case stop =>
  intro D c pre W _ _ h _
  exact h.elim
end Go.Proofs.YtikklmjengkliaaDoor
namespace Go.Proofs.YtikklmjengkliaaDoor
open Go.RowKit
set_option maxRecDepth 100000
set_option linter.unusedVariables false
set_option linter.unusedSimpArgs false
set_option maxHeartbeats 8000000 in
theorem bytesEqual_spec (F : Fz) (w : World) (v u : Value) (l m : By) (hs : Sat w F) (hv : Bs F v l) (hu : Bs F u m) :
    Calls Tryd.prog 80 #[v, u] w (Tells w (.bool (l == m))) := by
 obtain ⟨a, c, rfl, _⟩ := hv.shape
 obtain ⟨a2, c2, rfl, _⟩ := hu.shape
 have S := St.start hs
 go_enter Tryd.func80, Tryd.ntmps80
 refine wp_seq_k (fun K1 hK1 => region_wl ?_)
 refine do_ rfl (.bool false) (ex_assign _) ?_
 simp only [pS, pN, pA, pC, pZ]
 refine wl_nil (hK1 _ _ ?_)
 refine wp_seq_k (fun K2 hK2 => region_wl ?_)
 refine do_ rfl (.slice a l.length c) (ex_move _) ?_
 simp only [pS, pN, pA, pC, pZ]
 refine do_ rfl (.string ⟨l.toArray⟩) (ex_convert (v := (.slice a l.length c)) rfl (run_string Tryd.underlying23 Tryd.underlying5 Tryd.underlying9 (S).sat hv)) ?_
 simp only [pS, pN, pA, pC, pZ]
 refine do_ rfl (.slice a2 m.length c2) (ex_move _) ?_
 simp only [pS, pN, pA, pC, pZ]
 refine do_ rfl (.string ⟨m.toArray⟩) (ex_convert (v := (.slice a2 m.length c2)) rfl (run_string Tryd.underlying23 Tryd.underlying5 Tryd.underlying9 (S).sat hu)) ?_
 simp only [pS, pN, pA, pC, pZ]
 refine do_ rfl (.bool (l == m)) (ex_strop (op := .eql) (l := l) (m := m) (b := (l == m)) (by simp) rfl rfl (rfl)) ?_
 simp only [pS, pN, pA, pC, pZ]
 refine do_ rfl (.bool (l == m)) (ex_assign _) ?_
 simp only [pS, pN, pA, pC, pZ]
 refine wl_nil (hK2 _ _ ?_)
 refine wp_ret ?_
 (try simp only [Exit.then, Exit.inBlock, ↓reduceIte, Nat.reduceEqDiff])
 refine bodyPost_ret (v := (.bool (l == m))) ?_ rfl ?_
 ·exact res_t rfl rfl
 ·exact ⟨rfl, S.gr.below⟩
/-- A proof as Prove makes them, or the same with steps left out. -/
def PrfOk (p : Prf) : Prop := (p.empty = true ∧ p.steps = [] ∧ p.pair = ([], [])) ∨ (p.empty = false ∧ TreeOk 60 [p.pair] ∧ StpsOk p.steps ∧ p.steps.length ≤ 1000)
theorem checkP_spec (F : Fz) (w : World) (v u : Value) (k : By) (p : Prf) (hs : Sat w F) (hu : Bs F u k) (hv : PrfV F v p) (hk : 1 ≤ k.length ∧ k.length ≤ 16) (ok : PrfOk p) {b : Bool} (hc : checkP k p = b) :
    Calls Tryd.prog 79 #[u, v] w (Tells w (.int .i64 (if b then 0 else 4))) := by
  rcases ok with ⟨h1, h2, h3⟩ | ⟨h1, h2, h3, h4⟩
  · have := checkEmpty_spec F w v u k p hs hu hv hk h1 h2 h3
    obtain rfl : b = true := by rw [← hc]; unfold checkP; rw [if_pos h1, h2, h3]; rfl
    exact this
  · have := checkPair_spec F w v u k p hs hu hv hk h1 h2 h3 h4
    have e : checkP k p = wayB k p.pair.1 (-1) p.steps := by
      unfold checkP
      rw [if_neg (by rw [h1]; simp)]
      have hp := h2.ok p.pair (by simp)
      simp [hp.1, hp.2.1, hp.2.2]
    rw [← e, hc] at this
    exact this
theorem up_spec (F : Fz) (w : World) (v : Value) (p : Prf) (hs : Sat w F) (hT : Tabs w) (hv : PrfV F v p) (ok : PrfOk p) {r : By} (hu : upT p = r) :
    Calls Tryd.prog 81 #[v] w (Gives w F fun F' u => Bs F' u r) := by
  subst hu
  unfold upT
  rcases ok with ⟨h1, h2, h3⟩ | ⟨h1, h2, h3, h4⟩
  · rw [if_pos h1]; exact upEmpty_spec F w v p hs hT hv h1
  · rw [if_neg (by rw [h1]; simp)]; exact upPair_spec F w v p hs hT hv h1 h2 h3 h4
set_option maxHeartbeats 8000000 in
theorem verifyEmpty_spec (F : Fz) (w : World) (v u z : Value) (r k : By) (p : Prf) (hs : Sat w F) (hT : Tabs w) (hr : Bs F z r) (hu : Bs F u k) (hv : PrfV F v p) (hr32 : r.length = 32) (hk : 1 ≤ k.length ∧ k.length ≤ 16) (ok : PrfOk p) (hc : checkP k p = true) (hup : upT p = r) (he : p.empty = true) :
    Calls Tryd.prog 52 #[z, u, v] w (Gives w F (GetR (tellP k p) 0)) := by
 obtain ⟨ra, rc, rfl, _⟩ := hr.shape
 obtain ⟨ka, kc, rfl, hk1, hk2⟩ := hu.shape
 have hv0 := hv
 obtain ⟨sa, sc, pa, pc, qa, qc, rfl, h1, h2, h3⟩ := hv
 unfold maxLen at hk2
 have hv1 := hv0
 rw [he] at hv1
 rw [he]
 have S := St.start hs
 go_enter Tryd.func52, Tryd.ntmps52
 refine wp_seq_k (fun K1 hK1 => region_wl ?_)
 refine stNew S (v := fun n => .pointer (some ⟨n, 0, none⟩)) rfl (ex_box (v := (.agg #[(.bool true), (.slice sa p.steps.length sc), (.slice pa p.pair.1.length pc), (.slice qa p.pair.2.length qc)])) rfl) (fun n2 w3 S4 => ?_)
 simp only [pS, pN, pA, pC, pZ]
 have S4 : St w F w3 F [⟨n2, [(.bool true), (.slice sa p.steps.length sc), (.slice pa p.pair.1.length pc), (.slice qa p.pair.2.length qc)], 49⟩] [] := S4
 refine stNew S4 (v := fun n => .pointer (some ⟨n, 0, none⟩)) rfl (ex_alloc (zero_53 _)) (fun n5 w6 S7 => ?_)
 simp only [pS, pN, pA, pC, pZ]
 have S7 : St w F w6 F [⟨n5, [(.bool false), (.slice none 0 0)], 53⟩, ⟨n2, [(.bool true), (.slice sa p.steps.length sc), (.slice pa p.pair.1.length pc), (.slice qa p.pair.2.length qc)], 49⟩] [] := S7
 refine do_ rfl (.int .i64 0) (ex_assign _) ?_
 simp only [pS, pN, pA, pC, pZ]
 refine wl_nil (hK1 _ _ ?_)
 refine wp_seq_k (fun K8 hK8 => ?_)
 refine wp_seq_k (fun K9 hK9 => region_wl ?_)
 refine do_ rfl (.slice ra r.length rc) (ex_move _) ?_
 simp only [pS, pN, pA, pC, pZ]
 refine do_ rfl (.int .i64 ((r.length : Nat) : Int)) (ex_len Tryd.underlying23 rfl) ?_
 simp only [pS, pN, pA, pC, pZ]
 refine do_ rfl (.bool false) (ex_neq (m := ((r.length : Nat) : Int)) (n := (32 : Int)) (b := false) rfl rfl (bne_eq_false_iff_eq.2 (by omega))) ?_
 simp only [pS, pN, pA, pC, pZ]
 refine wl_nil (hK9 _ _ ?_)
 refine wp_cond_false rfl ?_
 refine wp_skip ?_
 refine hK8 _ _ ?_
 refine wp_seq_k (fun K10 hK10 => ?_)
 refine wp_seq_k (fun K11 hK11 => region_wl ?_)
 refine do_ rfl (.slice ka k.length kc) (ex_move _) ?_
 simp only [pS, pN, pA, pC, pZ]
 refine do_ rfl (.agg #[(.bool true), (.slice sa p.steps.length sc), (.slice pa p.pair.1.length pc), (.slice qa p.pair.2.length qc)]) (ex_load rfl (loadN (cs := [(.bool true), (.slice sa p.steps.length sc), (.slice pa p.pair.1.length pc), (.slice qa p.pair.2.length qc)]) Tryd.underlying49 rfl (size_49) (St.range S7 (i := 1) rfl 0 [(.bool true), (.slice sa p.steps.length sc), (.slice pa p.pair.1.length pc), (.slice qa p.pair.2.length qc)] (sub_range 0 rfl)))) ?_
 simp only [pS, pN, pA, pC, pZ]
 refine stTells (v := (.int .i64 0)) S7 rfl (ex_fn (vs := #[(.slice ka k.length kc), (.agg #[(.bool true), (.slice sa p.steps.length sc), (.slice pa p.pair.1.length pc), (.slice qa p.pair.2.length qc)])]) (map2 rfl rfl) rfl (ent_79 _ _)) (checkP_spec _ _ _ _ k p (S7).sat hu (hv1) hk ok hc) (fun w12 S13 => ?_)
 simp only [pS, pN, pA, pC, pZ]
 refine do_ rfl (.int .i64 0) (ex_assign _) ?_
 simp only [pS, pN, pA, pC, pZ]
 refine wl_nil (hK11 _ _ ?_)
 refine wp_seq_k (fun K14 hK14 => region_wl ?_)
 refine do_ rfl (.int .i64 0) (ex_move _) ?_
 simp only [pS, pN, pA, pC, pZ]
 refine do_ rfl (.bool false) (ex_neq (b := false) rfl rfl (by decide)) ?_
 simp only [pS, pN, pA, pC, pZ]
 refine wl_nil (hK14 _ _ ?_)
 refine wp_cond_false rfl ?_
 refine wp_skip ?_
 refine hK10 _ _ ?_
 refine wp_seq_k (fun K15 hK15 => ?_)
 refine wp_seq_k (fun K16 hK16 => region_wl ?_)
 refine do_ rfl (.agg #[(.bool true), (.slice sa p.steps.length sc), (.slice pa p.pair.1.length pc), (.slice qa p.pair.2.length qc)]) (ex_load rfl (loadN (cs := [(.bool true), (.slice sa p.steps.length sc), (.slice pa p.pair.1.length pc), (.slice qa p.pair.2.length qc)]) Tryd.underlying49 rfl (size_49) (St.range S13 (i := 1) rfl 0 [(.bool true), (.slice sa p.steps.length sc), (.slice pa p.pair.1.length pc), (.slice qa p.pair.2.length qc)] (sub_range 0 rfl)))) ?_
 simp only [pS, pN, pA, pC, pZ]
 refine stGives S13 rfl (ex_fn (vs := #[(.agg #[(.bool true), (.slice sa p.steps.length sc), (.slice pa p.pair.1.length pc), (.slice qa p.pair.2.length qc)])]) (map1 rfl) rfl (ent_81 _ _)) (up_spec _ _ _ p (S13).sat (hT.at S13.gr.below) (hv1) ok hup) ?_
 intro v22 w17 F19 S18 le20 R21
 obtain ⟨xa23, xc24, rfl, _⟩ := R21.shape
 simp only [pS, pN, pA, pC, pZ]
 refine do_ rfl (.slice ra r.length rc) (ex_move _) ?_
 simp only [pS, pN, pA, pC, pZ]
 refine stTells (v := (.bool true)) S18 rfl (ex_fn (vs := #[(.slice xa23 r.length xc24), (.slice ra r.length rc)]) (map2 rfl rfl) rfl (ent_80 _ _)) (tells_bool (bytesEqual_spec _ _ _ _ r r (S18).sat R21 (hr.mono le20)) (beq_iff_eq.2 rfl)) (fun w25 S26 => ?_)
 simp only [pS, pN, pA, pC, pZ]
 refine do_ rfl (.bool false) (ex_not (b := true) rfl rfl) ?_
 simp only [pS, pN, pA, pC, pZ]
 refine wl_nil (hK16 _ _ ?_)
 refine wp_cond_false rfl ?_
 refine wp_skip ?_
 refine hK15 _ _ ?_
 refine wp_seq_k (fun K27 hK27 => ?_)
 refine wp_seq_k (fun K28 hK28 => region_wl ?_)
 refine do_ rfl (.pointer (some ⟨n2, 0, none⟩)) (ex_field (q := ⟨n2, 0, none⟩) rfl (fa_49_0 _ _)) ?_
 simp only [pS, pN, pA, pC, pZ]
 refine do_ rfl (.bool true) (ex_load rfl (load1 (nagg_4 _) (St.cell S26 (i := 1) rfl rfl))) ?_
 simp only [pS, pN, pA, pC, pZ]
 refine do_ rfl (.bool true) (ex_move _) ?_
 simp only [pS, pN, pA, pC, pZ]
 refine doN (wanted_no rfl rfl rfl (c := true) rfl (by decide)) ?_
 simp only [pS, pN, pA, pC, pZ]
 refine doN (wanted_no rfl rfl rfl (c := true) rfl (by decide)) ?_
 simp only [pS, pN, pA, pC, pZ]
 refine doN (wanted_no rfl rfl rfl (c := true) rfl (by decide)) ?_
 simp only [pS, pN, pA, pC, pZ]
 refine doN (wanted_no rfl rfl rfl (c := true) rfl (by decide)) ?_
 simp only [pS, pN, pA, pC, pZ]
 refine doN (wanted_no rfl rfl rfl (c := true) rfl (by decide)) ?_
 simp only [pS, pN, pA, pC, pZ]
 refine doN (wanted_no rfl rfl rfl (c := true) rfl (by decide)) ?_
 simp only [pS, pN, pA, pC, pZ]
 refine do_ rfl (.bool true) (ex_pick (b := true) rfl) ?_
 simp only [pS, pN, pA, pC, pZ]
 refine wl_nil (hK28 _ _ ?_)
 refine wp_cond_true rfl ?_
 refine wp_seq_k (fun K29 hK29 => region_wl ?_)
 refine do_ rfl (.agg #[(.bool false), (.slice none 0 0)]) (ex_build (ps := #[]) (bmap0) (by kernel_rfl)) ?_
 simp only [pS, pN, pA, pC, pZ]
 refine stStore (i := 0) (v := (.agg #[(.bool false), (.slice none 0 0)])) S26 rfl rfl rfl rfl (size_53) (allc2 rfl rfl) (Nat.le_of_ble_eq_true rfl) (fun w30 S31 => ?_)
 simp only [pS, pN, pA, pC, pZ]
 have S31 : St w F w30 F19 [⟨n5, [(.bool false), (.slice none 0 0)], 53⟩, ⟨n2, [(.bool true), (.slice sa p.steps.length sc), (.slice pa p.pair.1.length pc), (.slice qa p.pair.2.length qc)], 49⟩] [] := S31
 refine do_ rfl (.int .i64 0) (ex_assign _) ?_
 simp only [pS, pN, pA, pC, pZ]
 refine wl_nil (hK29 _ _ ?_)
 refine wp_ret ?_
 (try simp only [Exit.then, Exit.inBlock, ↓reduceIte, Nat.reduceEqDiff])
 refine bodyPost_ret (v := (.tuple #[(.agg #[(.bool false), (.slice none 0 0)]), (.int .i64 0)])) ?_ rfl ?_
 ·exact res_ct rfl ⟨_, rfl, loadN (cs := [(.bool false), (.slice none 0 0)]) Tryd.underlying53 rfl (size_53) (St.range S31 (i := 0) rfl 0 [(.bool false), (.slice none 0 0)] (sub_range 0 rfl))⟩ rfl
 ·rw [show tellP k p = none from if_pos (.inl he)]
  exact ⟨_, _, rfl, S31.gr, _, rfl, none, 0, rfl, Bs.nil _⟩
set_option maxHeartbeats 8000000 in
theorem verifyPair_spec (F : Fz) (w : World) (v u z : Value) (r k : By) (p : Prf) (hs : Sat w F) (hT : Tabs w) (hr : Bs F z r) (hu : Bs F u k) (hv : PrfV F v p) (hr32 : r.length = 32) (hk : 1 ≤ k.length ∧ k.length ≤ 16) (ok : PrfOk p) (hc : checkP k p = true) (hup : upT p = r) (he : p.empty = false) (hx : p.pair.2.length ≤ 1000) :
    Calls Tryd.prog 52 #[z, u, v] w (Gives w F (GetR (tellP k p) 0)) := by
 obtain ⟨ra, rc, rfl, _⟩ := hr.shape
 obtain ⟨ka, kc, rfl, hk1, hk2⟩ := hu.shape
 have hv0 := hv
 obtain ⟨sa, sc, pa, pc, qa, qc, rfl, h1, h2, h3⟩ := hv
 unfold maxLen at hk2
 have hv1 := hv0
 rw [he] at hv1
 rw [he]
 have S := St.start hs
 go_enter Tryd.func52, Tryd.ntmps52
 refine wp_seq_k (fun K1 hK1 => region_wl ?_)
 refine stNew S (v := fun n => .pointer (some ⟨n, 0, none⟩)) rfl (ex_box (v := (.agg #[(.bool false), (.slice sa p.steps.length sc), (.slice pa p.pair.1.length pc), (.slice qa p.pair.2.length qc)])) rfl) (fun n2 w3 S4 => ?_)
 simp only [pS, pN, pA, pC, pZ]
 have S4 : St w F w3 F [⟨n2, [(.bool false), (.slice sa p.steps.length sc), (.slice pa p.pair.1.length pc), (.slice qa p.pair.2.length qc)], 49⟩] [] := S4
 refine stNew S4 (v := fun n => .pointer (some ⟨n, 0, none⟩)) rfl (ex_alloc (zero_53 _)) (fun n5 w6 S7 => ?_)
 simp only [pS, pN, pA, pC, pZ]
 have S7 : St w F w6 F [⟨n5, [(.bool false), (.slice none 0 0)], 53⟩, ⟨n2, [(.bool false), (.slice sa p.steps.length sc), (.slice pa p.pair.1.length pc), (.slice qa p.pair.2.length qc)], 49⟩] [] := S7
 refine do_ rfl (.int .i64 0) (ex_assign _) ?_
 simp only [pS, pN, pA, pC, pZ]
 refine wl_nil (hK1 _ _ ?_)
 refine wp_seq_k (fun K8 hK8 => ?_)
 refine wp_seq_k (fun K9 hK9 => region_wl ?_)
 refine do_ rfl (.slice ra r.length rc) (ex_move _) ?_
 simp only [pS, pN, pA, pC, pZ]
 refine do_ rfl (.int .i64 ((r.length : Nat) : Int)) (ex_len Tryd.underlying23 rfl) ?_
 simp only [pS, pN, pA, pC, pZ]
 refine do_ rfl (.bool false) (ex_neq (m := ((r.length : Nat) : Int)) (n := (32 : Int)) (b := false) rfl rfl (bne_eq_false_iff_eq.2 (by omega))) ?_
 simp only [pS, pN, pA, pC, pZ]
 refine wl_nil (hK9 _ _ ?_)
 refine wp_cond_false rfl ?_
 refine wp_skip ?_
 refine hK8 _ _ ?_
 refine wp_seq_k (fun K10 hK10 => ?_)
 refine wp_seq_k (fun K11 hK11 => region_wl ?_)
 refine do_ rfl (.slice ka k.length kc) (ex_move _) ?_
 simp only [pS, pN, pA, pC, pZ]
 refine do_ rfl (.agg #[(.bool false), (.slice sa p.steps.length sc), (.slice pa p.pair.1.length pc), (.slice qa p.pair.2.length qc)]) (ex_load rfl (loadN (cs := [(.bool false), (.slice sa p.steps.length sc), (.slice pa p.pair.1.length pc), (.slice qa p.pair.2.length qc)]) Tryd.underlying49 rfl (size_49) (St.range S7 (i := 1) rfl 0 [(.bool false), (.slice sa p.steps.length sc), (.slice pa p.pair.1.length pc), (.slice qa p.pair.2.length qc)] (sub_range 0 rfl)))) ?_
 simp only [pS, pN, pA, pC, pZ]
 refine stTells (v := (.int .i64 0)) S7 rfl (ex_fn (vs := #[(.slice ka k.length kc), (.agg #[(.bool false), (.slice sa p.steps.length sc), (.slice pa p.pair.1.length pc), (.slice qa p.pair.2.length qc)])]) (map2 rfl rfl) rfl (ent_79 _ _)) (checkP_spec _ _ _ _ k p (S7).sat hu (hv1) hk ok hc) (fun w12 S13 => ?_)
 simp only [pS, pN, pA, pC, pZ]
 refine do_ rfl (.int .i64 0) (ex_assign _) ?_
 simp only [pS, pN, pA, pC, pZ]
 refine wl_nil (hK11 _ _ ?_)
 refine wp_seq_k (fun K14 hK14 => region_wl ?_)
 refine do_ rfl (.int .i64 0) (ex_move _) ?_
 simp only [pS, pN, pA, pC, pZ]
 refine do_ rfl (.bool false) (ex_neq (b := false) rfl rfl (by decide)) ?_
 simp only [pS, pN, pA, pC, pZ]
 refine wl_nil (hK14 _ _ ?_)
 refine wp_cond_false rfl ?_
 refine wp_skip ?_
 refine hK10 _ _ ?_
 refine wp_seq_k (fun K15 hK15 => ?_)
 refine wp_seq_k (fun K16 hK16 => region_wl ?_)
 refine do_ rfl (.agg #[(.bool false), (.slice sa p.steps.length sc), (.slice pa p.pair.1.length pc), (.slice qa p.pair.2.length qc)]) (ex_load rfl (loadN (cs := [(.bool false), (.slice sa p.steps.length sc), (.slice pa p.pair.1.length pc), (.slice qa p.pair.2.length qc)]) Tryd.underlying49 rfl (size_49) (St.range S13 (i := 1) rfl 0 [(.bool false), (.slice sa p.steps.length sc), (.slice pa p.pair.1.length pc), (.slice qa p.pair.2.length qc)] (sub_range 0 rfl)))) ?_
 simp only [pS, pN, pA, pC, pZ]
 refine stGives S13 rfl (ex_fn (vs := #[(.agg #[(.bool false), (.slice sa p.steps.length sc), (.slice pa p.pair.1.length pc), (.slice qa p.pair.2.length qc)])]) (map1 rfl) rfl (ent_81 _ _)) (up_spec _ _ _ p (S13).sat (hT.at S13.gr.below) (hv1) ok hup) ?_
 intro v22 w17 F19 S18 le20 R21
 obtain ⟨xa23, xc24, rfl, _⟩ := R21.shape
 simp only [pS, pN, pA, pC, pZ]
 refine do_ rfl (.slice ra r.length rc) (ex_move _) ?_
 simp only [pS, pN, pA, pC, pZ]
 refine stTells (v := (.bool true)) S18 rfl (ex_fn (vs := #[(.slice xa23 r.length xc24), (.slice ra r.length rc)]) (map2 rfl rfl) rfl (ent_80 _ _)) (tells_bool (bytesEqual_spec _ _ _ _ r r (S18).sat R21 (hr.mono le20)) (beq_iff_eq.2 rfl)) (fun w25 S26 => ?_)
 simp only [pS, pN, pA, pC, pZ]
 refine do_ rfl (.bool false) (ex_not (b := true) rfl rfl) ?_
 simp only [pS, pN, pA, pC, pZ]
 refine wl_nil (hK16 _ _ ?_)
 refine wp_cond_false rfl ?_
 refine wp_skip ?_
 refine hK15 _ _ ?_
 refine wp_seq_k (fun K27 hK27 => ?_)
 refine wp_seq_k (fun K28 hK28 => ?_)
 by_cases hpk : p.pair.1 = k
 ·refine region_wl ?_
  refine do_ rfl (.pointer (some ⟨n2, 0, none⟩)) (ex_field (q := ⟨n2, 0, none⟩) rfl (fa_49_0 _ _)) ?_
  simp only [pS, pN, pA, pC, pZ]
  refine do_ rfl (.bool false) (ex_load rfl (load1 (nagg_4 _) (St.cell S26 (i := 1) rfl rfl))) ?_
  simp only [pS, pN, pA, pC, pZ]
  refine do_ rfl (.bool false) (ex_move _) ?_
  simp only [pS, pN, pA, pC, pZ]
  refine do_ rfl (.pointer (some ⟨n2, 2, none⟩)) (ex_field (q := ⟨n2, 2, none⟩) rfl (fa_49_2 _ _)) ?_
  simp only [pS, pN, pA, pC, pZ]
  refine do_ rfl (.pointer (some ⟨n2, 2, none⟩)) (ex_field (q := ⟨n2, 2, none⟩) rfl (fa_34_0 _ _)) ?_
  simp only [pS, pN, pA, pC, pZ]
  refine do_ rfl (.slice pa p.pair.1.length pc) (ex_load rfl (load1 (nagg_23 _) (St.cell S26 (i := 1) rfl rfl))) ?_
  simp only [pS, pN, pA, pC, pZ]
  refine do_ rfl (.slice ka k.length kc) (ex_move _) ?_
  simp only [pS, pN, pA, pC, pZ]
  refine stTells (v := (.bool true)) S26 rfl (ex_fn (vs := #[(.slice pa p.pair.1.length pc), (.slice ka k.length kc)]) (map2 rfl rfl) rfl (ent_80 _ _)) (tells_bool (bytesEqual_spec _ _ _ _ p.pair.1 k (S26).sat (h2.mono le20) (hu.mono le20)) (beq_iff_eq.2 hpk)) (fun w29 S30 => ?_)
  simp only [pS, pN, pA, pC, pZ]
  refine do_ rfl (.bool false) (ex_not (b := true) rfl rfl) ?_
  simp only [pS, pN, pA, pC, pZ]
  refine do_ rfl (.bool false) (ex_pick (b := false) rfl) ?_
  simp only [pS, pN, pA, pC, pZ]
  refine wl_nil (hK28 _ _ ?_)
  refine wp_cond_false rfl ?_
  refine wp_skip ?_
  refine hK27 _ _ ?_
  refine wp_seq_k (fun K31 hK31 => region_wl ?_)
  refine do_ rfl (.pointer (some ⟨n2, 2, none⟩)) (ex_field (q := ⟨n2, 2, none⟩) rfl (fa_49_2 _ _)) ?_
  simp only [pS, pN, pA, pC, pZ]
  refine do_ rfl (.pointer (some ⟨n2, 3, none⟩)) (ex_field (q := ⟨n2, 3, none⟩) rfl (fa_34_1 _ _)) ?_
  simp only [pS, pN, pA, pC, pZ]
  refine do_ rfl (.slice qa p.pair.2.length qc) (ex_load rfl (load1 (nagg_23 _) (St.cell S30 (i := 1) rfl rfl))) ?_
  simp only [pS, pN, pA, pC, pZ]
  refine stGives S30 rfl (ex_fn (vs := #[(.slice qa p.pair.2.length qc)]) (map1 rfl) rfl (ent_64 _ _)) (clone_spec _ _ _ p.pair.2 (S30).sat (h3.mono le20) (by omega)) ?_
  intro v37 w32 F34 S33 le35 R36
  obtain ⟨xa38, xc39, rfl, _⟩ := R36.shape
  simp only [pS, pN, pA, pC, pZ]
  refine do_ rfl (.agg #[(.bool true), (.slice xa38 p.pair.2.length xc39)]) (ex_build (ps := #[(0, (.bool true)), (1, (.slice xa38 p.pair.2.length xc39))]) (bmap2 rfl rfl) (by kernel_rfl)) ?_
  simp only [pS, pN, pA, pC, pZ]
  refine stStore (i := 0) (v := (.agg #[(.bool true), (.slice xa38 p.pair.2.length xc39)])) S33 rfl rfl rfl rfl (size_53) (allc2 rfl rfl) (Nat.le_of_ble_eq_true rfl) (fun w40 S41 => ?_)
  simp only [pS, pN, pA, pC, pZ]
  have S41 : St w F w40 F34 [⟨n5, [(.bool true), (.slice xa38 p.pair.2.length xc39)], 53⟩, ⟨n2, [(.bool false), (.slice sa p.steps.length sc), (.slice pa p.pair.1.length pc), (.slice qa p.pair.2.length qc)], 49⟩] [] := S41
  refine do_ rfl (.int .i64 0) (ex_assign _) ?_
  simp only [pS, pN, pA, pC, pZ]
  refine wl_nil (hK31 _ _ ?_)
  refine wp_ret ?_
  (try simp only [Exit.then, Exit.inBlock, ↓reduceIte, Nat.reduceEqDiff])
  refine bodyPost_ret (v := (.tuple #[(.agg #[(.bool true), (.slice xa38 p.pair.2.length xc39)]), (.int .i64 0)])) ?_ rfl ?_
  ·exact res_ct rfl ⟨_, rfl, loadN (cs := [(.bool true), (.slice xa38 p.pair.2.length xc39)]) Tryd.underlying53 rfl (size_53) (St.range S41 (i := 0) rfl 0 [(.bool true), (.slice xa38 p.pair.2.length xc39)] (sub_range 0 rfl))⟩ rfl
  ·rw [show tellP k p = some p.pair.2 from if_neg (by rw [he, hpk]; simp)]
   exact ⟨_, _, rfl, S41.gr, _, rfl, _, _, rfl, R36⟩
 ·refine region_wl ?_
  refine do_ rfl (.pointer (some ⟨n2, 0, none⟩)) (ex_field (q := ⟨n2, 0, none⟩) rfl (fa_49_0 _ _)) ?_
  simp only [pS, pN, pA, pC, pZ]
  refine do_ rfl (.bool false) (ex_load rfl (load1 (nagg_4 _) (St.cell S26 (i := 1) rfl rfl))) ?_
  simp only [pS, pN, pA, pC, pZ]
  refine do_ rfl (.bool false) (ex_move _) ?_
  simp only [pS, pN, pA, pC, pZ]
  refine do_ rfl (.pointer (some ⟨n2, 2, none⟩)) (ex_field (q := ⟨n2, 2, none⟩) rfl (fa_49_2 _ _)) ?_
  simp only [pS, pN, pA, pC, pZ]
  refine do_ rfl (.pointer (some ⟨n2, 2, none⟩)) (ex_field (q := ⟨n2, 2, none⟩) rfl (fa_34_0 _ _)) ?_
  simp only [pS, pN, pA, pC, pZ]
  refine do_ rfl (.slice pa p.pair.1.length pc) (ex_load rfl (load1 (nagg_23 _) (St.cell S26 (i := 1) rfl rfl))) ?_
  simp only [pS, pN, pA, pC, pZ]
  refine do_ rfl (.slice ka k.length kc) (ex_move _) ?_
  simp only [pS, pN, pA, pC, pZ]
  refine stTells (v := (.bool false)) S26 rfl (ex_fn (vs := #[(.slice pa p.pair.1.length pc), (.slice ka k.length kc)]) (map2 rfl rfl) rfl (ent_80 _ _)) (tells_bool (bytesEqual_spec _ _ _ _ p.pair.1 k (S26).sat (h2.mono le20) (hu.mono le20)) (beq_eq_false_iff_ne.2 hpk)) (fun w42 S43 => ?_)
  simp only [pS, pN, pA, pC, pZ]
  refine do_ rfl (.bool true) (ex_not (b := false) rfl rfl) ?_
  simp only [pS, pN, pA, pC, pZ]
  refine do_ rfl (.bool true) (ex_pick (b := false) rfl) ?_
  simp only [pS, pN, pA, pC, pZ]
  refine wl_nil (hK28 _ _ ?_)
  refine wp_cond_true rfl ?_
  refine wp_seq_k (fun K44 hK44 => region_wl ?_)
  refine do_ rfl (.agg #[(.bool false), (.slice none 0 0)]) (ex_build (ps := #[]) (bmap0) (by kernel_rfl)) ?_
  simp only [pS, pN, pA, pC, pZ]
  refine stStore (i := 0) (v := (.agg #[(.bool false), (.slice none 0 0)])) S43 rfl rfl rfl rfl (size_53) (allc2 rfl rfl) (Nat.le_of_ble_eq_true rfl) (fun w45 S46 => ?_)
  simp only [pS, pN, pA, pC, pZ]
  have S46 : St w F w45 F19 [⟨n5, [(.bool false), (.slice none 0 0)], 53⟩, ⟨n2, [(.bool false), (.slice sa p.steps.length sc), (.slice pa p.pair.1.length pc), (.slice qa p.pair.2.length qc)], 49⟩] [] := S46
  refine do_ rfl (.int .i64 0) (ex_assign _) ?_
  simp only [pS, pN, pA, pC, pZ]
  refine wl_nil (hK44 _ _ ?_)
  refine wp_ret ?_
  (try simp only [Exit.then, Exit.inBlock, ↓reduceIte, Nat.reduceEqDiff])
  refine bodyPost_ret (v := (.tuple #[(.agg #[(.bool false), (.slice none 0 0)]), (.int .i64 0)])) ?_ rfl ?_
  ·exact res_ct rfl ⟨_, rfl, loadN (cs := [(.bool false), (.slice none 0 0)]) Tryd.underlying53 rfl (size_53) (St.range S46 (i := 0) rfl 0 [(.bool false), (.slice none 0 0)] (sub_range 0 rfl))⟩ rfl
  ·rw [show tellP k p = none from if_pos (.inr hpk)]
   exact ⟨_, _, rfl, S46.gr, _, rfl, none, 0, rfl, Bs.nil _⟩
theorem verify_spec (F : Fz) (w : World) (v u z : Value) (r k : By) (p : Prf) (hs : Sat w F) (hT : Tabs w) (hr : Bs F z r) (hu : Bs F u k) (hv : PrfV F v p) (hr32 : r.length = 32) (hk : 1 ≤ k.length ∧ k.length ≤ 16) (ok : PrfOk p) (hc : checkP k p = true) (hup : upT p = r) :
    Calls Tryd.prog 52 #[z, u, v] w (Gives w F (GetR (tellP k p) 0)) := by
  rcases ok with h | h
  · exact verifyEmpty_spec F w v u z r k p hs hT hr hu hv hr32 hk (.inl h) hc hup h.1
  · exact verifyPair_spec F w v u z r k p hs hT hr hu hv hr32 hk (.inr h) hc hup h.1 (by have := (h.2.1.ok p.pair (by simp)).2.2; omega)
end Go.Proofs.YtikklmjengkliaaDoor
namespace Go.Proofs.YtikklmjengkliaaDoor
open Go.ChangeShapes Go.WideShapes Go.ChangeAt Go.RowKit
set_option maxRecDepth 100000
def roundsZ : List Int := [1, 32898, 9223372036854808714, 9223372039002292224, 32907, 2147483649, 9223372039002292353, 9223372036854808585, 138, 136, 2147516425, 2147483658, 2147516555, 9223372036854775947, 9223372036854808713, 9223372036854808579, 9223372036854808578, 9223372036854775936, 32778, 9223372039002259466, 9223372039002292353, 9223372036854808704, 2147483649, 9223372039002292232]
theorem gRounds : Tryd.prog.globalNamed "canopy/digest.rounds" = some 3 := by kernel_rfl
theorem gRoundsType : (Tryd.prog.globals[(3 : Nat)]?).map (·.type) = some 148 := by kernel_rfl
theorem gRoundsCells : Tryd.prog.cellsOf 148 = 24 := by kernel_rfl
theorem gRoundsOne : Tryd.prog.cellsOf 145 = 1 := by kernel_rfl
def goesZ : List Int := [10, 7, 11, 17, 18, 3, 5, 16, 8, 21, 24, 4, 15, 23, 19, 13, 12, 2, 20, 14, 22, 9, 6, 1]
theorem gGoes : Tryd.prog.globalNamed "canopy/digest.goes" = some 1 := by kernel_rfl
theorem gGoesType : (Tryd.prog.globals[(1 : Nat)]?).map (·.type) = some 164 := by kernel_rfl
theorem gGoesCells : Tryd.prog.cellsOf 164 = 24 := by kernel_rfl
theorem gGoesOne : Tryd.prog.cellsOf 3 = 1 := by kernel_rfl
def turnsZ : List Int := [1, 3, 6, 10, 15, 21, 28, 36, 45, 55, 2, 14, 27, 41, 56, 8, 25, 43, 62, 18, 39, 61, 20, 44]
theorem gTurns : Tryd.prog.globalNamed "canopy/digest.turns" = some 2 := by kernel_rfl
theorem gTurnsType : (Tryd.prog.globals[(2 : Nat)]?).map (·.type) = some 164 := by kernel_rfl
theorem gTurnsCells : Tryd.prog.cellsOf 164 = 24 := by kernel_rfl
theorem gTurnsOne : Tryd.prog.cellsOf 3 = 1 := by kernel_rfl
theorem goes_are : ∀ i, i < 24 → goesZ.getD i 0 = (goesN i : Int) := by decide +kernel
theorem turns_are : ∀ i, i < 24 → turnsZ.getD i 0 = (turnsN i : Int) := by decide +kernel
theorem rounds_are : ∀ i, i < 24 → roundsZ.getD i 0 = lane (roundB i) := by unfold lane; decide +kernel
theorem tab_at {W : World} {name : String} {k : IntKind} {zs : List Int} {g : Nat} (h : Lib.TabIs Tryd.prog W name k zs) (hg : Tryd.prog.globalNamed name = some g) {n : Nat} (hn : zs.length = n) {i : Nat} (hi : i < n) : W.cell? ⟨g, i, none⟩ = some (.int k (zs.getD i 0)) := by
  have hi' : i < zs.length := by omega
  have := h.cell hg i hi'
  exact this.trans (by simp [List.getD, hi'])
theorem dig_met {W : World} (h : laidMetH Tryd.prog [("canopy/digest.rounds", Rows.laid_canopy_digest_rounds), ("canopy/digest.goes", Rows.laid_canopy_digest_goes), ("canopy/digest.turns", Rows.laid_canopy_digest_turns)] W) : Tabs W := by
  have hr : Lib.TabIs Tryd.prog W "canopy/digest.rounds" .u64 roundsZ :=
    tabIs_at (l := [("canopy/digest.rounds", Rows.laid_canopy_digest_rounds), ("canopy/digest.goes", Rows.laid_canopy_digest_goes), ("canopy/digest.turns", Rows.laid_canopy_digest_turns)]) h 0 _ _ _ rfl gRounds gRoundsType Tryd.underlying148 Tryd.underlying145 gRoundsOne gRoundsCells
  have hg : Lib.TabIs Tryd.prog W "canopy/digest.goes" .i64 goesZ :=
    tabIs_at (l := [("canopy/digest.rounds", Rows.laid_canopy_digest_rounds), ("canopy/digest.goes", Rows.laid_canopy_digest_goes), ("canopy/digest.turns", Rows.laid_canopy_digest_turns)]) h 1 _ _ _ rfl gGoes gGoesType Tryd.underlying164 Tryd.underlying3 gGoesOne gGoesCells
  have ht : Lib.TabIs Tryd.prog W "canopy/digest.turns" .i64 turnsZ :=
    tabIs_at (l := [("canopy/digest.rounds", Rows.laid_canopy_digest_rounds), ("canopy/digest.goes", Rows.laid_canopy_digest_goes), ("canopy/digest.turns", Rows.laid_canopy_digest_turns)]) h 2 _ _ _ rfl gTurns gTurnsType Tryd.underlying164 Tryd.underlying3 gTurnsOne gTurnsCells
  refine ⟨fun i hi => ?_, fun i hi => ?_, fun i hi => ?_⟩
  · rw [tab_at hg gGoes (n := 24) rfl hi, goes_are i hi]
  · rw [tab_at ht gTurns (n := 24) rfl hi, turns_are i hi]
  · rw [tab_at hr gRounds (n := 24) rfl hi, rounds_are i hi]
def setCells (cs : Array Value) : Obj → Obj
  | .cells _ t frozen => .cells cs t frozen
  | o => o
noncomputable def digWorld (os : Os) : World :=
  { World.holding Tryd.prog os ⟨#[], #[], []⟩ with heap := (((World.holding Tryd.prog os ⟨#[], #[], []⟩).heap.modify 3 (setCells #[.int .u64 1, .int .u64 32898, .int .u64 9223372036854808714, .int .u64 9223372039002292224, .int .u64 32907, .int .u64 2147483649, .int .u64 9223372039002292353, .int .u64 9223372036854808585, .int .u64 138, .int .u64 136, .int .u64 2147516425, .int .u64 2147483658, .int .u64 2147516555, .int .u64 9223372036854775947, .int .u64 9223372036854808713, .int .u64 9223372036854808579, .int .u64 9223372036854808578, .int .u64 9223372036854775936, .int .u64 32778, .int .u64 9223372039002259466, .int .u64 9223372039002292353, .int .u64 9223372036854808704, .int .u64 2147483649, .int .u64 9223372039002292232])).modify 1 (setCells #[.int .i64 10, .int .i64 7, .int .i64 11, .int .i64 17, .int .i64 18, .int .i64 3, .int .i64 5, .int .i64 16, .int .i64 8, .int .i64 21, .int .i64 24, .int .i64 4, .int .i64 15, .int .i64 23, .int .i64 19, .int .i64 13, .int .i64 12, .int .i64 2, .int .i64 20, .int .i64 14, .int .i64 22, .int .i64 9, .int .i64 6, .int .i64 1])).modify 2 (setCells #[.int .i64 1, .int .i64 3, .int .i64 6, .int .i64 10, .int .i64 15, .int .i64 21, .int .i64 28, .int .i64 36, .int .i64 45, .int .i64 55, .int .i64 2, .int .i64 14, .int .i64 27, .int .i64 41, .int .i64 56, .int .i64 8, .int .i64 25, .int .i64 43, .int .i64 62, .int .i64 18, .int .i64 39, .int .i64 61, .int .i64 20, .int .i64 44]) }
end Go.Proofs.YtikklmjengkliaaDoor
