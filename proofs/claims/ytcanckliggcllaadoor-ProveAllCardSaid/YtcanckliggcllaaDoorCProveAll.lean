/- The walk of ProveAll -/
import Derived.Test.YtcanckliggcllaaDoorCA7
import Derived.Test.YtcanckliggcllaaDoorCA4
namespace Go.Proofs.YtcanckliggcllaaDoor
open Go.RowKit
set_option maxRecDepth 100000
set_option linter.unusedVariables false
set_option linter.unusedSimpArgs false
theorem stGivesPrf {P : Program} {ops : Array Oper} {Q : Exit → Act → World → Prop} {a : Act} {rest : List Oper} {o : Oper} {kf : FuncId} {vs : Array Value} {w0 w : World} {F0 F : Fz} {L : List Blk} {M : List RowP} {p : Prf} (S : St w0 F0 w F L M) (hw : Region.wanted o (yielded ops a.tmps) = true)
    (hr : (execOp a.eval o).run P w = .ok (.enter kf vs) w) (hc : Calls P kf vs w (GivesPrf w F p))
    (h : ∀ v ka kc va vc w' F', St w0 F0 w' F' L (ownP 3 StpC StpC.mono 73 w0.heap.size v p.steps :: M) → Le F F' → Bs F' (.slice ka p.pair.1.length kc) p.pair.1 → Bs F' (.slice va p.pair.2.length vc) p.pair.2 → WL P ops Q rest (a.put o.dst (.tuple #[.agg #[.bool p.empty, v, .slice ka p.pair.1.length kc, .slice va p.pair.2.length vc], .int .i64 0])) w') : WL P ops Q (o :: rest) a w :=
  doC hw hr hc fun e w' ⟨v, ka, kc, va, vc, F', he, g, ho, h1, h2⟩ => ⟨_, he, h v ka kc va vc w' F' (S.addRow g ho) (g.le S.sat) h1 h2⟩
theorem prove_steps {n : Nat} {l : List Pr} (ok : TreeOk n l) (k : By) : StpsOk (proveT l k).steps ∧ (∀ s ∈ (proveT l k).steps, bitL k s.bit = s.right ∧ bitL (proveT l k).pair.1 s.bit = s.right) ∧ (proveT l k).steps.length ≤ l.length ∧ (2 ≤ l.length → 0 < (proveT l k).steps.length) ∧ (l ≠ [] → (proveT l k).empty = false ∧ (proveT l k).pair ∈ l) := by
  unfold proveT
  by_cases e : l = []
  · rw [if_pos e]; subst e; exact ⟨fun s hs => by simp at hs, fun s hs => by simp at hs, by simp, by simp, fun h => absurd rfl h⟩
  · rw [if_neg e]
    have h1 := List.length_pos_iff.2 e
    have hr := steps_rise l.length l k 0 ok.keys h1 (fun p _ q _ j hj => by omega)
    have hso : ∀ {B : Nat} {s : List Stp}, RiseS B s → StpsOk s := by
      intro B s
      induction s generalizing B with
      | nil => intro _ x hx; simp at hx
      | cons x s ih =>
        intro h y hy
        obtain ⟨_, h2, h3, h4⟩ := h
        rcases List.mem_cons.1 hy with rfl | hy
        · exact ⟨h2, h3⟩
        · exact ih h4 y hy
    refine ⟨hso hr, steps_way l.length l k ok.keys h1, by have := steps_len l.length l k ok.keys h1; simp only; omega, fun h2 => ?_, fun _ => ⟨rfl, steps_pair l.length l k ok.keys h1⟩⟩
    simp only
    match hl : l.length, h1 with
    | n + 1, _ => unfold stepsN; rw [if_neg (by omega)]; simp
theorem stp_len {F : Fz} {v : Value} {p : Prf} (h : Stps F v p.steps) : True := trivial
theorem way_all {k pk : By} {s : List Stp} {b : Int} (h : wayB k pk b s = true) : ∀ x ∈ s, bitL k x.bit = x.right ∧ bitL pk x.bit = x.right := wayB_way h
theorem way_rise {k pk : By} : ∀ {l : List Stp} {b : Int} {q : Stp}, wayB k pk b (l ++ [q]) = true → ∀ s ∈ l, s.bit < q.bit
  | [], _, _, _, s, hs => by simp at hs
  | x :: l, b, q, h, s, hs => by
    rw [List.cons_append, wayB] at h
    simp only [Bool.and_eq_true] at h
    have key : ∀ {l : List Stp} {b : Int} {q : Stp}, wayB k pk b (l ++ [q]) = true → b < q.bit := by
      intro l
      induction l with
      | nil => intro b q h; simp [wayB] at h; omega
      | cons y l ih => intro b q h; rw [List.cons_append, wayB] at h; simp only [Bool.and_eq_true, decide_eq_true_eq] at h; have := ih h.2; omega
    rcases List.mem_cons.1 hs with rfl | hs
    · have := key h.2; omega
    · exact way_rise h.2 s hs
theorem prove_ok {n : Nat} {l : List Pr} (ok : TreeOk n l) (hn : n ≤ 60) (k : By) : PrfOk (proveT l k) := by
  have h := prove_steps ok k
  by_cases e : l = []
  · subst e; exact .inl ⟨rfl, rfl, rfl⟩
  · obtain ⟨h1, h2⟩ := h.2.2.2.2 e
    exact .inr ⟨h1, (sub_ok ok (List.singleton_sublist.2 h2)).mono hn, h.1, by have := h.2.2.1; have := ok.len; omega⟩
theorem prove_empty {l : List Pr} (k : By) : (proveT l k).empty = decide (l.length = 0) := by
  unfold proveT
  by_cases e : l = []
  · subst e; rfl
  · rw [if_neg e, decide_eq_false (fun h => e (List.length_eq_zero_iff.1 h))]
theorem verifyIs_spec (F : Fz) (w : World) (v u z : Value) (r k : By) (p : Prf) {o : Option By} (hs : Sat w F) (hT : Tabs w) (hr : Bs F z r) (hu : Bs F u k) (hv : PrfV F v p) (hr32 : r.length = 32) (hk : 1 ≤ k.length ∧ k.length ≤ 16) (ok : PrfOk p) (hc : checkP k p = true) (hup : upT p = r) (ho : tellP k p = o) :
    Calls Tryd.prog 32 #[z, u, v] w (Gives w F (GetR o 0)) := ho ▸ verify_spec F w v u z r k p hs hT hr hu hv hr32 hk ok hc hup
theorem does_is {P : Program} {o : Oper} {a : Act} {w : World} {v : Value} (h : (execOp a.eval o).run P w = .ok (.value v) w) : Does P o a w (IsPost v w) := by
  unfold Does
  rw [h]
  exact ⟨rfl, Below.refl _ _⟩
theorem FndV.dropF {w : World} {F : Fz} {n : Nat} {cs : List Value} {T : TypeId} (hs : Sat w F) (hb : w.heap[n]? = some (.cells cs.toArray T (0, 0))) (hc : ∀ u ∈ cs, ∀ x, u ≠ bv x) {v : Value} {o : Option By} (h : FndV F v o) : FndV (Proofs.YtcanckliggcllaaDoor.dropF F n) v o := by
  obtain ⟨a, c, rfl, h1⟩ := h
  exact ⟨a, c, rfl, h1.dropF hs hb hc⟩
theorem prove_own {n : Nat} {l : List Pr} (ok : TreeOk n l) {p : Pr} (hp : p ∈ l) : (proveT l p.1).pair = p ∧ (proveT l p.1).steps.length < l.length ∧ tellP p.1 (proveT l p.1) = some p.2 := by
  have hne : l ≠ [] := List.ne_nil_of_mem hp
  have h1 := List.length_pos_iff.2 hne
  have ht := prove_tells ok p.1 p.1 (prove_check ok p.1)
  rw [mem_getT ok.rise hp] at ht
  refine ⟨?_, ?_, ht⟩
  · unfold proveT
    rw [if_neg hne]
    exact steps_found l.length l p.1 ok.keys h1 (by omega) p hp (fun s hs => (steps_way l.length l p.1 ok.keys h1 s hs).1)
  · unfold proveT
    rw [if_neg hne]
    exact steps_len l.length l p.1 ok.keys h1
set_option maxHeartbeats 8000000 in
theorem proveAll_walk (W : World) (hT : Tabs W) (v0 : Value) (l0 : List Pr) (z0 : Prs (whole W) v0 l0) :
    Calls Tryd.prog 11 #[v0] W (Tells W (.bool true)) := by
 obtain ⟨i5, hi5, hz5, hs5, hb5⟩ := info_parts infoU8
 obtain ⟨a0, c0, rfl, q0, q0'⟩ := Sl.shape z0
 have S := St.start (Sat.whole W)
 go_enter Tryd.func11, Tryd.ntmps11
 refine wp_seq_k (fun K101 hK101 => region_wl ?_)
 refine do_ rfl (.bool false) (ex_assign _) ?_
 simp only [pS, pN, pA, pC, pZ]
 refine wl_nil (hK101 _ _ ?_)
 refine wp_seq_k (fun K102 hK102 => region_wl ?_)
 refine do_ rfl (.slice a0 l0.length c0) (ex_move _) ?_
 simp only [pS, pN, pA, pC, pZ]
 refine stGivesO PrC.mono S rfl (ex_fn (vs := #[(.slice a0 l0.length c0), (.int .i64 10)]) (map2 rfl rfl) rfl (ent_24 _ _)) (pairs_spec _ _ _ l0 10 (S).sat z0 (by omega)) ?_
 intro v107 w103 F105 S104 le106
 simp only [pS, pN, pA, pC, pZ]
 have S104 : St W (whole W) w103 F105 [] [ownP 2 PrC PrC.mono 38 W.heap.size v107 (pairsN l0 10)] := S104
 obtain ⟨F108, S109, le110, hv111⟩ := St.freeze S104 (i := 0) rfl (Nat.le_refl _)
 have S109 : St W (whole W) w103 F108 [] [] := S109
 have hv111 : Prs _ v107 (pairsN l0 10) := hv111
 obtain ⟨a112, c113, rfl, h114, h115⟩ := Sl.shape hv111
 unfold maxLen at h115
 refine do_ rfl (.slice a112 (pairsN l0 10).length c113) (ex_assign _) ?_
 simp only [pS, pN, pA, pC, pZ]
 refine wl_nil (hK102 _ _ ?_)
 refine wp_seq_k (fun K116 hK116 => ?_)
 have hok := pairsN_ok l0 10
 refine region_wl ?_
 refine do_ rfl (.slice a112 (pairsN l0 10).length c113) (ex_move _) ?_
 simp only [pS, pN, pA, pC, pZ]
 refine stGives S109 rfl (ex_fn (vs := #[(.slice a112 (pairsN l0 10).length c113)]) (map1 rfl) rfl (ent_22 _ _)) (Root_spec _ _ _ (pairsN l0 10) (S109).sat (hT.at S109.gr.below) hv111 (TreeOk.mono (show TreeOk 10 (pairsN l0 10) from pairsN_ok l0 10) (by omega))) ?_
 intro v122 w117 F119 S118 le120 R121
 obtain ⟨x123, rfl, r124⟩ := R121
 obtain ⟨xa125, xc126, rfl, _⟩ := r124.shape
 have r124 : Bs _ (.slice xa125 (rootT (pairsN l0 10)).length xc126) (rootT (pairsN l0 10)) := r124
 simp only [pS, pN, pA, pC, pZ]
 refine do_ rfl (.tuple #[(.slice xa125 (rootT (pairsN l0 10)).length xc126), (.int .i64 0)]) (ex_move _) ?_
 simp only [pS, pN, pA, pC, pZ]
 refine do_ rfl (.slice xa125 (rootT (pairsN l0 10)).length xc126) (ex_extract rfl rfl) ?_
 simp only [pS, pN, pA, pC, pZ]
 refine do_ rfl (.int .i64 0) (ex_extract rfl rfl) ?_
 simp only [pS, pN, pA, pC, pZ]
 refine do_ rfl (.slice xa125 (rootT (pairsN l0 10)).length xc126) (ex_assign _) ?_
 simp only [pS, pN, pA, pC, pZ]
 refine do_ rfl (.int .i64 0) (ex_assign _) ?_
 simp only [pS, pN, pA, pC, pZ]
 refine wl_nil (hK116 _ _ ?_)
 refine wp_seq_k (fun K127 hK127 => ?_)
 refine wp_seq_k (fun K128 hK128 => region_wl ?_)
 refine do_ rfl (.int .i64 0) (ex_assign _) ?_
 simp only [pS, pN, pA, pC, pZ]
 refine wl_nil (hK128 _ _ ?_)
 refine wp_block ?_
 refine wp_loop_g (fun mm aa w131 => ∃ (i : Nat) (F129 : Fz) (u130 : Nat → Value), mm = (pairsN l0 10).length - i ∧ u130 = slots aa ∧ aa = ⟨#[(.slice a0 l0.length c0), undef, (u130 2), (.slice a112 (pairsN l0 10).length c113), (.slice xa125 (rootT (pairsN l0 10)).length xc126), (.int .i64 0), (.int .i64 ((i : Nat) : Int)), (u130 7), (u130 8), (u130 9), (u130 10), (.slice a0 l0.length c0), (.slice a112 (pairsN l0 10).length c113), (.tuple #[(.slice xa125 (rootT (pairsN l0 10)).length xc126), (.int .i64 0)]), (.slice a112 (pairsN l0 10).length c113), (.tuple #[(.slice xa125 (rootT (pairsN l0 10)).length xc126), (.int .i64 0)]), (.slice xa125 (rootT (pairsN l0 10)).length xc126), (.int .i64 0), (u130 18), (u130 19), (u130 20), (u130 21), (u130 22), (u130 23), (u130 24), (u130 25), (u130 26), (u130 27), (u130 28), (u130 29), (u130 30), (u130 31), (u130 32), (u130 33), (u130 34), (u130 35), (u130 36), (u130 37), (u130 38), (u130 39), (u130 40), (u130 41), (u130 42), (u130 43), (u130 44), (u130 45), (u130 46), (u130 47), (u130 48), (u130 49), (u130 50), (u130 51), (u130 52), (u130 53), (u130 54), (u130 55), (u130 56), (u130 57), (u130 58), (u130 59), (u130 60), (u130 61), (u130 62), (u130 63), (u130 64), (u130 65), (u130 66), (u130 67), (u130 68), (u130 69), (u130 70), (u130 71), (u130 72), (u130 73), (u130 74), (u130 75), (u130 76), (u130 77), (u130 78), (u130 79), (u130 80), (u130 81), (u130 82), (u130 83), (u130 84), undef, undef, undef, undef, undef, undef, undef], []⟩ ∧ St W (whole W) w131 F129 [] [] ∧ Le F119 F129 ∧ (i ≤ (pairsN l0 10).length)) _ ⟨0, F119, _, rfl, rfl, rfl, S118, Le.refl _, (by omega)⟩ ?_
 rintro m132 a133 w134 ⟨i, F129, u130, rfl, -, rfl, S135, le136, hi⟩ K137 hK137
 refine wp_seq_k (fun K138 hK138 => ?_)
 refine wp_seq_k (fun K139 hK139 => region_wl ?_)
 refine do_ rfl (.int .i64 ((i : Nat) : Int)) (ex_move _) ?_
 simp only [pS, pN, pA, pC, pZ]
 refine do_ rfl (.slice a112 (pairsN l0 10).length c113) (ex_move _) ?_
 simp only [pS, pN, pA, pC, pZ]
 refine do_ rfl (.int .i64 (((pairsN l0 10).length : Nat) : Int)) (ex_len Tryd.underlying40 rfl) ?_
 simp only [pS, pN, pA, pC, pZ]
 by_cases hc21 : i < (pairsN l0 10).length
 ·refine do_ rfl (.bool true) (ex_lss (m := ((i : Nat) : Int)) (n := (((pairsN l0 10).length : Nat) : Int)) (b := true) rfl rfl (decide_eq_true (by omega))) ?_
  simp only [pS, pN, pA, pC, pZ]
  refine wl_nil (hK139 _ _ ?_)
  refine wp_cond_true rfl ?_
  refine wp_skip ?_
  refine hK138 _ _ ?_
  refine wp_seq_k (fun K140 hK140 => ?_)
  refine wp_block ?_
  refine wp_seq_k (fun K141 hK141 => ?_)
  obtain ⟨p, hp⟩ : ∃ p, (pairsN l0 10)[i]? = some p := ⟨(pairsN l0 10)[i], List.getElem?_eq_getElem hc21⟩
  have hpm := List.mem_of_getElem? hp
  have hown := prove_own hok hpm
  have hpo := hok.ok p hpm
  have hpk : 1 ≤ p.1.length ∧ p.1.length ≤ 16 := ⟨hpo.1, hpo.2.1⟩
  obtain ⟨b142, o143, ha144, xa146, xc147, xa150, xc151, c145, c149, r148, r152⟩ := Prs.get (hv111.mono (le120.trans le136)) hp
  refine region_wl ?_
  refine do_ rfl (.slice a112 (pairsN l0 10).length c113) (ex_move _) ?_
  simp only [pS, pN, pA, pC, pZ]
  refine do_ rfl (.slice a112 (pairsN l0 10).length c113) (ex_move _) ?_
  simp only [pS, pN, pA, pC, pZ]
  refine do_ rfl (.int .i64 ((i : Nat) : Int)) (ex_move _) ?_
  simp only [pS, pN, pA, pC, pZ]
  refine do_ rfl (.pointer (some ⟨b142, o143 + i * 2, none⟩)) (ex_at (i := i) (sz := 2) Tryd.underlying40 (sizeof_38 _) rfl ha144 rfl (by omega) rfl) ?_
  simp only [pS, pN, pA, pC, pZ]
  refine do_ rfl (.pointer (some ⟨b142, o143 + i * 2, none⟩)) (ex_field (q := ⟨b142, o143 + i * 2, none⟩) rfl (fa_38_0 _ _)) ?_
  simp only [pS, pN, pA, pC, pZ]
  refine do_ rfl (.slice xa146 p.1.length xc147) (ex_load rfl (load1 (nagg_22 _) (St.fz S135 c145))) ?_
  simp only [pS, pN, pA, pC, pZ]
  refine stGivesPrf S135 rfl (ex_fn (vs := #[(.slice a112 (pairsN l0 10).length c113), (.slice xa146 p.1.length xc147)]) (map2 rfl rfl) rfl (ent_27 _ _)) (prove_spec _ _ _ _ (pairsN l0 10) p.1 (S135).sat (hT.at S135.gr.below) (hv111.mono (le120.trans le136)) r148 (hok.mono (by omega)) hpk) ?_
  intro v153 ka154 kc155 va156 vc157 w158 F159 S160 le161 r162 r163
  simp only [pS, pN, pA, pC, pZ]
  have S160 : St W (whole W) w158 F159 [] [ownP 3 StpC StpC.mono 73 W.heap.size v153 ((proveT (pairsN l0 10) p.1).steps)] := S160
  obtain ⟨a164, cap165, rfl, h166, h167⟩ := (S160.own (i := 0) rfl).shape
  unfold maxLen at h167
  obtain ⟨F168, S169, le170, hv171⟩ := St.freeze S160 (i := 0) rfl (Nat.le_refl _)
  have S169 : St W (whole W) w158 F168 [] [] := S169
  have hv171 : Stps _ (.slice a164 ((proveT (pairsN l0 10) p.1).steps).length cap165) ((proveT (pairsN l0 10) p.1).steps) := hv171
  refine do_ rfl (.tuple #[(.agg #[(.bool (proveT (pairsN l0 10) p.1).empty), (.slice a164 ((proveT (pairsN l0 10) p.1).steps).length cap165), (.slice ka154 (proveT (pairsN l0 10) p.1).pair.1.length kc155), (.slice va156 (proveT (pairsN l0 10) p.1).pair.2.length vc157)]), (.int .i64 0)]) (ex_move _) ?_
  simp only [pS, pN, pA, pC, pZ]
  refine do_ rfl (.agg #[(.bool (proveT (pairsN l0 10) p.1).empty), (.slice a164 ((proveT (pairsN l0 10) p.1).steps).length cap165), (.slice ka154 (proveT (pairsN l0 10) p.1).pair.1.length kc155), (.slice va156 (proveT (pairsN l0 10) p.1).pair.2.length vc157)]) (ex_extract rfl rfl) ?_
  simp only [pS, pN, pA, pC, pZ]
  refine do_ rfl (.int .i64 0) (ex_extract rfl rfl) ?_
  simp only [pS, pN, pA, pC, pZ]
  refine stNew S169 (v := fun n => .pointer (some ⟨n, 0, none⟩)) rfl (ex_alloc (zero_52 _)) (fun n172 w173 S174 => ?_)
  simp only [pS, pN, pA, pC, pZ]
  have S174 : St W (whole W) w173 F168 [⟨n172, [(.bool false), (.slice none 0 0), (.slice none 0 0), (.slice none 0 0)], 52⟩] [] := S174
  refine stStore (i := 0) (v := (.agg #[(.bool (proveT (pairsN l0 10) p.1).empty), (.slice a164 ((proveT (pairsN l0 10) p.1).steps).length cap165), (.slice ka154 (proveT (pairsN l0 10) p.1).pair.1.length kc155), (.slice va156 (proveT (pairsN l0 10) p.1).pair.2.length vc157)])) S174 rfl rfl rfl rfl (size_52) (allc4 rfl rfl rfl rfl) (Nat.le_of_ble_eq_true rfl) (fun w175 S176 => ?_)
  simp only [pS, pN, pA, pC, pZ]
  have S176 : St W (whole W) w175 F168 [⟨n172, [(.bool (proveT (pairsN l0 10) p.1).empty), (.slice a164 ((proveT (pairsN l0 10) p.1).steps).length cap165), (.slice ka154 (proveT (pairsN l0 10) p.1).pair.1.length kc155), (.slice va156 (proveT (pairsN l0 10) p.1).pair.2.length vc157)], 52⟩] [] := S176
  refine do_ rfl (.int .i64 0) (ex_assign _) ?_
  simp only [pS, pN, pA, pC, pZ]
  refine wl_nil (hK141 _ _ ?_)
  refine wp_seq_k (fun K177 hK177 => ?_)
  refine region_late F168 [0, 1, 2, 3, 4, 5, 6, 7, 8, 9, 11] 10 12 [13] [(7, .made (fun F' u => GetR (some p.2) 0 F' u)), (9, .made (fun F' u => FndV F' u (some p.2))), (11, .rel (NewAt w175 [(.bool false), (.slice none 0 0)] 65) (NewAt.stable _ _ _)), (10, .is (.int .i64 0))] (by kernel_rfl) (by kernel_rfl) rfl rfl rfl rfl ?_
  simp only [opsAt, List.getElem?_cons_succ, List.getElem?_cons_zero, List.map_cons, List.map_nil]
  refine gp_pure rfl rfl (.slice xa125 (rootT (pairsN l0 10)).length xc126) (fun w178 hCw178 => pureAt_of (ex_move _)) ?_
  simp only [pS, pN, pA, pC, pZ]
  refine gp_pure rfl rfl (.slice a112 (pairsN l0 10).length c113) (fun w178 hCw178 => pureAt_of (ex_move _)) ?_
  simp only [pS, pN, pA, pC, pZ]
  refine gp_pure rfl rfl (.int .i64 ((i : Nat) : Int)) (fun w178 hCw178 => pureAt_of (ex_move _)) ?_
  simp only [pS, pN, pA, pC, pZ]
  refine gp_pure rfl rfl (.pointer (some ⟨b142, o143 + i * 2, none⟩)) (fun w178 hCw178 => pureAt_of (ex_at (i := i) (sz := 2) Tryd.underlying40 (sizeof_38 _) rfl ha144 rfl (by omega) rfl)) ?_
  simp only [pS, pN, pA, pC, pZ]
  refine gp_pure rfl rfl (.pointer (some ⟨b142, o143 + i * 2, none⟩)) (fun w178 hCw178 => pureAt_of (ex_field (q := ⟨b142, o143 + i * 2, none⟩) rfl (fa_38_0 _ _))) ?_
  simp only [pS, pN, pA, pC, pZ]
  refine gp_pure rfl rfl (.slice xa146 p.1.length xc147) (fun w178 hCw178 => pureAt_of (ex_load rfl (load1 (nagg_22 _) (St.fz (St.tells S176 hCw178) (Le.cell (le161.trans le170) c145))))) ?_
  simp only [pS, pN, pA, pC, pZ]
  refine gp_pure rfl rfl (.agg #[(.bool (proveT (pairsN l0 10) p.1).empty), (.slice a164 ((proveT (pairsN l0 10) p.1).steps).length cap165), (.slice ka154 (proveT (pairsN l0 10) p.1).pair.1.length kc155), (.slice va156 (proveT (pairsN l0 10) p.1).pair.2.length vc157)]) (fun w178 hCw178 => pureAt_of (ex_load rfl (loadN (cs := [(.bool (proveT (pairsN l0 10) p.1).empty), (.slice a164 ((proveT (pairsN l0 10) p.1).steps).length cap165), (.slice ka154 (proveT (pairsN l0 10) p.1).pair.1.length kc155), (.slice va156 (proveT (pairsN l0 10) p.1).pair.2.length vc157)]) Tryd.underlying52 rfl (size_52) (St.range (St.tells S176 hCw178) (i := 0) rfl 0 [(.bool (proveT (pairsN l0 10) p.1).empty), (.slice a164 ((proveT (pairsN l0 10) p.1).steps).length cap165), (.slice ka154 (proveT (pairsN l0 10) p.1).pair.1.length kc155), (.slice va156 (proveT (pairsN l0 10) p.1).pair.2.length vc157)] (sub_range 0 rfl))))) ?_
  simp only [pS, pN, pA, pC, pZ]
  refine gp_rel rfl rfl (fun w178 hCw178 hF => does_call (ex_fn (vs := #[(.slice xa125 (rootT (pairsN l0 10)).length xc126), (.slice xa146 p.1.length xc147), (.agg #[(.bool (proveT (pairsN l0 10) p.1).empty), (.slice a164 ((proveT (pairsN l0 10) p.1).steps).length cap165), (.slice ka154 (proveT (pairsN l0 10) p.1).pair.1.length kc155), (.slice va156 (proveT (pairsN l0 10) p.1).pair.2.length vc157)])]) (map3 rfl rfl rfl) rfl (ent_32 _ _)) (call_made S176.sat hCw178 (verifyIs_spec _ _ _ _ _ (rootT (pairsN l0 10)) p.1 (proveT (pairsN l0 10) p.1) (o := some p.2) ((St.tells S176 hCw178)).sat (hT.at (St.tells S176 hCw178).gr.below) (r124.mono ((le136.trans le161).trans le170)) (r148.mono (le161.trans le170)) ⟨_, _, _, _, _, _, rfl, hv171, (r162.mono le170), (r163.mono le170)⟩ (by rw [rootT_len]) hpk (prove_ok hok (by omega) p.1) (prove_check hok p.1) (prove_up hok p.1) hown.2.2))) (fun v179 => ?_)
  simp only [pS, pN, pA, pC, pZ]
  refine gp_pure rfl rfl v179 (fun w178 hCw178 => pureAt_of (ex_move _)) ?_
  simp only [pS, pN, pA, pC, pZ]
  refine gp_rel rfl rfl (fun w178 hCw178 hF_ => ?_) (fun v184 => ?_)
  ·obtain ⟨F180, g181, _, rfl, hx183⟩ := hF_.get 7 (by kernel_rfl) rfl rfl
   exact does_val (ex_extract rfl rfl) ⟨F180, g181, hx183⟩ (Below.refl _ _)
  simp only [pS, pN, pA, pC, pZ]
  refine gp_rel rfl rfl (fun w178 hCw178 _ => does_alloc (cs := [(.bool false), (.slice none 0 0)]) (zero_65 _) rfl hCw178) (fun v185 => ?_)
  simp only [pS, pN, pA, pC, pZ]
  refine gp_nil (late_ rfl rfl (v := (.int .i64 0)) (fun w178 hCw178 hF_ => ?_) ?_)
  ·obtain ⟨F186, g187, _, rfl, hx188⟩ := hF_.get 7 (by kernel_rfl) rfl rfl
   exact fun w1 => pureAt_of (ex_extract rfl rfl)
  intro w189 hC191 hF192
  obtain ⟨n193, rfl, hn194, hb195⟩ := hF192.getR 11 rfl rfl
  have hnbn193 : ∀ u ∈ [(.bool false), (.slice none 0 0)], ∀ x, u ≠ bv x := by intro u hu x; simp only [List.mem_cons, List.not_mem_nil, or_false] at hu; rcases hu with rfl | rfl <;> (unfold bv; simp)
  obtain ⟨F196, g197, R198⟩ := hF192.get 9 rfl rfl
  have g199 := g197.dropF S176.sat hn194
  have R200 := FndV.dropF g197.sat hb195 hnbn193 R198
  have S190 := St.addBlk (cs := [(.bool false), (.slice none 0 0)]) S176 g199 hn194 (dropF_at _ _) hb195
  have le202 : Le _ _ := g199.le S176.sat
  have R203 := R200
  generalize (dropF F196 n193) = F201 at *
  obtain ⟨a204, c205, rfl, r206⟩ := R203
  have r206 : Bs _ (.slice a204 p.2.length c205) p.2 := r206
  clear hF192
  have S190 : St W (whole W) w189 F201 [⟨n193, [(.bool false), (.slice none 0 0)], 65⟩, ⟨n172, [(.bool (proveT (pairsN l0 10) p.1).empty), (.slice a164 ((proveT (pairsN l0 10) p.1).steps).length cap165), (.slice ka154 (proveT (pairsN l0 10) p.1).pair.1.length kc155), (.slice va156 (proveT (pairsN l0 10) p.1).pair.2.length vc157)], 52⟩] [] := S190
  simp only [pS, pN, pA, pC, pZ]
  refine stLate (i := 0) (v := (.agg #[(.bool true), (.slice a204 p.2.length c205)])) S190 rfl rfl rfl (size_65) (allc2 rfl rfl) (Nat.le_of_ble_eq_true rfl) (fun w207 S208 => ?_)
  have S208 : St W (whole W) w207 F201 [⟨n193, [(.bool true), (.slice a204 p.2.length c205)], 65⟩, ⟨n172, [(.bool (proveT (pairsN l0 10) p.1).empty), (.slice a164 ((proveT (pairsN l0 10) p.1).steps).length cap165), (.slice ka154 (proveT (pairsN l0 10) p.1).pair.1.length kc155), (.slice va156 (proveT (pairsN l0 10) p.1).pair.2.length vc157)], 52⟩] [] := S208
  refine do_ rfl (.int .i64 0) (ex_assign _) ?_
  simp only [pS, pN, pA, pC, pZ]
  refine wl_nil (hK177 _ _ ?_)
  refine wp_seq_k (fun K209 hK209 => ?_)
  refine region_gw F201 38 [(19, .is (.bool true)), (29, .is (.bool true))] (by kernel_rfl) (by kernel_rfl) ?_
  simp only [List.take_succ_cons, List.take_zero]
  refine gw_pure rfl rfl (.int .i64 0) (fun w210 hCw210 => pureAt_of (ex_move _)) ?_
  simp only [pS, pN, pA, pC, pZ]
  refine gw_pure rfl rfl (.bool false) (fun w210 hCw210 => pureAt_of (ex_neq (b := false) rfl rfl (by decide))) ?_
  simp only [pS, pN, pA, pC, pZ]
  refine gw_pure rfl rfl (.bool false) (fun w210 hCw210 => pureAt_of (ex_move _)) ?_
  simp only [pS, pN, pA, pC, pZ]
  refine gw_pure rfl rfl (.int .i64 0) (fun w210 hCw210 => pureAt_of (ex_move _)) ?_
  simp only [pS, pN, pA, pC, pZ]
  refine gw_pure rfl rfl (.bool false) (fun w210 hCw210 => pureAt_of (ex_neq (b := false) rfl rfl (by decide))) ?_
  simp only [pS, pN, pA, pC, pZ]
  refine gw_pure rfl rfl (.bool false) (fun w210 hCw210 => pureAt_of (ex_pick (b := false) rfl)) ?_
  simp only [pS, pN, pA, pC, pZ]
  refine gw_pure rfl rfl (.bool false) (fun w210 hCw210 => pureAt_of (ex_move _)) ?_
  simp only [pS, pN, pA, pC, pZ]
  refine gw_pure rfl rfl (.pointer (some ⟨n193, 0, none⟩)) (fun w210 hCw210 => pureAt_of (ex_field (q := ⟨n193, 0, none⟩) rfl (fa_65_0 _ _))) ?_
  simp only [pS, pN, pA, pC, pZ]
  refine gw_pure rfl rfl (.bool true) (fun w210 hCw210 => pureAt_of (ex_load rfl (load1 (nagg_4 _) (St.cell (St.tells S208 hCw210) (i := 0) rfl rfl)))) ?_
  simp only [pS, pN, pA, pC, pZ]
  refine gw_pure rfl rfl (.bool false) (fun w210 hCw210 => pureAt_of (ex_not (b := true) rfl rfl)) ?_
  simp only [pS, pN, pA, pC, pZ]
  refine gw_pure rfl rfl (.bool false) (fun w210 hCw210 => pureAt_of (ex_pick (b := false) rfl)) ?_
  simp only [pS, pN, pA, pC, pZ]
  refine gw_pure rfl rfl (.bool false) (fun w210 hCw210 => pureAt_of (ex_move _)) ?_
  simp only [pS, pN, pA, pC, pZ]
  refine gw_pure rfl rfl (.pointer (some ⟨n193, 1, none⟩)) (fun w210 hCw210 => pureAt_of (ex_field (q := ⟨n193, 1, none⟩) rfl (fa_65_1 _ _))) ?_
  simp only [pS, pN, pA, pC, pZ]
  refine gw_pure rfl rfl (.slice a204 p.2.length c205) (fun w210 hCw210 => pureAt_of (ex_load rfl (load1 (nagg_22 _) (St.cell (St.tells S208 hCw210) (i := 0) rfl rfl)))) ?_
  simp only [pS, pN, pA, pC, pZ]
  refine gw_pure rfl rfl (.slice a112 (pairsN l0 10).length c113) (fun w210 hCw210 => pureAt_of (ex_move _)) ?_
  simp only [pS, pN, pA, pC, pZ]
  refine gw_pure rfl rfl (.int .i64 ((i : Nat) : Int)) (fun w210 hCw210 => pureAt_of (ex_move _)) ?_
  simp only [pS, pN, pA, pC, pZ]
  refine gw_pure rfl rfl (.pointer (some ⟨b142, o143 + i * 2, none⟩)) (fun w210 hCw210 => pureAt_of (ex_at (i := i) (sz := 2) Tryd.underlying40 (sizeof_38 _) rfl ha144 rfl (by omega) rfl)) ?_
  simp only [pS, pN, pA, pC, pZ]
  refine gw_pure rfl rfl (.pointer (some ⟨b142, o143 + i * 2 + 1, none⟩)) (fun w210 hCw210 => pureAt_of (ex_field (q := ⟨b142, o143 + i * 2 + 1, none⟩) rfl (fa_38_1 _ _))) ?_
  simp only [pS, pN, pA, pC, pZ]
  refine gw_pure rfl rfl (.slice xa150 p.2.length xc151) (fun w210 hCw210 => pureAt_of (ex_load rfl (load1 (nagg_22 _) (St.fz (St.tells S208 hCw210) (Le.cell ((le161.trans le170).trans le202) c149))))) ?_
  simp only [pS, pN, pA, pC, pZ]
  refine gw_const rfl rfl (v := (.bool true)) (fun w210 hCw210 _ => does_call (ex_fn (vs := #[(.slice a204 p.2.length c205), (.slice xa150 p.2.length xc151)]) (map2 rfl rfl) rfl (ent_16 _ _)) (call_tells (tells_bool (tells_same (same_spec _ _ _ _ p.2 p.2 ((St.tells S208 hCw210)).sat r206 (r152.mono ((le161.trans le170).trans le202)))) (beq_iff_eq.2 (rfl))))) ?_
  simp only [pS, pN, pA, pC, pZ]
  refine gw_pure rfl rfl (.bool false) (fun w210 hCw210 => pureAt_of (ex_not (b := true) rfl rfl)) ?_
  simp only [pS, pN, pA, pC, pZ]
  refine gw_pure rfl rfl (.bool false) (fun w210 hCw210 => pureAt_of (ex_pick (b := false) rfl)) ?_
  simp only [pS, pN, pA, pC, pZ]
  refine gw_pure rfl rfl (.bool false) (fun w210 hCw210 => pureAt_of (ex_move _)) ?_
  simp only [pS, pN, pA, pC, pZ]
  refine gw_pure rfl rfl (.pointer (some ⟨n172, 2, none⟩)) (fun w210 hCw210 => pureAt_of (ex_field (q := ⟨n172, 2, none⟩) rfl (fa_52_2 _ _))) ?_
  simp only [pS, pN, pA, pC, pZ]
  refine gw_pure rfl rfl (.agg #[(.slice ka154 (proveT (pairsN l0 10) p.1).pair.1.length kc155), (.slice va156 (proveT (pairsN l0 10) p.1).pair.2.length vc157)]) (fun w210 hCw210 => pureAt_of (ex_load rfl (loadN (cs := [(.slice ka154 (proveT (pairsN l0 10) p.1).pair.1.length kc155), (.slice va156 (proveT (pairsN l0 10) p.1).pair.2.length vc157)]) Tryd.underlying38 rfl (size_38) (St.range (St.tells S208 hCw210) (i := 1) rfl 2 [(.slice ka154 (proveT (pairsN l0 10) p.1).pair.1.length kc155), (.slice va156 (proveT (pairsN l0 10) p.1).pair.2.length vc157)] (sub_range 2 rfl))))) ?_
  simp only [pS, pN, pA, pC, pZ]
  refine gw_pure rfl rfl (.slice a112 (pairsN l0 10).length c113) (fun w210 hCw210 => pureAt_of (ex_move _)) ?_
  simp only [pS, pN, pA, pC, pZ]
  refine gw_pure rfl rfl (.int .i64 ((i : Nat) : Int)) (fun w210 hCw210 => pureAt_of (ex_move _)) ?_
  simp only [pS, pN, pA, pC, pZ]
  refine gw_pure rfl rfl (.pointer (some ⟨b142, o143 + i * 2, none⟩)) (fun w210 hCw210 => pureAt_of (ex_at (i := i) (sz := 2) Tryd.underlying40 (sizeof_38 _) rfl ha144 rfl (by omega) rfl)) ?_
  simp only [pS, pN, pA, pC, pZ]
  refine gw_pure rfl rfl (.agg #[(.slice xa146 p.1.length xc147), (.slice xa150 p.2.length xc151)]) (fun w210 hCw210 => pureAt_of (ex_load rfl (loadN (cs := [(.slice xa146 p.1.length xc147), (.slice xa150 p.2.length xc151)]) Tryd.underlying38 rfl (size_38) (range2 (St.fz (St.tells S208 hCw210) (Le.cell ((le161.trans le170).trans le202) c145)) (St.fz (St.tells S208 hCw210) (Le.cell ((le161.trans le170).trans le202) c149)))))) ?_
  simp only [pS, pN, pA, pC, pZ]
  refine gw_const rfl rfl (v := (.bool true)) (fun w210 hCw210 _ => does_call (ex_fn (vs := #[(.agg #[(.slice ka154 (proveT (pairsN l0 10) p.1).pair.1.length kc155), (.slice va156 (proveT (pairsN l0 10) p.1).pair.2.length vc157)]), (.agg #[(.slice xa146 p.1.length xc147), (.slice xa150 p.2.length xc151)])]) (map2 rfl rfl) rfl (ent_35 _ _)) (call_tells (tells_bool (samePair_spec _ _ _ _ (proveT (pairsN l0 10) p.1).pair p ((St.tells S208 hCw210)).sat ⟨_, _, _, _, rfl, (r162.mono (le170.trans le202)), (r163.mono (le170.trans le202))⟩ ⟨_, _, _, _, rfl, (r148.mono ((le161.trans le170).trans le202)), (r152.mono ((le161.trans le170).trans le202))⟩) (decide_eq_true hown.1)))) ?_
  simp only [pS, pN, pA, pC, pZ]
  refine gw_pure rfl rfl (.bool false) (fun w210 hCw210 => pureAt_of (ex_not (b := true) rfl rfl)) ?_
  simp only [pS, pN, pA, pC, pZ]
  refine gw_pure rfl rfl (.bool false) (fun w210 hCw210 => pureAt_of (ex_pick (b := false) rfl)) ?_
  simp only [pS, pN, pA, pC, pZ]
  refine gw_pure rfl rfl (.bool false) (fun w210 hCw210 => pureAt_of (ex_move _)) ?_
  simp only [pS, pN, pA, pC, pZ]
  refine gw_pure rfl rfl (.pointer (some ⟨n172, 1, none⟩)) (fun w210 hCw210 => pureAt_of (ex_field (q := ⟨n172, 1, none⟩) rfl (fa_52_1 _ _))) ?_
  simp only [pS, pN, pA, pC, pZ]
  refine gw_pure rfl rfl (.slice a164 ((proveT (pairsN l0 10) p.1).steps).length cap165) (fun w210 hCw210 => pureAt_of (ex_load rfl (load1 (nagg_50 _) (St.cell (St.tells S208 hCw210) (i := 1) rfl rfl)))) ?_
  simp only [pS, pN, pA, pC, pZ]
  refine gw_pure rfl rfl (.int .i64 ((((proveT (pairsN l0 10) p.1).steps).length : Nat) : Int)) (fun w210 hCw210 => pureAt_of (ex_len Tryd.underlying50 rfl)) ?_
  simp only [pS, pN, pA, pC, pZ]
  refine gw_pure rfl rfl (.slice a112 (pairsN l0 10).length c113) (fun w210 hCw210 => pureAt_of (ex_move _)) ?_
  simp only [pS, pN, pA, pC, pZ]
  refine gw_pure rfl rfl (.int .i64 (((pairsN l0 10).length : Nat) : Int)) (fun w210 hCw210 => pureAt_of (ex_len Tryd.underlying40 rfl)) ?_
  simp only [pS, pN, pA, pC, pZ]
  refine gw_nil ?_
  intro w211 hC213 hF214
  clear hF214
  have S212 := St.tells S208 hC213
  simp only [List.drop_succ_cons, List.drop_zero]
  refine do_ rfl (.bool false) (ex_geq (m := ((((proveT (pairsN l0 10) p.1).steps).length : Nat) : Int)) (n := (((pairsN l0 10).length : Nat) : Int)) (b := false) rfl rfl (decide_eq_false (by have := hown.2.1; omega))) ?_
  simp only [pS, pN, pA, pC, pZ]
  refine do_ rfl (.bool false) (ex_pick (b := false) rfl) ?_
  simp only [pS, pN, pA, pC, pZ]
  refine wl_nil (hK209 _ _ ?_)
  refine wp_cond_false rfl ?_
  refine wp_skip ?_
  refine hK140 _ _ ?_
  refine region_wl ?_
  refine do_ rfl (.int .i64 ((i : Nat) : Int)) (ex_move _) ?_
  simp only [pS, pN, pA, pC, pZ]
  refine do_ rfl (.int .i64 (((i + 1) : Nat) : Int)) (ex_add (m := ((i : Nat) : Int)) (n := (1 : Int)) (r := (((i + 1) : Nat) : Int)) rfl rfl (by omega) (by omega) (by omega)) ?_
  simp only [pS, pN, pA, pC, pZ]
  refine do_ rfl (.int .i64 (((i + 1) : Nat) : Int)) (ex_assign _) ?_
  simp only [pS, pN, pA, pC, pZ]
  refine wl_nil ?_
  have S212 := St.drop S212 (L' := []) (.cons _ (.cons _ (List.Sublist.refl _)))
  exact hK137 _ _ _ (by omega) ⟨(i + 1), F201, _, rfl, rfl, rfl, S212, (((le136.trans le161).trans le170).trans le202), (by omega)⟩
 ·refine do_ rfl (.bool false) (ex_lss (m := ((i : Nat) : Int)) (n := (((pairsN l0 10).length : Nat) : Int)) (b := false) rfl rfl (decide_eq_false (by omega))) ?_
  simp only [pS, pN, pA, pC, pZ]
  refine wl_nil (hK139 _ _ ?_)
  refine wp_cond_false rfl ?_
  refine wp_exit ?_
  refine hK127 _ _ ?_
  refine wp_seq_k (fun K215 hK215 => region_wl ?_)
  refine do_ rfl (.int .i64 0) (ex_move _) ?_
  simp only [pS, pN, pA, pC, pZ]
  refine do_ rfl (.bool true) (ex_eql (b := true) rfl rfl (by decide)) ?_
  simp only [pS, pN, pA, pC, pZ]
  refine do_ rfl (.bool true) (ex_move _) ?_
  simp only [pS, pN, pA, pC, pZ]
  refine do_ rfl (.slice xa125 (rootT (pairsN l0 10)).length xc126) (ex_move _) ?_
  simp only [pS, pN, pA, pC, pZ]
  refine do_ rfl (.int .i64 (((rootT (pairsN l0 10)).length : Nat) : Int)) (ex_len Tryd.underlying22 rfl) ?_
  simp only [pS, pN, pA, pC, pZ]
  refine do_ rfl (.bool true) (ex_eql (m := (((rootT (pairsN l0 10)).length : Nat) : Int)) (n := (32 : Int)) (b := true) rfl rfl (beq_iff_eq.2 (by rw [rootT_len]; rfl))) ?_
  simp only [pS, pN, pA, pC, pZ]
  refine do_ rfl (.bool true) (ex_pick (b := true) rfl) ?_
  simp only [pS, pN, pA, pC, pZ]
  refine do_ rfl (.bool true) (ex_assign _) ?_
  simp only [pS, pN, pA, pC, pZ]
  refine wl_nil (hK215 _ _ ?_)
  refine wp_ret ?_
  (try simp only [Exit.then, Exit.inBlock, ↓reduceIte, Nat.reduceEqDiff])
  refine bodyPost_ret (v := (.bool true)) ?_ rfl ?_
  ·exact res_t rfl rfl
  ·exact ⟨rfl, S135.gr.below⟩
end Go.Proofs.YtcanckliggcllaaDoor
