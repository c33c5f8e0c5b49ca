/- The walk of ProofElse -/
import Derived.Test.YtcanckliggcllaaDoorBZ7
import Derived.Test.YtcanckliggcllaaDoorBZ4
namespace Go.Proofs.YtcanckliggcllaaDoor
open Go.RowKit
set_option maxRecDepth 100000
set_option linter.unusedVariables false
set_option linter.unusedSimpArgs false
theorem stGivesPrf {P : Program} {ops : Array Oper} {Q : Exit → Act → World → Prop} {a : Act} {rest : List Oper} {o : Oper} {kf : FuncId} {vs : Array Value} {w0 w : World} {F0 F : Fz} {L : List Blk} {M : List RowP} {p : Prf} (S : St w0 F0 w F L M) (hw : Region.wanted o (yielded ops a.tmps) = true)
    (hr : (execOp a.eval o).run P w = .ok (.enter kf vs) w) (hc : Calls P kf vs w (GivesPrf w F p))
    (h : ∀ v ka kc va vc w' F', St w0 F0 w' F' L (ownP 3 StpC StpC.mono 73 w0.heap.size v p.steps :: M) → Le F F' → Bs F' (.slice ka p.pair.1.length kc) p.pair.1 → Bs F' (.slice va p.pair.2.length vc) p.pair.2 → WL P ops Q rest (a.put o.dst (.tuple #[.agg #[.bool p.empty, v, .slice ka p.pair.1.length kc, .slice va p.pair.2.length vc], .int .i64 0])) w') : WL P ops Q (o :: rest) a w :=
  doC hw hr hc fun e w' ⟨v, ka, kc, va, vc, F', he, g, ho, h1, h2⟩ => ⟨_, he, h v ka kc va vc w' F' (S.addRow g ho) (g.le S.sat) h1 h2⟩
theorem prove_steps {n : Nat} {l : List Pr} (ok : TreeOk n l) (k : By) : StpsOk (proveT l k).steps ∧ (∀ s ∈ (proveT l k).steps, bitL k s.bit = s.right ∧ bitL (proveT l k).pair.1 s.bit = s.right) ∧ (proveT l k).steps.length ≤ l.length ∧ (2 ≤ l.length → 0 < (proveT l k).steps.length) ∧ (l ≠ [] → (proveT l k).empty = false ∧ (proveT l k).pair ∈ l) := by
  unfold proveT
  by_cases e : l = []
  · rw [if_pos e]; subst e; exact ⟨fun s hs => by simp at hs, fun s hs => by simp at hs, by simp, by simp, fun h => absurd rfl h⟩
  · rw [if_neg e]
    have h1 := List.length_pos_iff.2 e
    have hr := steps_rise l.length l k 0 ok.keys h1 (fun p _ q _ j hj => by omega)
    have hso : ∀ {B : Nat} {s : List Stp}, RiseS B s → StpsOk s := by
      intro B s
      induction s generalizing B with
      | nil => intro _ x hx; simp at hx
      | cons x s ih =>
        intro h y hy
        obtain ⟨_, h2, h3, h4⟩ := h
        rcases List.mem_cons.1 hy with rfl | hy
        · exact ⟨h2, h3⟩
        · exact ih h4 y hy
    refine ⟨hso hr, steps_way l.length l k ok.keys h1, by have := steps_len l.length l k ok.keys h1; simp only; omega, fun h2 => ?_, fun _ => ⟨rfl, steps_pair l.length l k ok.keys h1⟩⟩
    simp only
    match hl : l.length, h1 with
    | n + 1, _ => unfold stepsN; rw [if_neg (by omega)]; simp
theorem stp_len {F : Fz} {v : Value} {p : Prf} (h : Stps F v p.steps) : True := trivial
theorem way_all {k pk : By} {s : List Stp} {b : Int} (h : wayB k pk b s = true) : ∀ x ∈ s, bitL k x.bit = x.right ∧ bitL pk x.bit = x.right := wayB_way h
theorem way_rise {k pk : By} : ∀ {l : List Stp} {b : Int} {q : Stp}, wayB k pk b (l ++ [q]) = true → ∀ s ∈ l, s.bit < q.bit
  | [], _, _, _, s, hs => by simp at hs
  | x :: l, b, q, h, s, hs => by
    rw [List.cons_append, wayB] at h
    simp only [Bool.and_eq_true] at h
    have key : ∀ {l : List Stp} {b : Int} {q : Stp}, wayB k pk b (l ++ [q]) = true → b < q.bit := by
      intro l
      induction l with
      | nil => intro b q h; simp [wayB] at h; omega
      | cons y l ih => intro b q h; rw [List.cons_append, wayB] at h; simp only [Bool.and_eq_true, decide_eq_true_eq] at h; have := ih h.2; omega
    rcases List.mem_cons.1 hs with rfl | hs
    · have := key h.2; omega
    · exact way_rise h.2 s hs
theorem prove_ok {n : Nat} {l : List Pr} (ok : TreeOk n l) (hn : n ≤ 60) (k : By) : PrfOk (proveT l k) := by
  have h := prove_steps ok k
  by_cases e : l = []
  · subst e; exact .inl ⟨rfl, rfl, rfl⟩
  · obtain ⟨h1, h2⟩ := h.2.2.2.2 e
    exact .inr ⟨h1, (sub_ok ok (List.singleton_sublist.2 h2)).mono hn, h.1, by have := h.2.2.1; have := ok.len; omega⟩
theorem prove_empty {l : List Pr} (k : By) : (proveT l k).empty = decide (l.length = 0) := by
  unfold proveT
  by_cases e : l = []
  · subst e; rfl
  · rw [if_neg e, decide_eq_false (fun h => e (List.length_eq_zero_iff.1 h))]
theorem verifyIs_spec (F : Fz) (w : World) (v u z : Value) (r k : By) (p : Prf) {o : Option By} (hs : Sat w F) (hT : Tabs w) (hr : Bs F z r) (hu : Bs F u k) (hv : PrfV F v p) (hr32 : r.length = 32) (hk : 1 ≤ k.length ∧ k.length ≤ 16) (ok : PrfOk p) (hc : checkP k p = true) (hup : upT p = r) (ho : tellP k p = o) :
    Calls Tryd.prog 32 #[z, u, v] w (Gives w F (GetR o 0)) := ho ▸ verify_spec F w v u z r k p hs hT hr hu hv hr32 hk ok hc hup
set_option maxHeartbeats 8000000 in
theorem proofElse_walk (W : World) (hT : Tabs W) (v0 : Value) (l0 : List Pr) (z0 : Prs (whole W) v0 l0) (v1 : Value) (l1 : By) (z1 : Bs (whole W) v1 l1) (v2 : Value) (l2 : By) (z2 : Bs (whole W) v2 l2) :
    Calls Tryd.prog 13 #[v0, v1, v2] W (Tells W (.bool true)) := by
 obtain ⟨i5, hi5, hz5, hs5, hb5⟩ := info_parts infoU8
 obtain ⟨a0, c0, rfl, q0, q0'⟩ := Sl.shape z0
 obtain ⟨a1, c1, rfl, _⟩ := z1.shape
 obtain ⟨a2, c2, rfl, _⟩ := z2.shape
 have S := St.start (Sat.whole W)
 go_enter Tryd.func13, Tryd.ntmps13
 refine wp_seq_k (fun K101 hK101 => region_wl ?_)
 refine do_ rfl (.bool false) (ex_assign _) ?_
 simp only [pS, pN, pA, pC, pZ]
 refine wl_nil (hK101 _ _ ?_)
 refine wp_seq_k (fun K102 hK102 => region_wl ?_)
 refine do_ rfl (.slice a0 l0.length c0) (ex_move _) ?_
 simp only [pS, pN, pA, pC, pZ]
 refine stGivesO PrC.mono S rfl (ex_fn (vs := #[(.slice a0 l0.length c0), (.int .i64 20)]) (map2 rfl rfl) rfl (ent_24 _ _)) (pairs_spec _ _ _ l0 20 (S).sat z0 (by omega)) ?_
 intro v107 w103 F105 S104 le106
 simp only [pS, pN, pA, pC, pZ]
 have S104 : St W (whole W) w103 F105 [] [ownP 2 PrC PrC.mono 38 W.heap.size v107 (pairsN l0 20)] := S104
 obtain ⟨F108, S109, le110, hv111⟩ := St.freeze S104 (i := 0) rfl (Nat.le_refl _)
 have S109 : St W (whole W) w103 F108 [] [] := S109
 have hv111 : Prs _ v107 (pairsN l0 20) := hv111
 obtain ⟨a112, c113, rfl, h114, h115⟩ := Sl.shape hv111
 unfold maxLen at h115
 refine do_ rfl (.slice a112 (pairsN l0 20).length c113) (ex_assign _) ?_
 simp only [pS, pN, pA, pC, pZ]
 refine wl_nil (hK102 _ _ ?_)
 refine wp_seq_k (fun K116 hK116 => ?_)
 have hok := pairsN_ok l0 20
 refine region_wl ?_
 refine do_ rfl (.slice a1 l1.length c1) (ex_move _) ?_
 simp only [pS, pN, pA, pC, pZ]
 refine stGives S109 rfl (ex_fn (vs := #[(.slice a1 l1.length c1)]) (map1 rfl) rfl (ent_21 _ _)) (key_spec _ _ _ l1 (S109).sat (z1.mono (le106.trans le110))) ?_
 intro v122 w117 F119 S118 le120 R121
 obtain ⟨xa123, xc124, rfl, _⟩ := R121.shape
 simp only [pS, pN, pA, pC, pZ]
 refine do_ rfl (.slice xa123 (keyL l1).length xc124) (ex_assign _) ?_
 simp only [pS, pN, pA, pC, pZ]
 refine wl_nil (hK116 _ _ ?_)
 refine wp_seq_k (fun K125 hK125 => region_wl ?_)
 refine do_ rfl (.slice a2 l2.length c2) (ex_move _) ?_
 simp only [pS, pN, pA, pC, pZ]
 refine stGives S118 rfl (ex_fn (vs := #[(.slice a2 l2.length c2)]) (map1 rfl) rfl (ent_21 _ _)) (key_spec _ _ _ l2 (S118).sat (z2.mono ((le106.trans le110).trans le120))) ?_
 intro v131 w126 F128 S127 le129 R130
 obtain ⟨xa132, xc133, rfl, _⟩ := R130.shape
 simp only [pS, pN, pA, pC, pZ]
 refine do_ rfl (.slice xa132 (keyL l2).length xc133) (ex_assign _) ?_
 simp only [pS, pN, pA, pC, pZ]
 refine wl_nil (hK125 _ _ ?_)
 refine wp_seq_k (fun K134 hK134 => region_wl ?_)
 refine do_ rfl (.slice a112 (pairsN l0 20).length c113) (ex_move _) ?_
 simp only [pS, pN, pA, pC, pZ]
 refine stGives S127 rfl (ex_fn (vs := #[(.slice a112 (pairsN l0 20).length c113)]) (map1 rfl) rfl (ent_22 _ _)) (Root_spec _ _ _ (pairsN l0 20) (S127).sat (hT.at S127.gr.below) (hv111.mono (le120.trans le129)) (TreeOk.mono (show TreeOk 20 (pairsN l0 20) from pairsN_ok l0 20) (by omega))) ?_
 intro v140 w135 F137 S136 le138 R139
 obtain ⟨x141, rfl, r142⟩ := R139
 obtain ⟨xa143, xc144, rfl, _⟩ := r142.shape
 have r142 : Bs _ (.slice xa143 (rootT (pairsN l0 20)).length xc144) (rootT (pairsN l0 20)) := r142
 simp only [pS, pN, pA, pC, pZ]
 refine do_ rfl (.tuple #[(.slice xa143 (rootT (pairsN l0 20)).length xc144), (.int .i64 0)]) (ex_move _) ?_
 simp only [pS, pN, pA, pC, pZ]
 refine do_ rfl (.slice xa143 (rootT (pairsN l0 20)).length xc144) (ex_extract rfl rfl) ?_
 simp only [pS, pN, pA, pC, pZ]
 refine do_ rfl (.int .i64 0) (ex_extract rfl rfl) ?_
 simp only [pS, pN, pA, pC, pZ]
 refine do_ rfl (.slice xa143 (rootT (pairsN l0 20)).length xc144) (ex_assign _) ?_
 simp only [pS, pN, pA, pC, pZ]
 refine do_ rfl (.int .i64 0) (ex_assign _) ?_
 simp only [pS, pN, pA, pC, pZ]
 refine wl_nil (hK134 _ _ ?_)
 refine wp_seq_k (fun K145 hK145 => region_wl ?_)
 refine do_ rfl (.slice a112 (pairsN l0 20).length c113) (ex_move _) ?_
 simp only [pS, pN, pA, pC, pZ]
 refine do_ rfl (.slice xa123 (keyL l1).length xc124) (ex_move _) ?_
 simp only [pS, pN, pA, pC, pZ]
 refine stGivesPrf S136 rfl (ex_fn (vs := #[(.slice a112 (pairsN l0 20).length c113), (.slice xa123 (keyL l1).length xc124)]) (map2 rfl rfl) rfl (ent_27 _ _)) (prove_spec _ _ _ _ (pairsN l0 20) (keyL l1) (S136).sat (hT.at S136.gr.below) (hv111.mono ((le120.trans le129).trans le138)) (R121.mono (le129.trans le138)) (hok.mono (by omega)) (keyL_len l1)) ?_
 intro v146 ka147 kc148 va149 vc150 w151 F152 S153 le154 r155 r156
 simp only [pS, pN, pA, pC, pZ]
 have S153 : St W (whole W) w151 F152 [] [ownP 3 StpC StpC.mono 73 W.heap.size v146 ((proveT (pairsN l0 20) (keyL l1)).steps)] := S153
 obtain ⟨a157, cap158, rfl, h159, h160⟩ := (S153.own (i := 0) rfl).shape
 unfold maxLen at h160
 obtain ⟨F161, S162, le163, hv164⟩ := St.freeze S153 (i := 0) rfl (Nat.le_refl _)
 have S162 : St W (whole W) w151 F161 [] [] := S162
 have hv164 : Stps _ (.slice a157 ((proveT (pairsN l0 20) (keyL l1)).steps).length cap158) ((proveT (pairsN l0 20) (keyL l1)).steps) := hv164
 refine do_ rfl (.tuple #[(.agg #[(.bool (proveT (pairsN l0 20) (keyL l1)).empty), (.slice a157 ((proveT (pairsN l0 20) (keyL l1)).steps).length cap158), (.slice ka147 (proveT (pairsN l0 20) (keyL l1)).pair.1.length kc148), (.slice va149 (proveT (pairsN l0 20) (keyL l1)).pair.2.length vc150)]), (.int .i64 0)]) (ex_move _) ?_
 simp only [pS, pN, pA, pC, pZ]
 refine do_ rfl (.agg #[(.bool (proveT (pairsN l0 20) (keyL l1)).empty), (.slice a157 ((proveT (pairsN l0 20) (keyL l1)).steps).length cap158), (.slice ka147 (proveT (pairsN l0 20) (keyL l1)).pair.1.length kc148), (.slice va149 (proveT (pairsN l0 20) (keyL l1)).pair.2.length vc150)]) (ex_extract rfl rfl) ?_
 simp only [pS, pN, pA, pC, pZ]
 refine do_ rfl (.int .i64 0) (ex_extract rfl rfl) ?_
 simp only [pS, pN, pA, pC, pZ]
 refine stNew S162 (v := fun n => .pointer (some ⟨n, 0, none⟩)) rfl (ex_alloc (zero_52 _)) (fun n165 w166 S167 => ?_)
 simp only [pS, pN, pA, pC, pZ]
 have S167 : St W (whole W) w166 F161 [⟨n165, [(.bool false), (.slice none 0 0), (.slice none 0 0), (.slice none 0 0)], 52⟩] [] := S167
 refine stStore (i := 0) (v := (.agg #[(.bool (proveT (pairsN l0 20) (keyL l1)).empty), (.slice a157 ((proveT (pairsN l0 20) (keyL l1)).steps).length cap158), (.slice ka147 (proveT (pairsN l0 20) (keyL l1)).pair.1.length kc148), (.slice va149 (proveT (pairsN l0 20) (keyL l1)).pair.2.length vc150)])) S167 rfl rfl rfl rfl (size_52) (allc4 rfl rfl rfl rfl) (Nat.le_of_ble_eq_true rfl) (fun w168 S169 => ?_)
 simp only [pS, pN, pA, pC, pZ]
 have S169 : St W (whole W) w168 F161 [⟨n165, [(.bool (proveT (pairsN l0 20) (keyL l1)).empty), (.slice a157 ((proveT (pairsN l0 20) (keyL l1)).steps).length cap158), (.slice ka147 (proveT (pairsN l0 20) (keyL l1)).pair.1.length kc148), (.slice va149 (proveT (pairsN l0 20) (keyL l1)).pair.2.length vc150)], 52⟩] [] := S169
 refine do_ rfl (.int .i64 0) (ex_assign _) ?_
 simp only [pS, pN, pA, pC, pZ]
 refine wl_nil (hK145 _ _ ?_)
 refine wp_seq_k (fun K170 hK170 => ?_)
 by_cases hcb : checkP (keyL l2) (proveT (pairsN l0 20) (keyL l1)) = true
 ·refine region_wl ?_
  refine do_ rfl (.slice xa143 (rootT (pairsN l0 20)).length xc144) (ex_move _) ?_
  simp only [pS, pN, pA, pC, pZ]
  refine do_ rfl (.slice xa132 (keyL l2).length xc133) (ex_move _) ?_
  simp only [pS, pN, pA, pC, pZ]
  refine do_ rfl (.agg #[(.bool (proveT (pairsN l0 20) (keyL l1)).empty), (.slice a157 ((proveT (pairsN l0 20) (keyL l1)).steps).length cap158), (.slice ka147 (proveT (pairsN l0 20) (keyL l1)).pair.1.length kc148), (.slice va149 (proveT (pairsN l0 20) (keyL l1)).pair.2.length vc150)]) (ex_load rfl (loadN (cs := [(.bool (proveT (pairsN l0 20) (keyL l1)).empty), (.slice a157 ((proveT (pairsN l0 20) (keyL l1)).steps).length cap158), (.slice ka147 (proveT (pairsN l0 20) (keyL l1)).pair.1.length kc148), (.slice va149 (proveT (pairsN l0 20) (keyL l1)).pair.2.length vc150)]) Tryd.underlying52 rfl (size_52) (St.range S169 (i := 0) rfl 0 [(.bool (proveT (pairsN l0 20) (keyL l1)).empty), (.slice a157 ((proveT (pairsN l0 20) (keyL l1)).steps).length cap158), (.slice ka147 (proveT (pairsN l0 20) (keyL l1)).pair.1.length kc148), (.slice va149 (proveT (pairsN l0 20) (keyL l1)).pair.2.length vc150)] (sub_range 0 rfl)))) ?_
  simp only [pS, pN, pA, pC, pZ]
  refine stGives S169 rfl (ex_fn (vs := #[(.slice xa143 (rootT (pairsN l0 20)).length xc144), (.slice xa132 (keyL l2).length xc133), (.agg #[(.bool (proveT (pairsN l0 20) (keyL l1)).empty), (.slice a157 ((proveT (pairsN l0 20) (keyL l1)).steps).length cap158), (.slice ka147 (proveT (pairsN l0 20) (keyL l1)).pair.1.length kc148), (.slice va149 (proveT (pairsN l0 20) (keyL l1)).pair.2.length vc150)])]) (map3 rfl rfl rfl) rfl (ent_32 _ _)) (verifyIs_spec _ _ _ _ _ (rootT (pairsN l0 20)) (keyL l2) (proveT (pairsN l0 20) (keyL l1)) (o := (getT (pairsN l0 20) (keyL l2))) (S169).sat (hT.at S169.gr.below) (r142.mono (le154.trans le163)) (R130.mono ((le138.trans le154).trans le163)) ⟨_, _, _, _, _, _, rfl, hv164, (r155.mono le163), (r156.mono le163)⟩ (by rw [rootT_len]) (keyL_len l2) (prove_ok hok (by omega) (keyL l1)) hcb (prove_up hok (keyL l1)) (prove_tells hok (keyL l1) (keyL l2) hcb)) ?_
  intro v176 w171 F173 S172 le174 R175
  obtain ⟨_, rfl, a177, c178, rfl, r179⟩ := R175
  have r179 : Bs _ (.slice a177 ((getT (pairsN l0 20) (keyL l2)).getD []).length c178) ((getT (pairsN l0 20) (keyL l2)).getD []) := r179
  simp only [pS, pN, pA, pC, pZ]
  refine do_ rfl (.tuple #[(.agg #[(.bool (getT (pairsN l0 20) (keyL l2)).isSome), (.slice a177 ((getT (pairsN l0 20) (keyL l2)).getD []).length c178)]), (.int .i64 0)]) (ex_move _) ?_
  simp only [pS, pN, pA, pC, pZ]
  refine do_ rfl (.agg #[(.bool (getT (pairsN l0 20) (keyL l2)).isSome), (.slice a177 ((getT (pairsN l0 20) (keyL l2)).getD []).length c178)]) (ex_extract rfl rfl) ?_
  simp only [pS, pN, pA, pC, pZ]
  refine do_ rfl (.int .i64 0) (ex_extract rfl rfl) ?_
  simp only [pS, pN, pA, pC, pZ]
  refine stNew S172 (v := fun n => .pointer (some ⟨n, 0, none⟩)) rfl (ex_alloc (zero_65 _)) (fun n180 w181 S182 => ?_)
  simp only [pS, pN, pA, pC, pZ]
  have S182 : St W (whole W) w181 F173 [⟨n180, [(.bool false), (.slice none 0 0)], 65⟩, ⟨n165, [(.bool (proveT (pairsN l0 20) (keyL l1)).empty), (.slice a157 ((proveT (pairsN l0 20) (keyL l1)).steps).length cap158), (.slice ka147 (proveT (pairsN l0 20) (keyL l1)).pair.1.length kc148), (.slice va149 (proveT (pairsN l0 20) (keyL l1)).pair.2.length vc150)], 52⟩] [] := S182
  refine stStore (i := 0) (v := (.agg #[(.bool (getT (pairsN l0 20) (keyL l2)).isSome), (.slice a177 ((getT (pairsN l0 20) (keyL l2)).getD []).length c178)])) S182 rfl rfl rfl rfl (size_65) (allc2 rfl rfl) (Nat.le_of_ble_eq_true rfl) (fun w183 S184 => ?_)
  simp only [pS, pN, pA, pC, pZ]
  have S184 : St W (whole W) w183 F173 [⟨n180, [(.bool (getT (pairsN l0 20) (keyL l2)).isSome), (.slice a177 ((getT (pairsN l0 20) (keyL l2)).getD []).length c178)], 65⟩, ⟨n165, [(.bool (proveT (pairsN l0 20) (keyL l1)).empty), (.slice a157 ((proveT (pairsN l0 20) (keyL l1)).steps).length cap158), (.slice ka147 (proveT (pairsN l0 20) (keyL l1)).pair.1.length kc148), (.slice va149 (proveT (pairsN l0 20) (keyL l1)).pair.2.length vc150)], 52⟩] [] := S184
  refine do_ rfl (.int .i64 0) (ex_assign _) ?_
  simp only [pS, pN, pA, pC, pZ]
  refine wl_nil (hK170 _ _ ?_)
  refine wp_seq_k (fun K185 hK185 => region_wl ?_)
  refine do_ rfl (.slice a112 (pairsN l0 20).length c113) (ex_move _) ?_
  simp only [pS, pN, pA, pC, pZ]
  refine do_ rfl (.slice xa132 (keyL l2).length xc133) (ex_move _) ?_
  simp only [pS, pN, pA, pC, pZ]
  refine stGives S184 rfl (ex_fn (vs := #[(.slice a112 (pairsN l0 20).length c113), (.slice xa132 (keyL l2).length xc133)]) (map2 rfl rfl) rfl (ent_33 _ _)) (getIs_spec _ _ _ _ (pairsN l0 20) (keyL l2) (S184).sat (hv111.mono (((((le120.trans le129).trans le138).trans le154).trans le163).trans le174)) (R130.mono (((le138.trans le154).trans le163).trans le174)) (TreeOk.mono (show TreeOk 20 (pairsN l0 20) from pairsN_ok l0 20) (by omega)) (keyL_len l2) (rfl)) ?_
  intro v191 w186 F188 S187 le189 R190
  obtain ⟨_, rfl, a192, c193, rfl, r194⟩ := R190
  have r194 : Bs _ (.slice a192 ((getT (pairsN l0 20) (keyL l2)).getD []).length c193) ((getT (pairsN l0 20) (keyL l2)).getD []) := r194
  simp only [pS, pN, pA, pC, pZ]
  refine do_ rfl (.tuple #[(.agg #[(.bool (getT (pairsN l0 20) (keyL l2)).isSome), (.slice a192 ((getT (pairsN l0 20) (keyL l2)).getD []).length c193)]), (.int .i64 0)]) (ex_move _) ?_
  simp only [pS, pN, pA, pC, pZ]
  refine do_ rfl (.agg #[(.bool (getT (pairsN l0 20) (keyL l2)).isSome), (.slice a192 ((getT (pairsN l0 20) (keyL l2)).getD []).length c193)]) (ex_extract rfl rfl) ?_
  simp only [pS, pN, pA, pC, pZ]
  refine do_ rfl (.int .i64 0) (ex_extract rfl rfl) ?_
  simp only [pS, pN, pA, pC, pZ]
  refine stNew S187 (v := fun n => .pointer (some ⟨n, 0, none⟩)) rfl (ex_alloc (zero_65 _)) (fun n195 w196 S197 => ?_)
  simp only [pS, pN, pA, pC, pZ]
  have S197 : St W (whole W) w196 F188 [⟨n195, [(.bool false), (.slice none 0 0)], 65⟩, ⟨n180, [(.bool (getT (pairsN l0 20) (keyL l2)).isSome), (.slice a177 ((getT (pairsN l0 20) (keyL l2)).getD []).length c178)], 65⟩, ⟨n165, [(.bool (proveT (pairsN l0 20) (keyL l1)).empty), (.slice a157 ((proveT (pairsN l0 20) (keyL l1)).steps).length cap158), (.slice ka147 (proveT (pairsN l0 20) (keyL l1)).pair.1.length kc148), (.slice va149 (proveT (pairsN l0 20) (keyL l1)).pair.2.length vc150)], 52⟩] [] := S197
  refine stStore (i := 0) (v := (.agg #[(.bool (getT (pairsN l0 20) (keyL l2)).isSome), (.slice a192 ((getT (pairsN l0 20) (keyL l2)).getD []).length c193)])) S197 rfl rfl rfl rfl (size_65) (allc2 rfl rfl) (Nat.le_of_ble_eq_true rfl) (fun w198 S199 => ?_)
  simp only [pS, pN, pA, pC, pZ]
  have S199 : St W (whole W) w198 F188 [⟨n195, [(.bool (getT (pairsN l0 20) (keyL l2)).isSome), (.slice a192 ((getT (pairsN l0 20) (keyL l2)).getD []).length c193)], 65⟩, ⟨n180, [(.bool (getT (pairsN l0 20) (keyL l2)).isSome), (.slice a177 ((getT (pairsN l0 20) (keyL l2)).getD []).length c178)], 65⟩, ⟨n165, [(.bool (proveT (pairsN l0 20) (keyL l1)).empty), (.slice a157 ((proveT (pairsN l0 20) (keyL l1)).steps).length cap158), (.slice ka147 (proveT (pairsN l0 20) (keyL l1)).pair.1.length kc148), (.slice va149 (proveT (pairsN l0 20) (keyL l1)).pair.2.length vc150)], 52⟩] [] := S199
  refine do_ rfl (.int .i64 0) (ex_assign _) ?_
  simp only [pS, pN, pA, pC, pZ]
  refine wl_nil (hK185 _ _ ?_)
  refine wp_seq_k (fun K200 hK200 => ?_)
  refine wp_seq_k (fun K201 hK201 => region_wl ?_)
  refine do_ rfl (.int .i64 0) (ex_move _) ?_
  simp only [pS, pN, pA, pC, pZ]
  refine do_ rfl (.bool false) (ex_neq (b := false) rfl rfl (by decide)) ?_
  simp only [pS, pN, pA, pC, pZ]
  refine do_ rfl (.bool false) (ex_move _) ?_
  simp only [pS, pN, pA, pC, pZ]
  refine do_ rfl (.int .i64 0) (ex_move _) ?_
  simp only [pS, pN, pA, pC, pZ]
  refine do_ rfl (.bool false) (ex_neq (b := false) rfl rfl (by decide)) ?_
  simp only [pS, pN, pA, pC, pZ]
  refine do_ rfl (.bool false) (ex_pick (b := false) rfl) ?_
  simp only [pS, pN, pA, pC, pZ]
  refine do_ rfl (.bool false) (ex_move _) ?_
  simp only [pS, pN, pA, pC, pZ]
  refine do_ rfl (.int .i64 0) (ex_move _) ?_
  simp only [pS, pN, pA, pC, pZ]
  refine do_ rfl (.bool false) (ex_neq (b := false) rfl rfl (by decide)) ?_
  simp only [pS, pN, pA, pC, pZ]
  refine do_ rfl (.bool false) (ex_pick (b := false) rfl) ?_
  simp only [pS, pN, pA, pC, pZ]
  refine do_ rfl (.bool false) (ex_move _) ?_
  simp only [pS, pN, pA, pC, pZ]
  refine do_ rfl (.slice xa143 (rootT (pairsN l0 20)).length xc144) (ex_move _) ?_
  simp only [pS, pN, pA, pC, pZ]
  refine do_ rfl (.int .i64 (((rootT (pairsN l0 20)).length : Nat) : Int)) (ex_len Tryd.underlying22 rfl) ?_
  simp only [pS, pN, pA, pC, pZ]
  refine do_ rfl (.bool false) (ex_neq (m := (((rootT (pairsN l0 20)).length : Nat) : Int)) (n := (32 : Int)) (b := false) rfl rfl (bne_eq_false_iff_eq.2 (by rw [rootT_len]; rfl))) ?_
  simp only [pS, pN, pA, pC, pZ]
  refine do_ rfl (.bool false) (ex_pick (b := false) rfl) ?_
  simp only [pS, pN, pA, pC, pZ]
  refine wl_nil (hK201 _ _ ?_)
  refine wp_cond_false rfl ?_
  refine wp_skip ?_
  refine hK200 _ _ ?_
  refine wp_seq_k (fun K202 hK202 => ?_)
  refine wp_seq_k (fun K203 hK203 => region_wl ?_)
  refine do_ rfl (.int .i64 0) (ex_move _) ?_
  simp only [pS, pN, pA, pC, pZ]
  refine do_ rfl (.bool false) (ex_neq (b := false) rfl rfl (by decide)) ?_
  simp only [pS, pN, pA, pC, pZ]
  refine wl_nil (hK203 _ _ ?_)
  refine wp_cond_false rfl ?_
  refine wp_skip ?_
  refine hK202 _ _ ?_
  refine wp_seq_k (fun K204 hK204 => region_wl ?_)
  refine do_ rfl (.pointer (some ⟨n180, 0, none⟩)) (ex_field (q := ⟨n180, 0, none⟩) rfl (fa_65_0 _ _)) ?_
  simp only [pS, pN, pA, pC, pZ]
  refine do_ rfl (.bool (getT (pairsN l0 20) (keyL l2)).isSome) (ex_load rfl (load1 (nagg_4 _) (St.cell S199 (i := 1) rfl rfl))) ?_
  simp only [pS, pN, pA, pC, pZ]
  refine do_ rfl (.pointer (some ⟨n195, 0, none⟩)) (ex_field (q := ⟨n195, 0, none⟩) rfl (fa_65_0 _ _)) ?_
  simp only [pS, pN, pA, pC, pZ]
  refine do_ rfl (.bool (getT (pairsN l0 20) (keyL l2)).isSome) (ex_load rfl (load1 (nagg_4 _) (St.cell S199 (i := 0) rfl rfl))) ?_
  simp only [pS, pN, pA, pC, pZ]
  refine do_ rfl (.bool true) (ex_eqlB Tryd.underlying4 rfl rfl (beq_self_eq_true _)) ?_
  simp only [pS, pN, pA, pC, pZ]
  refine do_ rfl (.bool true) (ex_move _) ?_
  simp only [pS, pN, pA, pC, pZ]
  refine do_ rfl (.pointer (some ⟨n180, 1, none⟩)) (ex_field (q := ⟨n180, 1, none⟩) rfl (fa_65_1 _ _)) ?_
  simp only [pS, pN, pA, pC, pZ]
  refine do_ rfl (.slice a177 ((getT (pairsN l0 20) (keyL l2)).getD []).length c178) (ex_load rfl (load1 (nagg_22 _) (St.cell S199 (i := 1) rfl rfl))) ?_
  simp only [pS, pN, pA, pC, pZ]
  refine do_ rfl (.pointer (some ⟨n195, 1, none⟩)) (ex_field (q := ⟨n195, 1, none⟩) rfl (fa_65_1 _ _)) ?_
  simp only [pS, pN, pA, pC, pZ]
  refine do_ rfl (.slice a192 ((getT (pairsN l0 20) (keyL l2)).getD []).length c193) (ex_load rfl (load1 (nagg_22 _) (St.cell S199 (i := 0) rfl rfl))) ?_
  simp only [pS, pN, pA, pC, pZ]
  refine stTells (v := (.bool true)) S199 rfl (ex_fn (vs := #[(.slice a177 ((getT (pairsN l0 20) (keyL l2)).getD []).length c178), (.slice a192 ((getT (pairsN l0 20) (keyL l2)).getD []).length c193)]) (map2 rfl rfl) rfl (ent_16 _ _)) (tells_bool (tells_same (same_spec _ _ _ _ ((getT (pairsN l0 20) (keyL l2)).getD []) ((getT (pairsN l0 20) (keyL l2)).getD []) (S199).sat (r179.mono le189) r194)) (beq_iff_eq.2 (rfl))) (fun w205 S206 => ?_)
  simp only [pS, pN, pA, pC, pZ]
  refine do_ rfl (.bool true) (ex_pick (b := true) rfl) ?_
  simp only [pS, pN, pA, pC, pZ]
  refine do_ rfl (.bool true) (ex_assign _) ?_
  simp only [pS, pN, pA, pC, pZ]
  refine wl_nil (hK204 _ _ ?_)
  refine wp_ret ?_
  (try simp only [Exit.then, Exit.inBlock, ↓reduceIte, Nat.reduceEqDiff])
  refine bodyPost_ret (v := (.bool true)) ?_ rfl ?_
  ·exact res_t rfl rfl
  ·exact ⟨rfl, S206.gr.below⟩
 ·have hcb := Bool.eq_false_iff.2 hcb
  refine region_wl ?_
  refine do_ rfl (.slice xa143 (rootT (pairsN l0 20)).length xc144) (ex_move _) ?_
  simp only [pS, pN, pA, pC, pZ]
  refine do_ rfl (.slice xa132 (keyL l2).length xc133) (ex_move _) ?_
  simp only [pS, pN, pA, pC, pZ]
  refine do_ rfl (.agg #[(.bool (proveT (pairsN l0 20) (keyL l1)).empty), (.slice a157 ((proveT (pairsN l0 20) (keyL l1)).steps).length cap158), (.slice ka147 (proveT (pairsN l0 20) (keyL l1)).pair.1.length kc148), (.slice va149 (proveT (pairsN l0 20) (keyL l1)).pair.2.length vc150)]) (ex_load rfl (loadN (cs := [(.bool (proveT (pairsN l0 20) (keyL l1)).empty), (.slice a157 ((proveT (pairsN l0 20) (keyL l1)).steps).length cap158), (.slice ka147 (proveT (pairsN l0 20) (keyL l1)).pair.1.length kc148), (.slice va149 (proveT (pairsN l0 20) (keyL l1)).pair.2.length vc150)]) Tryd.underlying52 rfl (size_52) (St.range S169 (i := 0) rfl 0 [(.bool (proveT (pairsN l0 20) (keyL l1)).empty), (.slice a157 ((proveT (pairsN l0 20) (keyL l1)).steps).length cap158), (.slice ka147 (proveT (pairsN l0 20) (keyL l1)).pair.1.length kc148), (.slice va149 (proveT (pairsN l0 20) (keyL l1)).pair.2.length vc150)] (sub_range 0 rfl)))) ?_
  simp only [pS, pN, pA, pC, pZ]
  refine stTells (v := (.tuple #[(.agg #[(.bool false), (.slice none 0 0)]), (.int .i64 4)])) S169 rfl (ex_fn (vs := #[(.slice xa143 (rootT (pairsN l0 20)).length xc144), (.slice xa132 (keyL l2).length xc133), (.agg #[(.bool (proveT (pairsN l0 20) (keyL l1)).empty), (.slice a157 ((proveT (pairsN l0 20) (keyL l1)).steps).length cap158), (.slice ka147 (proveT (pairsN l0 20) (keyL l1)).pair.1.length kc148), (.slice va149 (proveT (pairsN l0 20) (keyL l1)).pair.2.length vc150)])]) (map3 rfl rfl rfl) rfl (ent_32 _ _)) (verifyBad_spec _ _ _ _ _ (rootT (pairsN l0 20)) (keyL l2) (proveT (pairsN l0 20) (keyL l1)) (S169).sat (hT.at S169.gr.below) (r142.mono (le154.trans le163)) (R130.mono ((le138.trans le154).trans le163)) ⟨_, _, _, _, _, _, rfl, hv164, (r155.mono le163), (r156.mono le163)⟩ (by rw [rootT_len]) (keyL_len l2) (prove_ok hok (by omega) (keyL l1)) hcb) (fun w207 S208 => ?_)
  simp only [pS, pN, pA, pC, pZ]
  refine do_ rfl (.tuple #[(.agg #[(.bool false), (.slice none 0 0)]), (.int .i64 4)]) (ex_move _) ?_
  simp only [pS, pN, pA, pC, pZ]
  refine do_ rfl (.agg #[(.bool false), (.slice none 0 0)]) (ex_extract rfl rfl) ?_
  simp only [pS, pN, pA, pC, pZ]
  refine do_ rfl (.int .i64 4) (ex_extract rfl rfl) ?_
  simp only [pS, pN, pA, pC, pZ]
  refine stNew S208 (v := fun n => .pointer (some ⟨n, 0, none⟩)) rfl (ex_alloc (zero_65 _)) (fun n209 w210 S211 => ?_)
  simp only [pS, pN, pA, pC, pZ]
  have S211 : St W (whole W) w210 F161 [⟨n209, [(.bool false), (.slice none 0 0)], 65⟩, ⟨n165, [(.bool (proveT (pairsN l0 20) (keyL l1)).empty), (.slice a157 ((proveT (pairsN l0 20) (keyL l1)).steps).length cap158), (.slice ka147 (proveT (pairsN l0 20) (keyL l1)).pair.1.length kc148), (.slice va149 (proveT (pairsN l0 20) (keyL l1)).pair.2.length vc150)], 52⟩] [] := S211
  refine stStore (i := 0) (v := (.agg #[(.bool false), (.slice none 0 0)])) S211 rfl rfl rfl rfl (size_65) (allc2 rfl rfl) (Nat.le_of_ble_eq_true rfl) (fun w212 S213 => ?_)
  simp only [pS, pN, pA, pC, pZ]
  have S213 : St W (whole W) w212 F161 [⟨n209, [(.bool false), (.slice none 0 0)], 65⟩, ⟨n165, [(.bool (proveT (pairsN l0 20) (keyL l1)).empty), (.slice a157 ((proveT (pairsN l0 20) (keyL l1)).steps).length cap158), (.slice ka147 (proveT (pairsN l0 20) (keyL l1)).pair.1.length kc148), (.slice va149 (proveT (pairsN l0 20) (keyL l1)).pair.2.length vc150)], 52⟩] [] := S213
  refine do_ rfl (.int .i64 4) (ex_assign _) ?_
  simp only [pS, pN, pA, pC, pZ]
  refine wl_nil (hK170 _ _ ?_)
  refine wp_seq_k (fun K214 hK214 => region_wl ?_)
  refine do_ rfl (.slice a112 (pairsN l0 20).length c113) (ex_move _) ?_
  simp only [pS, pN, pA, pC, pZ]
  refine do_ rfl (.slice xa132 (keyL l2).length xc133) (ex_move _) ?_
  simp only [pS, pN, pA, pC, pZ]
  refine stGives S213 rfl (ex_fn (vs := #[(.slice a112 (pairsN l0 20).length c113), (.slice xa132 (keyL l2).length xc133)]) (map2 rfl rfl) rfl (ent_33 _ _)) (getIs_spec _ _ _ _ (pairsN l0 20) (keyL l2) (S213).sat (hv111.mono ((((le120.trans le129).trans le138).trans le154).trans le163)) (R130.mono ((le138.trans le154).trans le163)) (TreeOk.mono (show TreeOk 20 (pairsN l0 20) from pairsN_ok l0 20) (by omega)) (keyL_len l2) (rfl)) ?_
  intro v220 w215 F217 S216 le218 R219
  obtain ⟨_, rfl, a221, c222, rfl, r223⟩ := R219
  have r223 : Bs _ (.slice a221 ((getT (pairsN l0 20) (keyL l2)).getD []).length c222) ((getT (pairsN l0 20) (keyL l2)).getD []) := r223
  simp only [pS, pN, pA, pC, pZ]
  refine do_ rfl (.tuple #[(.agg #[(.bool (getT (pairsN l0 20) (keyL l2)).isSome), (.slice a221 ((getT (pairsN l0 20) (keyL l2)).getD []).length c222)]), (.int .i64 0)]) (ex_move _) ?_
  simp only [pS, pN, pA, pC, pZ]
  refine do_ rfl (.agg #[(.bool (getT (pairsN l0 20) (keyL l2)).isSome), (.slice a221 ((getT (pairsN l0 20) (keyL l2)).getD []).length c222)]) (ex_extract rfl rfl) ?_
  simp only [pS, pN, pA, pC, pZ]
  refine do_ rfl (.int .i64 0) (ex_extract rfl rfl) ?_
  simp only [pS, pN, pA, pC, pZ]
  refine stNew S216 (v := fun n => .pointer (some ⟨n, 0, none⟩)) rfl (ex_alloc (zero_65 _)) (fun n224 w225 S226 => ?_)
  simp only [pS, pN, pA, pC, pZ]
  have S226 : St W (whole W) w225 F217 [⟨n224, [(.bool false), (.slice none 0 0)], 65⟩, ⟨n209, [(.bool false), (.slice none 0 0)], 65⟩, ⟨n165, [(.bool (proveT (pairsN l0 20) (keyL l1)).empty), (.slice a157 ((proveT (pairsN l0 20) (keyL l1)).steps).length cap158), (.slice ka147 (proveT (pairsN l0 20) (keyL l1)).pair.1.length kc148), (.slice va149 (proveT (pairsN l0 20) (keyL l1)).pair.2.length vc150)], 52⟩] [] := S226
  refine stStore (i := 0) (v := (.agg #[(.bool (getT (pairsN l0 20) (keyL l2)).isSome), (.slice a221 ((getT (pairsN l0 20) (keyL l2)).getD []).length c222)])) S226 rfl rfl rfl rfl (size_65) (allc2 rfl rfl) (Nat.le_of_ble_eq_true rfl) (fun w227 S228 => ?_)
  simp only [pS, pN, pA, pC, pZ]
  have S228 : St W (whole W) w227 F217 [⟨n224, [(.bool (getT (pairsN l0 20) (keyL l2)).isSome), (.slice a221 ((getT (pairsN l0 20) (keyL l2)).getD []).length c222)], 65⟩, ⟨n209, [(.bool false), (.slice none 0 0)], 65⟩, ⟨n165, [(.bool (proveT (pairsN l0 20) (keyL l1)).empty), (.slice a157 ((proveT (pairsN l0 20) (keyL l1)).steps).length cap158), (.slice ka147 (proveT (pairsN l0 20) (keyL l1)).pair.1.length kc148), (.slice va149 (proveT (pairsN l0 20) (keyL l1)).pair.2.length vc150)], 52⟩] [] := S228
  refine do_ rfl (.int .i64 0) (ex_assign _) ?_
  simp only [pS, pN, pA, pC, pZ]
  refine wl_nil (hK214 _ _ ?_)
  refine wp_seq_k (fun K229 hK229 => ?_)
  refine wp_seq_k (fun K230 hK230 => region_wl ?_)
  refine do_ rfl (.int .i64 0) (ex_move _) ?_
  simp only [pS, pN, pA, pC, pZ]
  refine do_ rfl (.bool false) (ex_neq (b := false) rfl rfl (by decide)) ?_
  simp only [pS, pN, pA, pC, pZ]
  refine do_ rfl (.bool false) (ex_move _) ?_
  simp only [pS, pN, pA, pC, pZ]
  refine do_ rfl (.int .i64 0) (ex_move _) ?_
  simp only [pS, pN, pA, pC, pZ]
  refine do_ rfl (.bool false) (ex_neq (b := false) rfl rfl (by decide)) ?_
  simp only [pS, pN, pA, pC, pZ]
  refine do_ rfl (.bool false) (ex_pick (b := false) rfl) ?_
  simp only [pS, pN, pA, pC, pZ]
  refine do_ rfl (.bool false) (ex_move _) ?_
  simp only [pS, pN, pA, pC, pZ]
  refine do_ rfl (.int .i64 0) (ex_move _) ?_
  simp only [pS, pN, pA, pC, pZ]
  refine do_ rfl (.bool false) (ex_neq (b := false) rfl rfl (by decide)) ?_
  simp only [pS, pN, pA, pC, pZ]
  refine do_ rfl (.bool false) (ex_pick (b := false) rfl) ?_
  simp only [pS, pN, pA, pC, pZ]
  refine do_ rfl (.bool false) (ex_move _) ?_
  simp only [pS, pN, pA, pC, pZ]
  refine do_ rfl (.slice xa143 (rootT (pairsN l0 20)).length xc144) (ex_move _) ?_
  simp only [pS, pN, pA, pC, pZ]
  refine do_ rfl (.int .i64 (((rootT (pairsN l0 20)).length : Nat) : Int)) (ex_len Tryd.underlying22 rfl) ?_
  simp only [pS, pN, pA, pC, pZ]
  refine do_ rfl (.bool false) (ex_neq (m := (((rootT (pairsN l0 20)).length : Nat) : Int)) (n := (32 : Int)) (b := false) rfl rfl (bne_eq_false_iff_eq.2 (by rw [rootT_len]; rfl))) ?_
  simp only [pS, pN, pA, pC, pZ]
  refine do_ rfl (.bool false) (ex_pick (b := false) rfl) ?_
  simp only [pS, pN, pA, pC, pZ]
  refine wl_nil (hK230 _ _ ?_)
  refine wp_cond_false rfl ?_
  refine wp_skip ?_
  refine hK229 _ _ ?_
  refine wp_seq_k (fun K231 hK231 => ?_)
  refine wp_seq_k (fun K232 hK232 => region_wl ?_)
  refine do_ rfl (.int .i64 4) (ex_move _) ?_
  simp only [pS, pN, pA, pC, pZ]
  refine do_ rfl (.bool true) (ex_neq (b := true) rfl rfl (by decide)) ?_
  simp only [pS, pN, pA, pC, pZ]
  refine wl_nil (hK232 _ _ ?_)
  refine wp_cond_true rfl ?_
  refine wp_seq_k (fun K233 hK233 => region_wl ?_)
  refine do_ rfl (.int .i64 4) (ex_move _) ?_
  simp only [pS, pN, pA, pC, pZ]
  refine do_ rfl (.bool true) (ex_eql (b := true) rfl rfl (by decide)) ?_
  simp only [pS, pN, pA, pC, pZ]
  refine do_ rfl (.bool true) (ex_move _) ?_
  simp only [pS, pN, pA, pC, pZ]
  refine do_ rfl (.slice xa132 (keyL l2).length xc133) (ex_move _) ?_
  simp only [pS, pN, pA, pC, pZ]
  refine do_ rfl (.agg #[(.bool (proveT (pairsN l0 20) (keyL l1)).empty), (.slice a157 ((proveT (pairsN l0 20) (keyL l1)).steps).length cap158), (.slice ka147 (proveT (pairsN l0 20) (keyL l1)).pair.1.length kc148), (.slice va149 (proveT (pairsN l0 20) (keyL l1)).pair.2.length vc150)]) (ex_load rfl (loadN (cs := [(.bool (proveT (pairsN l0 20) (keyL l1)).empty), (.slice a157 ((proveT (pairsN l0 20) (keyL l1)).steps).length cap158), (.slice ka147 (proveT (pairsN l0 20) (keyL l1)).pair.1.length kc148), (.slice va149 (proveT (pairsN l0 20) (keyL l1)).pair.2.length vc150)]) Tryd.underlying52 rfl (size_52) (St.range S228 (i := 2) rfl 0 [(.bool (proveT (pairsN l0 20) (keyL l1)).empty), (.slice a157 ((proveT (pairsN l0 20) (keyL l1)).steps).length cap158), (.slice ka147 (proveT (pairsN l0 20) (keyL l1)).pair.1.length kc148), (.slice va149 (proveT (pairsN l0 20) (keyL l1)).pair.2.length vc150)] (sub_range 0 rfl)))) ?_
  simp only [pS, pN, pA, pC, pZ]
  refine stTells (v := (.int .i64 4)) S228 rfl (ex_fn (vs := #[(.slice xa132 (keyL l2).length xc133), (.agg #[(.bool (proveT (pairsN l0 20) (keyL l1)).empty), (.slice a157 ((proveT (pairsN l0 20) (keyL l1)).steps).length cap158), (.slice ka147 (proveT (pairsN l0 20) (keyL l1)).pair.1.length kc148), (.slice va149 (proveT (pairsN l0 20) (keyL l1)).pair.2.length vc150)])]) (map2 rfl rfl) rfl (ent_34 _ _)) (checkP_spec _ _ _ _ (keyL l2) (proveT (pairsN l0 20) (keyL l1)) (S228).sat (R130.mono (((le138.trans le154).trans le163).trans le218)) ⟨_, _, _, _, _, _, rfl, (hv164.mono le218), (r155.mono (le163.trans le218)), (r156.mono (le163.trans le218))⟩ (keyL_len l2) (prove_ok hok (by omega) (keyL l1)) hcb) (fun w234 S235 => ?_)
  simp only [pS, pN, pA, pC, pZ]
  refine do_ rfl (.bool true) (ex_eql (b := true) rfl rfl (by decide)) ?_
  simp only [pS, pN, pA, pC, pZ]
  refine do_ rfl (.bool true) (ex_pick (b := true) rfl) ?_
  simp only [pS, pN, pA, pC, pZ]
  refine do_ rfl (.bool true) (ex_assign _) ?_
  simp only [pS, pN, pA, pC, pZ]
  refine wl_nil (hK233 _ _ ?_)
  refine wp_ret ?_
  (try simp only [Exit.then, Exit.inBlock, ↓reduceIte, Nat.reduceEqDiff])
  refine bodyPost_ret (v := (.bool true)) ?_ rfl ?_
  ·exact res_t rfl rfl
  ·exact ⟨rfl, S235.gr.below⟩
end Go.Proofs.YtcanckliggcllaaDoor
