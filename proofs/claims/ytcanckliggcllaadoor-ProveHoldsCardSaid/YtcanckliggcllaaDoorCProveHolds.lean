/- The walk of ProveHolds -/
import Derived.Test.YtcanckliggcllaaDoorBZ7
import Derived.Test.YtcanckliggcllaaDoorBZ4
namespace Go.Proofs.YtcanckliggcllaaDoor
open Go.RowKit
set_option maxRecDepth 100000
set_option linter.unusedVariables false
set_option linter.unusedSimpArgs false
theorem stGivesPrf {P : Program} {ops : Array Oper} {Q : Exit → Act → World → Prop} {a : Act} {rest : List Oper} {o : Oper} {kf : FuncId} {vs : Array Value} {w0 w : World} {F0 F : Fz} {L : List Blk} {M : List RowP} {p : Prf} (S : St w0 F0 w F L M) (hw : Region.wanted o (yielded ops a.tmps) = true)
    (hr : (execOp a.eval o).run P w = .ok (.enter kf vs) w) (hc : Calls P kf vs w (GivesPrf w F p))
    (h : ∀ v ka kc va vc w' F', St w0 F0 w' F' L (ownP 3 StpC StpC.mono 73 w0.heap.size v p.steps :: M) → Le F F' → Bs F' (.slice ka p.pair.1.length kc) p.pair.1 → Bs F' (.slice va p.pair.2.length vc) p.pair.2 → WL P ops Q rest (a.put o.dst (.tuple #[.agg #[.bool p.empty, v, .slice ka p.pair.1.length kc, .slice va p.pair.2.length vc], .int .i64 0])) w') : WL P ops Q (o :: rest) a w :=
  doC hw hr hc fun e w' ⟨v, ka, kc, va, vc, F', he, g, ho, h1, h2⟩ => ⟨_, he, h v ka kc va vc w' F' (S.addRow g ho) (g.le S.sat) h1 h2⟩
theorem prove_steps {n : Nat} {l : List Pr} (ok : TreeOk n l) (k : By) : StpsOk (proveT l k).steps ∧ (∀ s ∈ (proveT l k).steps, bitL k s.bit = s.right ∧ bitL (proveT l k).pair.1 s.bit = s.right) ∧ (proveT l k).steps.length ≤ l.length ∧ (2 ≤ l.length → 0 < (proveT l k).steps.length) ∧ (l ≠ [] → (proveT l k).empty = false ∧ (proveT l k).pair ∈ l) := by
  unfold proveT
  by_cases e : l = []
  · rw [if_pos e]; subst e; exact ⟨fun s hs => by simp at hs, fun s hs => by simp at hs, by simp, by simp, fun h => absurd rfl h⟩
  · rw [if_neg e]
    have h1 := List.length_pos_iff.2 e
    have hr := steps_rise l.length l k 0 ok.keys h1 (fun p _ q _ j hj => by omega)
    have hso : ∀ {B : Nat} {s : List Stp}, RiseS B s → StpsOk s := by
      intro B s
      induction s generalizing B with
      | nil => intro _ x hx; simp at hx
      | cons x s ih =>
        intro h y hy
        obtain ⟨_, h2, h3, h4⟩ := h
        rcases List.mem_cons.1 hy with rfl | hy
        · exact ⟨h2, h3⟩
        · exact ih h4 y hy
    refine ⟨hso hr, steps_way l.length l k ok.keys h1, by have := steps_len l.length l k ok.keys h1; simp only; omega, fun h2 => ?_, fun _ => ⟨rfl, steps_pair l.length l k ok.keys h1⟩⟩
    simp only
    match hl : l.length, h1 with
    | n + 1, _ => unfold stepsN; rw [if_neg (by omega)]; simp
theorem stp_len {F : Fz} {v : Value} {p : Prf} (h : Stps F v p.steps) : True := trivial
theorem way_all {k pk : By} {s : List Stp} {b : Int} (h : wayB k pk b s = true) : ∀ x ∈ s, bitL k x.bit = x.right ∧ bitL pk x.bit = x.right := wayB_way h
theorem way_rise {k pk : By} : ∀ {l : List Stp} {b : Int} {q : Stp}, wayB k pk b (l ++ [q]) = true → ∀ s ∈ l, s.bit < q.bit
  | [], _, _, _, s, hs => by simp at hs
  | x :: l, b, q, h, s, hs => by
    rw [List.cons_append, wayB] at h
    simp only [Bool.and_eq_true] at h
    have key : ∀ {l : List Stp} {b : Int} {q : Stp}, wayB k pk b (l ++ [q]) = true → b < q.bit := by
      intro l
      induction l with
      | nil => intro b q h; simp [wayB] at h; omega
      | cons y l ih => intro b q h; rw [List.cons_append, wayB] at h; simp only [Bool.and_eq_true, decide_eq_true_eq] at h; have := ih h.2; omega
    rcases List.mem_cons.1 hs with rfl | hs
    · have := key h.2; omega
    · exact way_rise h.2 s hs
theorem prove_ok {n : Nat} {l : List Pr} (ok : TreeOk n l) (hn : n ≤ 60) (k : By) : PrfOk (proveT l k) := by
  have h := prove_steps ok k
  by_cases e : l = []
  · subst e; exact .inl ⟨rfl, rfl, rfl⟩
  · obtain ⟨h1, h2⟩ := h.2.2.2.2 e
    exact .inr ⟨h1, (sub_ok ok (List.singleton_sublist.2 h2)).mono hn, h.1, by have := h.2.2.1; have := ok.len; omega⟩
theorem prove_empty {l : List Pr} (k : By) : (proveT l k).empty = decide (l.length = 0) := by
  unfold proveT
  by_cases e : l = []
  · subst e; rfl
  · rw [if_neg e, decide_eq_false (fun h => e (List.length_eq_zero_iff.1 h))]
theorem verifyIs_spec (F : Fz) (w : World) (v u z : Value) (r k : By) (p : Prf) {o : Option By} (hs : Sat w F) (hT : Tabs w) (hr : Bs F z r) (hu : Bs F u k) (hv : PrfV F v p) (hr32 : r.length = 32) (hk : 1 ≤ k.length ∧ k.length ≤ 16) (ok : PrfOk p) (hc : checkP k p = true) (hup : upT p = r) (ho : tellP k p = o) :
    Calls Tryd.prog 32 #[z, u, v] w (Gives w F (GetR o 0)) := ho ▸ verify_spec F w v u z r k p hs hT hr hu hv hr32 hk ok hc hup
set_option maxHeartbeats 8000000 in
theorem proveHolds_walk (W : World) (hT : Tabs W) (v0 : Value) (l0 : List Pr) (z0 : Prs (whole W) v0 l0) (v1 : Value) (l1 : By) (z1 : Bs (whole W) v1 l1) :
    Calls Tryd.prog 10 #[v0, v1] W (Tells W (.bool true)) := by
 obtain ⟨i5, hi5, hz5, hs5, hb5⟩ := info_parts infoU8
 obtain ⟨a0, c0, rfl, q0, q0'⟩ := Sl.shape z0
 obtain ⟨a1, c1, rfl, _⟩ := z1.shape
 have S := St.start (Sat.whole W)
 go_enter Tryd.func10, Tryd.ntmps10
 refine wp_seq_k (fun K101 hK101 => region_wl ?_)
 refine do_ rfl (.bool false) (ex_assign _) ?_
 simp only [pS, pN, pA, pC, pZ]
 refine wl_nil (hK101 _ _ ?_)
 refine wp_seq_k (fun K102 hK102 => region_wl ?_)
 refine do_ rfl (.slice a0 l0.length c0) (ex_move _) ?_
 simp only [pS, pN, pA, pC, pZ]
 refine stGivesO PrC.mono S rfl (ex_fn (vs := #[(.slice a0 l0.length c0), (.int .i64 20)]) (map2 rfl rfl) rfl (ent_24 _ _)) (pairs_spec _ _ _ l0 20 (S).sat z0 (by omega)) ?_
 intro v107 w103 F105 S104 le106
 simp only [pS, pN, pA, pC, pZ]
 have S104 : St W (whole W) w103 F105 [] [ownP 2 PrC PrC.mono 38 W.heap.size v107 (pairsN l0 20)] := S104
 obtain ⟨F108, S109, le110, hv111⟩ := St.freeze S104 (i := 0) rfl (Nat.le_refl _)
 have S109 : St W (whole W) w103 F108 [] [] := S109
 have hv111 : Prs _ v107 (pairsN l0 20) := hv111
 obtain ⟨a112, c113, rfl, h114, h115⟩ := Sl.shape hv111
 unfold maxLen at h115
 refine do_ rfl (.slice a112 (pairsN l0 20).length c113) (ex_assign _) ?_
 simp only [pS, pN, pA, pC, pZ]
 refine wl_nil (hK102 _ _ ?_)
 refine wp_seq_k (fun K116 hK116 => ?_)
 have hok := pairsN_ok l0 20
 refine region_wl ?_
 refine do_ rfl (.slice a1 l1.length c1) (ex_move _) ?_
 simp only [pS, pN, pA, pC, pZ]
 refine stGives S109 rfl (ex_fn (vs := #[(.slice a1 l1.length c1)]) (map1 rfl) rfl (ent_21 _ _)) (key_spec _ _ _ l1 (S109).sat (z1.mono (le106.trans le110))) ?_
 intro v122 w117 F119 S118 le120 R121
 obtain ⟨xa123, xc124, rfl, _⟩ := R121.shape
 simp only [pS, pN, pA, pC, pZ]
 refine do_ rfl (.slice xa123 (keyL l1).length xc124) (ex_assign _) ?_
 simp only [pS, pN, pA, pC, pZ]
 refine wl_nil (hK116 _ _ ?_)
 refine wp_seq_k (fun K125 hK125 => region_wl ?_)
 refine do_ rfl (.slice a112 (pairsN l0 20).length c113) (ex_move _) ?_
 simp only [pS, pN, pA, pC, pZ]
 refine stGives S118 rfl (ex_fn (vs := #[(.slice a112 (pairsN l0 20).length c113)]) (map1 rfl) rfl (ent_22 _ _)) (Root_spec _ _ _ (pairsN l0 20) (S118).sat (hT.at S118.gr.below) (hv111.mono le120) (TreeOk.mono (show TreeOk 20 (pairsN l0 20) from pairsN_ok l0 20) (by omega))) ?_
 intro v131 w126 F128 S127 le129 R130
 obtain ⟨x132, rfl, r133⟩ := R130
 obtain ⟨xa134, xc135, rfl, _⟩ := r133.shape
 have r133 : Bs _ (.slice xa134 (rootT (pairsN l0 20)).length xc135) (rootT (pairsN l0 20)) := r133
 simp only [pS, pN, pA, pC, pZ]
 refine do_ rfl (.tuple #[(.slice xa134 (rootT (pairsN l0 20)).length xc135), (.int .i64 0)]) (ex_move _) ?_
 simp only [pS, pN, pA, pC, pZ]
 refine do_ rfl (.slice xa134 (rootT (pairsN l0 20)).length xc135) (ex_extract rfl rfl) ?_
 simp only [pS, pN, pA, pC, pZ]
 refine do_ rfl (.int .i64 0) (ex_extract rfl rfl) ?_
 simp only [pS, pN, pA, pC, pZ]
 refine do_ rfl (.slice xa134 (rootT (pairsN l0 20)).length xc135) (ex_assign _) ?_
 simp only [pS, pN, pA, pC, pZ]
 refine do_ rfl (.int .i64 0) (ex_assign _) ?_
 simp only [pS, pN, pA, pC, pZ]
 refine wl_nil (hK125 _ _ ?_)
 refine wp_seq_k (fun K136 hK136 => region_wl ?_)
 refine do_ rfl (.slice a112 (pairsN l0 20).length c113) (ex_move _) ?_
 simp only [pS, pN, pA, pC, pZ]
 refine do_ rfl (.slice xa123 (keyL l1).length xc124) (ex_move _) ?_
 simp only [pS, pN, pA, pC, pZ]
 refine stGivesPrf S127 rfl (ex_fn (vs := #[(.slice a112 (pairsN l0 20).length c113), (.slice xa123 (keyL l1).length xc124)]) (map2 rfl rfl) rfl (ent_27 _ _)) (prove_spec _ _ _ _ (pairsN l0 20) (keyL l1) (S127).sat (hT.at S127.gr.below) (hv111.mono (le120.trans le129)) (R121.mono le129) (hok.mono (by omega)) (keyL_len l1)) ?_
 intro v137 ka138 kc139 va140 vc141 w142 F143 S144 le145 r146 r147
 simp only [pS, pN, pA, pC, pZ]
 have S144 : St W (whole W) w142 F143 [] [ownP 3 StpC StpC.mono 73 W.heap.size v137 ((proveT (pairsN l0 20) (keyL l1)).steps)] := S144
 obtain ⟨a148, cap149, rfl, h150, h151⟩ := (S144.own (i := 0) rfl).shape
 unfold maxLen at h151
 obtain ⟨F152, S153, le154, hv155⟩ := St.freeze S144 (i := 0) rfl (Nat.le_refl _)
 have S153 : St W (whole W) w142 F152 [] [] := S153
 have hv155 : Stps _ (.slice a148 ((proveT (pairsN l0 20) (keyL l1)).steps).length cap149) ((proveT (pairsN l0 20) (keyL l1)).steps) := hv155
 refine do_ rfl (.tuple #[(.agg #[(.bool (proveT (pairsN l0 20) (keyL l1)).empty), (.slice a148 ((proveT (pairsN l0 20) (keyL l1)).steps).length cap149), (.slice ka138 (proveT (pairsN l0 20) (keyL l1)).pair.1.length kc139), (.slice va140 (proveT (pairsN l0 20) (keyL l1)).pair.2.length vc141)]), (.int .i64 0)]) (ex_move _) ?_
 simp only [pS, pN, pA, pC, pZ]
 refine do_ rfl (.agg #[(.bool (proveT (pairsN l0 20) (keyL l1)).empty), (.slice a148 ((proveT (pairsN l0 20) (keyL l1)).steps).length cap149), (.slice ka138 (proveT (pairsN l0 20) (keyL l1)).pair.1.length kc139), (.slice va140 (proveT (pairsN l0 20) (keyL l1)).pair.2.length vc141)]) (ex_extract rfl rfl) ?_
 simp only [pS, pN, pA, pC, pZ]
 refine do_ rfl (.int .i64 0) (ex_extract rfl rfl) ?_
 simp only [pS, pN, pA, pC, pZ]
 refine stNew S153 (v := fun n => .pointer (some ⟨n, 0, none⟩)) rfl (ex_alloc (zero_52 _)) (fun n156 w157 S158 => ?_)
 simp only [pS, pN, pA, pC, pZ]
 have S158 : St W (whole W) w157 F152 [⟨n156, [(.bool false), (.slice none 0 0), (.slice none 0 0), (.slice none 0 0)], 52⟩] [] := S158
 refine stStore (i := 0) (v := (.agg #[(.bool (proveT (pairsN l0 20) (keyL l1)).empty), (.slice a148 ((proveT (pairsN l0 20) (keyL l1)).steps).length cap149), (.slice ka138 (proveT (pairsN l0 20) (keyL l1)).pair.1.length kc139), (.slice va140 (proveT (pairsN l0 20) (keyL l1)).pair.2.length vc141)])) S158 rfl rfl rfl rfl (size_52) (allc4 rfl rfl rfl rfl) (Nat.le_of_ble_eq_true rfl) (fun w159 S160 => ?_)
 simp only [pS, pN, pA, pC, pZ]
 have S160 : St W (whole W) w159 F152 [⟨n156, [(.bool (proveT (pairsN l0 20) (keyL l1)).empty), (.slice a148 ((proveT (pairsN l0 20) (keyL l1)).steps).length cap149), (.slice ka138 (proveT (pairsN l0 20) (keyL l1)).pair.1.length kc139), (.slice va140 (proveT (pairsN l0 20) (keyL l1)).pair.2.length vc141)], 52⟩] [] := S160
 refine do_ rfl (.int .i64 0) (ex_assign _) ?_
 simp only [pS, pN, pA, pC, pZ]
 refine wl_nil (hK136 _ _ ?_)
 refine wp_seq_k (fun K161 hK161 => region_wl ?_)
 refine do_ rfl (.slice xa134 (rootT (pairsN l0 20)).length xc135) (ex_move _) ?_
 simp only [pS, pN, pA, pC, pZ]
 refine do_ rfl (.slice xa123 (keyL l1).length xc124) (ex_move _) ?_
 simp only [pS, pN, pA, pC, pZ]
 refine do_ rfl (.agg #[(.bool (proveT (pairsN l0 20) (keyL l1)).empty), (.slice a148 ((proveT (pairsN l0 20) (keyL l1)).steps).length cap149), (.slice ka138 (proveT (pairsN l0 20) (keyL l1)).pair.1.length kc139), (.slice va140 (proveT (pairsN l0 20) (keyL l1)).pair.2.length vc141)]) (ex_load rfl (loadN (cs := [(.bool (proveT (pairsN l0 20) (keyL l1)).empty), (.slice a148 ((proveT (pairsN l0 20) (keyL l1)).steps).length cap149), (.slice ka138 (proveT (pairsN l0 20) (keyL l1)).pair.1.length kc139), (.slice va140 (proveT (pairsN l0 20) (keyL l1)).pair.2.length vc141)]) Tryd.underlying52 rfl (size_52) (St.range S160 (i := 0) rfl 0 [(.bool (proveT (pairsN l0 20) (keyL l1)).empty), (.slice a148 ((proveT (pairsN l0 20) (keyL l1)).steps).length cap149), (.slice ka138 (proveT (pairsN l0 20) (keyL l1)).pair.1.length kc139), (.slice va140 (proveT (pairsN l0 20) (keyL l1)).pair.2.length vc141)] (sub_range 0 rfl)))) ?_
 simp only [pS, pN, pA, pC, pZ]
 refine stGives S160 rfl (ex_fn (vs := #[(.slice xa134 (rootT (pairsN l0 20)).length xc135), (.slice xa123 (keyL l1).length xc124), (.agg #[(.bool (proveT (pairsN l0 20) (keyL l1)).empty), (.slice a148 ((proveT (pairsN l0 20) (keyL l1)).steps).length cap149), (.slice ka138 (proveT (pairsN l0 20) (keyL l1)).pair.1.length kc139), (.slice va140 (proveT (pairsN l0 20) (keyL l1)).pair.2.length vc141)])]) (map3 rfl rfl rfl) rfl (ent_32 _ _)) (verifyIs_spec _ _ _ _ _ (rootT (pairsN l0 20)) (keyL l1) (proveT (pairsN l0 20) (keyL l1)) (o := (getT (pairsN l0 20) (keyL l1))) (S160).sat (hT.at S160.gr.below) (r133.mono (le145.trans le154)) (R121.mono ((le129.trans le145).trans le154)) ⟨_, _, _, _, _, _, rfl, hv155, (r146.mono le154), (r147.mono le154)⟩ (by rw [rootT_len]) (keyL_len l1) (prove_ok hok (by omega) (keyL l1)) (prove_check hok (keyL l1)) (prove_up hok (keyL l1)) (prove_tells hok (keyL l1) (keyL l1) (prove_check hok (keyL l1)))) ?_
 intro v167 w162 F164 S163 le165 R166
 obtain ⟨_, rfl, a168, c169, rfl, r170⟩ := R166
 have r170 : Bs _ (.slice a168 ((getT (pairsN l0 20) (keyL l1)).getD []).length c169) ((getT (pairsN l0 20) (keyL l1)).getD []) := r170
 simp only [pS, pN, pA, pC, pZ]
 refine do_ rfl (.tuple #[(.agg #[(.bool (getT (pairsN l0 20) (keyL l1)).isSome), (.slice a168 ((getT (pairsN l0 20) (keyL l1)).getD []).length c169)]), (.int .i64 0)]) (ex_move _) ?_
 simp only [pS, pN, pA, pC, pZ]
 refine do_ rfl (.agg #[(.bool (getT (pairsN l0 20) (keyL l1)).isSome), (.slice a168 ((getT (pairsN l0 20) (keyL l1)).getD []).length c169)]) (ex_extract rfl rfl) ?_
 simp only [pS, pN, pA, pC, pZ]
 refine do_ rfl (.int .i64 0) (ex_extract rfl rfl) ?_
 simp only [pS, pN, pA, pC, pZ]
 refine stNew S163 (v := fun n => .pointer (some ⟨n, 0, none⟩)) rfl (ex_alloc (zero_65 _)) (fun n171 w172 S173 => ?_)
 simp only [pS, pN, pA, pC, pZ]
 have S173 : St W (whole W) w172 F164 [⟨n171, [(.bool false), (.slice none 0 0)], 65⟩, ⟨n156, [(.bool (proveT (pairsN l0 20) (keyL l1)).empty), (.slice a148 ((proveT (pairsN l0 20) (keyL l1)).steps).length cap149), (.slice ka138 (proveT (pairsN l0 20) (keyL l1)).pair.1.length kc139), (.slice va140 (proveT (pairsN l0 20) (keyL l1)).pair.2.length vc141)], 52⟩] [] := S173
 refine stStore (i := 0) (v := (.agg #[(.bool (getT (pairsN l0 20) (keyL l1)).isSome), (.slice a168 ((getT (pairsN l0 20) (keyL l1)).getD []).length c169)])) S173 rfl rfl rfl rfl (size_65) (allc2 rfl rfl) (Nat.le_of_ble_eq_true rfl) (fun w174 S175 => ?_)
 simp only [pS, pN, pA, pC, pZ]
 have S175 : St W (whole W) w174 F164 [⟨n171, [(.bool (getT (pairsN l0 20) (keyL l1)).isSome), (.slice a168 ((getT (pairsN l0 20) (keyL l1)).getD []).length c169)], 65⟩, ⟨n156, [(.bool (proveT (pairsN l0 20) (keyL l1)).empty), (.slice a148 ((proveT (pairsN l0 20) (keyL l1)).steps).length cap149), (.slice ka138 (proveT (pairsN l0 20) (keyL l1)).pair.1.length kc139), (.slice va140 (proveT (pairsN l0 20) (keyL l1)).pair.2.length vc141)], 52⟩] [] := S175
 refine do_ rfl (.int .i64 0) (ex_assign _) ?_
 simp only [pS, pN, pA, pC, pZ]
 refine wl_nil (hK161 _ _ ?_)
 refine wp_seq_k (fun K176 hK176 => region_wl ?_)
 refine do_ rfl (.slice a112 (pairsN l0 20).length c113) (ex_move _) ?_
 simp only [pS, pN, pA, pC, pZ]
 refine do_ rfl (.slice xa123 (keyL l1).length xc124) (ex_move _) ?_
 simp only [pS, pN, pA, pC, pZ]
 refine stGives S175 rfl (ex_fn (vs := #[(.slice a112 (pairsN l0 20).length c113), (.slice xa123 (keyL l1).length xc124)]) (map2 rfl rfl) rfl (ent_33 _ _)) (getIs_spec _ _ _ _ (pairsN l0 20) (keyL l1) (S175).sat (hv111.mono ((((le120.trans le129).trans le145).trans le154).trans le165)) (R121.mono (((le129.trans le145).trans le154).trans le165)) (TreeOk.mono (show TreeOk 20 (pairsN l0 20) from pairsN_ok l0 20) (by omega)) (keyL_len l1) (rfl)) ?_
 intro v182 w177 F179 S178 le180 R181
 obtain ⟨_, rfl, a183, c184, rfl, r185⟩ := R181
 have r185 : Bs _ (.slice a183 ((getT (pairsN l0 20) (keyL l1)).getD []).length c184) ((getT (pairsN l0 20) (keyL l1)).getD []) := r185
 simp only [pS, pN, pA, pC, pZ]
 refine do_ rfl (.tuple #[(.agg #[(.bool (getT (pairsN l0 20) (keyL l1)).isSome), (.slice a183 ((getT (pairsN l0 20) (keyL l1)).getD []).length c184)]), (.int .i64 0)]) (ex_move _) ?_
 simp only [pS, pN, pA, pC, pZ]
 refine do_ rfl (.agg #[(.bool (getT (pairsN l0 20) (keyL l1)).isSome), (.slice a183 ((getT (pairsN l0 20) (keyL l1)).getD []).length c184)]) (ex_extract rfl rfl) ?_
 simp only [pS, pN, pA, pC, pZ]
 refine do_ rfl (.int .i64 0) (ex_extract rfl rfl) ?_
 simp only [pS, pN, pA, pC, pZ]
 refine stNew S178 (v := fun n => .pointer (some ⟨n, 0, none⟩)) rfl (ex_alloc (zero_65 _)) (fun n186 w187 S188 => ?_)
 simp only [pS, pN, pA, pC, pZ]
 have S188 : St W (whole W) w187 F179 [⟨n186, [(.bool false), (.slice none 0 0)], 65⟩, ⟨n171, [(.bool (getT (pairsN l0 20) (keyL l1)).isSome), (.slice a168 ((getT (pairsN l0 20) (keyL l1)).getD []).length c169)], 65⟩, ⟨n156, [(.bool (proveT (pairsN l0 20) (keyL l1)).empty), (.slice a148 ((proveT (pairsN l0 20) (keyL l1)).steps).length cap149), (.slice ka138 (proveT (pairsN l0 20) (keyL l1)).pair.1.length kc139), (.slice va140 (proveT (pairsN l0 20) (keyL l1)).pair.2.length vc141)], 52⟩] [] := S188
 refine stStore (i := 0) (v := (.agg #[(.bool (getT (pairsN l0 20) (keyL l1)).isSome), (.slice a183 ((getT (pairsN l0 20) (keyL l1)).getD []).length c184)])) S188 rfl rfl rfl rfl (size_65) (allc2 rfl rfl) (Nat.le_of_ble_eq_true rfl) (fun w189 S190 => ?_)
 simp only [pS, pN, pA, pC, pZ]
 have S190 : St W (whole W) w189 F179 [⟨n186, [(.bool (getT (pairsN l0 20) (keyL l1)).isSome), (.slice a183 ((getT (pairsN l0 20) (keyL l1)).getD []).length c184)], 65⟩, ⟨n171, [(.bool (getT (pairsN l0 20) (keyL l1)).isSome), (.slice a168 ((getT (pairsN l0 20) (keyL l1)).getD []).length c169)], 65⟩, ⟨n156, [(.bool (proveT (pairsN l0 20) (keyL l1)).empty), (.slice a148 ((proveT (pairsN l0 20) (keyL l1)).steps).length cap149), (.slice ka138 (proveT (pairsN l0 20) (keyL l1)).pair.1.length kc139), (.slice va140 (proveT (pairsN l0 20) (keyL l1)).pair.2.length vc141)], 52⟩] [] := S190
 refine do_ rfl (.int .i64 0) (ex_assign _) ?_
 simp only [pS, pN, pA, pC, pZ]
 refine wl_nil (hK176 _ _ ?_)
 refine wp_seq_k (fun K191 hK191 => ?_)
 have hem := prove_empty (l := (pairsN l0 20)) (keyL l1)
 by_cases h0 : (pairsN l0 20).length = 0
 ·refine region_wl ?_
  refine do_ rfl (.int .i64 0) (ex_move _) ?_
  simp only [pS, pN, pA, pC, pZ]
  refine do_ rfl (.bool true) (ex_eql (b := true) rfl rfl (by decide)) ?_
  simp only [pS, pN, pA, pC, pZ]
  refine do_ rfl (.bool true) (ex_move _) ?_
  simp only [pS, pN, pA, pC, pZ]
  refine do_ rfl (.int .i64 0) (ex_move _) ?_
  simp only [pS, pN, pA, pC, pZ]
  refine do_ rfl (.bool true) (ex_eql (b := true) rfl rfl (by decide)) ?_
  simp only [pS, pN, pA, pC, pZ]
  refine do_ rfl (.bool true) (ex_pick (b := true) rfl) ?_
  simp only [pS, pN, pA, pC, pZ]
  refine do_ rfl (.bool true) (ex_move _) ?_
  simp only [pS, pN, pA, pC, pZ]
  refine do_ rfl (.int .i64 0) (ex_move _) ?_
  simp only [pS, pN, pA, pC, pZ]
  refine do_ rfl (.bool true) (ex_eql (b := true) rfl rfl (by decide)) ?_
  simp only [pS, pN, pA, pC, pZ]
  refine do_ rfl (.bool true) (ex_pick (b := true) rfl) ?_
  simp only [pS, pN, pA, pC, pZ]
  refine do_ rfl (.bool true) (ex_move _) ?_
  simp only [pS, pN, pA, pC, pZ]
  refine do_ rfl (.int .i64 0) (ex_move _) ?_
  simp only [pS, pN, pA, pC, pZ]
  refine do_ rfl (.bool true) (ex_eql (b := true) rfl rfl (by decide)) ?_
  simp only [pS, pN, pA, pC, pZ]
  refine do_ rfl (.bool true) (ex_pick (b := true) rfl) ?_
  simp only [pS, pN, pA, pC, pZ]
  refine do_ rfl (.bool true) (ex_move _) ?_
  simp only [pS, pN, pA, pC, pZ]
  refine do_ rfl (.pointer (some ⟨n171, 0, none⟩)) (ex_field (q := ⟨n171, 0, none⟩) rfl (fa_65_0 _ _)) ?_
  simp only [pS, pN, pA, pC, pZ]
  refine do_ rfl (.bool (getT (pairsN l0 20) (keyL l1)).isSome) (ex_load rfl (load1 (nagg_4 _) (St.cell S190 (i := 1) rfl rfl))) ?_
  simp only [pS, pN, pA, pC, pZ]
  refine do_ rfl (.pointer (some ⟨n186, 0, none⟩)) (ex_field (q := ⟨n186, 0, none⟩) rfl (fa_65_0 _ _)) ?_
  simp only [pS, pN, pA, pC, pZ]
  refine do_ rfl (.bool (getT (pairsN l0 20) (keyL l1)).isSome) (ex_load rfl (load1 (nagg_4 _) (St.cell S190 (i := 0) rfl rfl))) ?_
  simp only [pS, pN, pA, pC, pZ]
  refine do_ rfl (.bool true) (ex_eqlB Tryd.underlying4 rfl rfl (beq_self_eq_true _)) ?_
  simp only [pS, pN, pA, pC, pZ]
  refine do_ rfl (.bool true) (ex_pick (b := true) rfl) ?_
  simp only [pS, pN, pA, pC, pZ]
  refine do_ rfl (.bool true) (ex_move _) ?_
  simp only [pS, pN, pA, pC, pZ]
  refine do_ rfl (.pointer (some ⟨n171, 1, none⟩)) (ex_field (q := ⟨n171, 1, none⟩) rfl (fa_65_1 _ _)) ?_
  simp only [pS, pN, pA, pC, pZ]
  refine do_ rfl (.slice a168 ((getT (pairsN l0 20) (keyL l1)).getD []).length c169) (ex_load rfl (load1 (nagg_22 _) (St.cell S190 (i := 1) rfl rfl))) ?_
  simp only [pS, pN, pA, pC, pZ]
  refine do_ rfl (.pointer (some ⟨n186, 1, none⟩)) (ex_field (q := ⟨n186, 1, none⟩) rfl (fa_65_1 _ _)) ?_
  simp only [pS, pN, pA, pC, pZ]
  refine do_ rfl (.slice a183 ((getT (pairsN l0 20) (keyL l1)).getD []).length c184) (ex_load rfl (load1 (nagg_22 _) (St.cell S190 (i := 0) rfl rfl))) ?_
  simp only [pS, pN, pA, pC, pZ]
  refine stTells (v := (.bool true)) S190 rfl (ex_fn (vs := #[(.slice a168 ((getT (pairsN l0 20) (keyL l1)).getD []).length c169), (.slice a183 ((getT (pairsN l0 20) (keyL l1)).getD []).length c184)]) (map2 rfl rfl) rfl (ent_16 _ _)) (tells_bool (tells_same (same_spec _ _ _ _ ((getT (pairsN l0 20) (keyL l1)).getD []) ((getT (pairsN l0 20) (keyL l1)).getD []) (S190).sat (r170.mono le180) r185)) (beq_iff_eq.2 (rfl))) (fun w192 S193 => ?_)
  simp only [pS, pN, pA, pC, pZ]
  refine do_ rfl (.bool true) (ex_pick (b := true) rfl) ?_
  simp only [pS, pN, pA, pC, pZ]
  refine do_ rfl (.bool true) (ex_move _) ?_
  simp only [pS, pN, pA, pC, pZ]
  refine do_ rfl (.slice xa123 (keyL l1).length xc124) (ex_move _) ?_
  simp only [pS, pN, pA, pC, pZ]
  refine do_ rfl (.agg #[(.bool (proveT (pairsN l0 20) (keyL l1)).empty), (.slice a148 ((proveT (pairsN l0 20) (keyL l1)).steps).length cap149), (.slice ka138 (proveT (pairsN l0 20) (keyL l1)).pair.1.length kc139), (.slice va140 (proveT (pairsN l0 20) (keyL l1)).pair.2.length vc141)]) (ex_load rfl (loadN (cs := [(.bool (proveT (pairsN l0 20) (keyL l1)).empty), (.slice a148 ((proveT (pairsN l0 20) (keyL l1)).steps).length cap149), (.slice ka138 (proveT (pairsN l0 20) (keyL l1)).pair.1.length kc139), (.slice va140 (proveT (pairsN l0 20) (keyL l1)).pair.2.length vc141)]) Tryd.underlying52 rfl (size_52) (St.range S193 (i := 2) rfl 0 [(.bool (proveT (pairsN l0 20) (keyL l1)).empty), (.slice a148 ((proveT (pairsN l0 20) (keyL l1)).steps).length cap149), (.slice ka138 (proveT (pairsN l0 20) (keyL l1)).pair.1.length kc139), (.slice va140 (proveT (pairsN l0 20) (keyL l1)).pair.2.length vc141)] (sub_range 0 rfl)))) ?_
  simp only [pS, pN, pA, pC, pZ]
  refine stTells (v := (.int .i64 0)) S193 rfl (ex_fn (vs := #[(.slice xa123 (keyL l1).length xc124), (.agg #[(.bool (proveT (pairsN l0 20) (keyL l1)).empty), (.slice a148 ((proveT (pairsN l0 20) (keyL l1)).steps).length cap149), (.slice ka138 (proveT (pairsN l0 20) (keyL l1)).pair.1.length kc139), (.slice va140 (proveT (pairsN l0 20) (keyL l1)).pair.2.length vc141)])]) (map2 rfl rfl) rfl (ent_34 _ _)) (checkP_spec _ _ _ _ (keyL l1) (proveT (pairsN l0 20) (keyL l1)) (S193).sat (R121.mono ((((le129.trans le145).trans le154).trans le165).trans le180)) ⟨_, _, _, _, _, _, rfl, (hv155.mono (le165.trans le180)), (r146.mono ((le154.trans le165).trans le180)), (r147.mono ((le154.trans le165).trans le180))⟩ (keyL_len l1) (prove_ok hok (by omega) (keyL l1)) (prove_check hok (keyL l1))) (fun w194 S195 => ?_)
  simp only [pS, pN, pA, pC, pZ]
  refine do_ rfl (.bool true) (ex_eql (b := true) rfl rfl (by decide)) ?_
  simp only [pS, pN, pA, pC, pZ]
  refine do_ rfl (.bool true) (ex_pick (b := true) rfl) ?_
  simp only [pS, pN, pA, pC, pZ]
  refine do_ rfl (.bool true) (ex_move _) ?_
  simp only [pS, pN, pA, pC, pZ]
  refine do_ rfl (.pointer (some ⟨n156, 0, none⟩)) (ex_field (q := ⟨n156, 0, none⟩) rfl (fa_52_0 _ _)) ?_
  simp only [pS, pN, pA, pC, pZ]
  refine do_ rfl (.bool (proveT (pairsN l0 20) (keyL l1)).empty) (ex_load rfl (load1 (nagg_4 _) (St.cell S195 (i := 2) rfl rfl))) ?_
  simp only [pS, pN, pA, pC, pZ]
  refine do_ rfl (.slice a112 (pairsN l0 20).length c113) (ex_move _) ?_
  simp only [pS, pN, pA, pC, pZ]
  refine do_ rfl (.int .i64 (((pairsN l0 20).length : Nat) : Int)) (ex_len Tryd.underlying40 rfl) ?_
  simp only [pS, pN, pA, pC, pZ]
  refine do_ rfl (.bool true) (ex_eql (m := (((pairsN l0 20).length : Nat) : Int)) (n := (0 : Int)) (b := true) rfl rfl (beq_iff_eq.2 (by omega))) ?_
  simp only [pS, pN, pA, pC, pZ]
  refine do_ rfl (.bool true) (ex_eqlB Tryd.underlying4 rfl rfl (by rw [hem, decide_eq_true h0]; rfl)) ?_
  simp only [pS, pN, pA, pC, pZ]
  refine do_ rfl (.bool true) (ex_pick (b := true) rfl) ?_
  simp only [pS, pN, pA, pC, pZ]
  refine do_ rfl (.bool true) (ex_move _) ?_
  simp only [pS, pN, pA, pC, pZ]
  refine do_ rfl (.slice xa134 (rootT (pairsN l0 20)).length xc135) (ex_move _) ?_
  simp only [pS, pN, pA, pC, pZ]
  refine do_ rfl (.int .i64 (((rootT (pairsN l0 20)).length : Nat) : Int)) (ex_len Tryd.underlying22 rfl) ?_
  simp only [pS, pN, pA, pC, pZ]
  refine do_ rfl (.bool true) (ex_eql (m := (((rootT (pairsN l0 20)).length : Nat) : Int)) (n := (32 : Int)) (b := true) rfl rfl (beq_iff_eq.2 (by rw [rootT_len]; rfl))) ?_
  simp only [pS, pN, pA, pC, pZ]
  refine do_ rfl (.bool true) (ex_pick (b := true) rfl) ?_
  simp only [pS, pN, pA, pC, pZ]
  refine do_ rfl (.bool true) (ex_assign _) ?_
  simp only [pS, pN, pA, pC, pZ]
  refine wl_nil (hK191 _ _ ?_)
  refine wp_ret ?_
  (try simp only [Exit.then, Exit.inBlock, ↓reduceIte, Nat.reduceEqDiff])
  refine bodyPost_ret (v := (.bool true)) ?_ rfl ?_
  ·exact res_t rfl rfl
  ·exact ⟨rfl, S195.gr.below⟩
 ·refine region_wl ?_
  refine do_ rfl (.int .i64 0) (ex_move _) ?_
  simp only [pS, pN, pA, pC, pZ]
  refine do_ rfl (.bool true) (ex_eql (b := true) rfl rfl (by decide)) ?_
  simp only [pS, pN, pA, pC, pZ]
  refine do_ rfl (.bool true) (ex_move _) ?_
  simp only [pS, pN, pA, pC, pZ]
  refine do_ rfl (.int .i64 0) (ex_move _) ?_
  simp only [pS, pN, pA, pC, pZ]
  refine do_ rfl (.bool true) (ex_eql (b := true) rfl rfl (by decide)) ?_
  simp only [pS, pN, pA, pC, pZ]
  refine do_ rfl (.bool true) (ex_pick (b := true) rfl) ?_
  simp only [pS, pN, pA, pC, pZ]
  refine do_ rfl (.bool true) (ex_move _) ?_
  simp only [pS, pN, pA, pC, pZ]
  refine do_ rfl (.int .i64 0) (ex_move _) ?_
  simp only [pS, pN, pA, pC, pZ]
  refine do_ rfl (.bool true) (ex_eql (b := true) rfl rfl (by decide)) ?_
  simp only [pS, pN, pA, pC, pZ]
  refine do_ rfl (.bool true) (ex_pick (b := true) rfl) ?_
  simp only [pS, pN, pA, pC, pZ]
  refine do_ rfl (.bool true) (ex_move _) ?_
  simp only [pS, pN, pA, pC, pZ]
  refine do_ rfl (.int .i64 0) (ex_move _) ?_
  simp only [pS, pN, pA, pC, pZ]
  refine do_ rfl (.bool true) (ex_eql (b := true) rfl rfl (by decide)) ?_
  simp only [pS, pN, pA, pC, pZ]
  refine do_ rfl (.bool true) (ex_pick (b := true) rfl) ?_
  simp only [pS, pN, pA, pC, pZ]
  refine do_ rfl (.bool true) (ex_move _) ?_
  simp only [pS, pN, pA, pC, pZ]
  refine do_ rfl (.pointer (some ⟨n171, 0, none⟩)) (ex_field (q := ⟨n171, 0, none⟩) rfl (fa_65_0 _ _)) ?_
  simp only [pS, pN, pA, pC, pZ]
  refine do_ rfl (.bool (getT (pairsN l0 20) (keyL l1)).isSome) (ex_load rfl (load1 (nagg_4 _) (St.cell S190 (i := 1) rfl rfl))) ?_
  simp only [pS, pN, pA, pC, pZ]
  refine do_ rfl (.pointer (some ⟨n186, 0, none⟩)) (ex_field (q := ⟨n186, 0, none⟩) rfl (fa_65_0 _ _)) ?_
  simp only [pS, pN, pA, pC, pZ]
  refine do_ rfl (.bool (getT (pairsN l0 20) (keyL l1)).isSome) (ex_load rfl (load1 (nagg_4 _) (St.cell S190 (i := 0) rfl rfl))) ?_
  simp only [pS, pN, pA, pC, pZ]
  refine do_ rfl (.bool true) (ex_eqlB Tryd.underlying4 rfl rfl (beq_self_eq_true _)) ?_
  simp only [pS, pN, pA, pC, pZ]
  refine do_ rfl (.bool true) (ex_pick (b := true) rfl) ?_
  simp only [pS, pN, pA, pC, pZ]
  refine do_ rfl (.bool true) (ex_move _) ?_
  simp only [pS, pN, pA, pC, pZ]
  refine do_ rfl (.pointer (some ⟨n171, 1, none⟩)) (ex_field (q := ⟨n171, 1, none⟩) rfl (fa_65_1 _ _)) ?_
  simp only [pS, pN, pA, pC, pZ]
  refine do_ rfl (.slice a168 ((getT (pairsN l0 20) (keyL l1)).getD []).length c169) (ex_load rfl (load1 (nagg_22 _) (St.cell S190 (i := 1) rfl rfl))) ?_
  simp only [pS, pN, pA, pC, pZ]
  refine do_ rfl (.pointer (some ⟨n186, 1, none⟩)) (ex_field (q := ⟨n186, 1, none⟩) rfl (fa_65_1 _ _)) ?_
  simp only [pS, pN, pA, pC, pZ]
  refine do_ rfl (.slice a183 ((getT (pairsN l0 20) (keyL l1)).getD []).length c184) (ex_load rfl (load1 (nagg_22 _) (St.cell S190 (i := 0) rfl rfl))) ?_
  simp only [pS, pN, pA, pC, pZ]
  refine stTells (v := (.bool true)) S190 rfl (ex_fn (vs := #[(.slice a168 ((getT (pairsN l0 20) (keyL l1)).getD []).length c169), (.slice a183 ((getT (pairsN l0 20) (keyL l1)).getD []).length c184)]) (map2 rfl rfl) rfl (ent_16 _ _)) (tells_bool (tells_same (same_spec _ _ _ _ ((getT (pairsN l0 20) (keyL l1)).getD []) ((getT (pairsN l0 20) (keyL l1)).getD []) (S190).sat (r170.mono le180) r185)) (beq_iff_eq.2 (rfl))) (fun w196 S197 => ?_)
  simp only [pS, pN, pA, pC, pZ]
  refine do_ rfl (.bool true) (ex_pick (b := true) rfl) ?_
  simp only [pS, pN, pA, pC, pZ]
  refine do_ rfl (.bool true) (ex_move _) ?_
  simp only [pS, pN, pA, pC, pZ]
  refine do_ rfl (.slice xa123 (keyL l1).length xc124) (ex_move _) ?_
  simp only [pS, pN, pA, pC, pZ]
  refine do_ rfl (.agg #[(.bool (proveT (pairsN l0 20) (keyL l1)).empty), (.slice a148 ((proveT (pairsN l0 20) (keyL l1)).steps).length cap149), (.slice ka138 (proveT (pairsN l0 20) (keyL l1)).pair.1.length kc139), (.slice va140 (proveT (pairsN l0 20) (keyL l1)).pair.2.length vc141)]) (ex_load rfl (loadN (cs := [(.bool (proveT (pairsN l0 20) (keyL l1)).empty), (.slice a148 ((proveT (pairsN l0 20) (keyL l1)).steps).length cap149), (.slice ka138 (proveT (pairsN l0 20) (keyL l1)).pair.1.length kc139), (.slice va140 (proveT (pairsN l0 20) (keyL l1)).pair.2.length vc141)]) Tryd.underlying52 rfl (size_52) (St.range S197 (i := 2) rfl 0 [(.bool (proveT (pairsN l0 20) (keyL l1)).empty), (.slice a148 ((proveT (pairsN l0 20) (keyL l1)).steps).length cap149), (.slice ka138 (proveT (pairsN l0 20) (keyL l1)).pair.1.length kc139), (.slice va140 (proveT (pairsN l0 20) (keyL l1)).pair.2.length vc141)] (sub_range 0 rfl)))) ?_
  simp only [pS, pN, pA, pC, pZ]
  refine stTells (v := (.int .i64 0)) S197 rfl (ex_fn (vs := #[(.slice xa123 (keyL l1).length xc124), (.agg #[(.bool (proveT (pairsN l0 20) (keyL l1)).empty), (.slice a148 ((proveT (pairsN l0 20) (keyL l1)).steps).length cap149), (.slice ka138 (proveT (pairsN l0 20) (keyL l1)).pair.1.length kc139), (.slice va140 (proveT (pairsN l0 20) (keyL l1)).pair.2.length vc141)])]) (map2 rfl rfl) rfl (ent_34 _ _)) (checkP_spec _ _ _ _ (keyL l1) (proveT (pairsN l0 20) (keyL l1)) (S197).sat (R121.mono ((((le129.trans le145).trans le154).trans le165).trans le180)) ⟨_, _, _, _, _, _, rfl, (hv155.mono (le165.trans le180)), (r146.mono ((le154.trans le165).trans le180)), (r147.mono ((le154.trans le165).trans le180))⟩ (keyL_len l1) (prove_ok hok (by omega) (keyL l1)) (prove_check hok (keyL l1))) (fun w198 S199 => ?_)
  simp only [pS, pN, pA, pC, pZ]
  refine do_ rfl (.bool true) (ex_eql (b := true) rfl rfl (by decide)) ?_
  simp only [pS, pN, pA, pC, pZ]
  refine do_ rfl (.bool true) (ex_pick (b := true) rfl) ?_
  simp only [pS, pN, pA, pC, pZ]
  refine do_ rfl (.bool true) (ex_move _) ?_
  simp only [pS, pN, pA, pC, pZ]
  refine do_ rfl (.pointer (some ⟨n156, 0, none⟩)) (ex_field (q := ⟨n156, 0, none⟩) rfl (fa_52_0 _ _)) ?_
  simp only [pS, pN, pA, pC, pZ]
  refine do_ rfl (.bool (proveT (pairsN l0 20) (keyL l1)).empty) (ex_load rfl (load1 (nagg_4 _) (St.cell S199 (i := 2) rfl rfl))) ?_
  simp only [pS, pN, pA, pC, pZ]
  refine do_ rfl (.slice a112 (pairsN l0 20).length c113) (ex_move _) ?_
  simp only [pS, pN, pA, pC, pZ]
  refine do_ rfl (.int .i64 (((pairsN l0 20).length : Nat) : Int)) (ex_len Tryd.underlying40 rfl) ?_
  simp only [pS, pN, pA, pC, pZ]
  refine do_ rfl (.bool false) (ex_eql (m := (((pairsN l0 20).length : Nat) : Int)) (n := (0 : Int)) (b := false) rfl rfl (beq_eq_false_iff_ne.2 (by omega))) ?_
  simp only [pS, pN, pA, pC, pZ]
  refine do_ rfl (.bool true) (ex_eqlB Tryd.underlying4 rfl rfl (by rw [hem, decide_eq_false h0]; rfl)) ?_
  simp only [pS, pN, pA, pC, pZ]
  refine do_ rfl (.bool true) (ex_pick (b := true) rfl) ?_
  simp only [pS, pN, pA, pC, pZ]
  refine do_ rfl (.bool true) (ex_move _) ?_
  simp only [pS, pN, pA, pC, pZ]
  refine do_ rfl (.slice xa134 (rootT (pairsN l0 20)).length xc135) (ex_move _) ?_
  simp only [pS, pN, pA, pC, pZ]
  refine do_ rfl (.int .i64 (((rootT (pairsN l0 20)).length : Nat) : Int)) (ex_len Tryd.underlying22 rfl) ?_
  simp only [pS, pN, pA, pC, pZ]
  refine do_ rfl (.bool true) (ex_eql (m := (((rootT (pairsN l0 20)).length : Nat) : Int)) (n := (32 : Int)) (b := true) rfl rfl (beq_iff_eq.2 (by rw [rootT_len]; rfl))) ?_
  simp only [pS, pN, pA, pC, pZ]
  refine do_ rfl (.bool true) (ex_pick (b := true) rfl) ?_
  simp only [pS, pN, pA, pC, pZ]
  refine do_ rfl (.bool true) (ex_assign _) ?_
  simp only [pS, pN, pA, pC, pZ]
  refine wl_nil (hK191 _ _ ?_)
  refine wp_ret ?_
  (try simp only [Exit.then, Exit.inBlock, ↓reduceIte, Nat.reduceEqDiff])
  refine bodyPost_ret (v := (.bool true)) ?_ rfl ?_
  ·exact res_t rfl rfl
  ·exact ⟨rfl, S199.gr.below⟩
end Go.Proofs.YtcanckliggcllaaDoor
