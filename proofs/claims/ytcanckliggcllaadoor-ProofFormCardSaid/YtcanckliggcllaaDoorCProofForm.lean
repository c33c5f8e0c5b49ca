/- The walk of ProofForm -/
import Derived.Test.YtcanckliggcllaaDoorBV7
namespace Go.Proofs.YtcanckliggcllaaDoor
open Go.RowKit
set_option maxRecDepth 100000
set_option linter.unusedVariables false
set_option linter.unusedSimpArgs false
theorem stGivesPrf {P : Program} {ops : Array Oper} {Q : Exit → Act → World → Prop} {a : Act} {rest : List Oper} {o : Oper} {kf : FuncId} {vs : Array Value} {w0 w : World} {F0 F : Fz} {L : List Blk} {M : List RowP} {p : Prf} (S : St w0 F0 w F L M) (hw : Region.wanted o (yielded ops a.tmps) = true)
    (hr : (execOp a.eval o).run P w = .ok (.enter kf vs) w) (hc : Calls P kf vs w (GivesPrf w F p))
    (h : ∀ v ka kc va vc w' F', St w0 F0 w' F' L (ownP 3 StpC StpC.mono 73 w0.heap.size v p.steps :: M) → Le F F' → Bs F' (.slice ka p.pair.1.length kc) p.pair.1 → Bs F' (.slice va p.pair.2.length vc) p.pair.2 → WL P ops Q rest (a.put o.dst (.tuple #[.agg #[.bool p.empty, v, .slice ka p.pair.1.length kc, .slice va p.pair.2.length vc], .int .i64 0])) w') : WL P ops Q (o :: rest) a w :=
  doC hw hr hc fun e w' ⟨v, ka, kc, va, vc, F', he, g, ho, h1, h2⟩ => ⟨_, he, h v ka kc va vc w' F' (S.addRow g ho) (g.le S.sat) h1 h2⟩
theorem prove_steps {n : Nat} {l : List Pr} (ok : TreeOk n l) (k : By) : StpsOk (proveT l k).steps ∧ (∀ s ∈ (proveT l k).steps, bitL k s.bit = s.right ∧ bitL (proveT l k).pair.1 s.bit = s.right) ∧ (proveT l k).steps.length ≤ l.length ∧ (2 ≤ l.length → 0 < (proveT l k).steps.length) ∧ (l ≠ [] → (proveT l k).empty = false ∧ (proveT l k).pair ∈ l) := by
  unfold proveT
  by_cases e : l = []
  · rw [if_pos e]; subst e; exact ⟨fun s hs => by simp at hs, fun s hs => by simp at hs, by simp, by simp, fun h => absurd rfl h⟩
  · rw [if_neg e]
    have h1 := List.length_pos_iff.2 e
    have hr := steps_rise l.length l k 0 ok.keys h1 (fun p _ q _ j hj => by omega)
    have hso : ∀ {B : Nat} {s : List Stp}, RiseS B s → StpsOk s := by
      intro B s
      induction s generalizing B with
      | nil => intro _ x hx; simp at hx
      | cons x s ih =>
        intro h y hy
        obtain ⟨_, h2, h3, h4⟩ := h
        rcases List.mem_cons.1 hy with rfl | hy
        · exact ⟨h2, h3⟩
        · exact ih h4 y hy
    refine ⟨hso hr, steps_way l.length l k ok.keys h1, by have := steps_len l.length l k ok.keys h1; simp only; omega, fun h2 => ?_, fun _ => ⟨rfl, steps_pair l.length l k ok.keys h1⟩⟩
    simp only
    match hl : l.length, h1 with
    | n + 1, _ => unfold stepsN; rw [if_neg (by omega)]; simp
theorem stp_len {F : Fz} {v : Value} {p : Prf} (h : Stps F v p.steps) : True := trivial
theorem way_all {k pk : By} {s : List Stp} {b : Int} (h : wayB k pk b s = true) : ∀ x ∈ s, bitL k x.bit = x.right ∧ bitL pk x.bit = x.right := wayB_way h
theorem way_rise {k pk : By} : ∀ {l : List Stp} {b : Int} {q : Stp}, wayB k pk b (l ++ [q]) = true → ∀ s ∈ l, s.bit < q.bit
  | [], _, _, _, s, hs => by simp at hs
  | x :: l, b, q, h, s, hs => by
    rw [List.cons_append, wayB] at h
    simp only [Bool.and_eq_true] at h
    have key : ∀ {l : List Stp} {b : Int} {q : Stp}, wayB k pk b (l ++ [q]) = true → b < q.bit := by
      intro l
      induction l with
      | nil => intro b q h; simp [wayB] at h; omega
      | cons y l ih => intro b q h; rw [List.cons_append, wayB] at h; simp only [Bool.and_eq_true, decide_eq_true_eq] at h; have := ih h.2; omega
    rcases List.mem_cons.1 hs with rfl | hs
    · have := key h.2; omega
    · exact way_rise h.2 s hs
theorem hl_two {P : Program} {Q : Exit → Act → World → Prop} {F : Fz} {fuel : Nat} {listed : Array Bool} {a : Act} {w : World} {l : List Oper} {o1 o2 : Oper} (i j : Nat) (hr : Region.ready .any l.toArray listed = [i, j]) (hi : l[i]? = some o1) (hj : l[j]? = some o2)
    (h1 : WL P l.toArray (Exit.then (fun a' w' => Sat w' F ∧ Go.wpAnyH P .any l.toArray Q (fun w => Sat w F) fuel (listed.setIfInBounds i true) a' w') Q) [o1] a w)
    (h2 : WL P l.toArray (Exit.then (fun a' w' => Sat w' F ∧ Go.wpAnyH P .any l.toArray Q (fun w => Sat w F) fuel (listed.setIfInBounds j true) a' w') Q) [o2] a w) : HL P l.toArray Q F (fuel + 1) listed a w := by
  refine ⟨Go.wpAnyH_all hr (by simp) fun k hk => ?_⟩
  have key : ∀ (m : Nat) (o : Oper), l[m]? = some o → WL P l.toArray (Exit.then (fun a' w' => Sat w' F ∧ Go.wpAnyH P .any l.toArray Q (fun w => Sat w F) fuel (listed.setIfInBounds m true) a' w') Q) [o] a w → wpOp P l.toArray Q m (fun a' w' => Sat w' F ∧ Go.wpAnyH P .any l.toArray Q (fun w => Sat w F) fuel (listed.setIfInBounds m true) a' w') a w := by
    intro m o hm h
    have h1 := h.out
    unfold wpList at h1
    unfold wpOp
    have hi' : l.toArray[m]? = some o := by simpa using hm
    simp only [hi']
    split
    · rename_i hw
      rw [if_pos hw] at h1
      rcases h1 with h1 | h1
      · left
        refine Oper.wp_mono (fun a' w' hk => ?_) (Oper.wp_exit h1)
        exact hk
      · exact .inr h1
    · rename_i hw
      rw [if_neg hw] at h1
      exact h1
  rcases (by simpa using hk : k = i ∨ k = j) with rfl | rfl
  · exact key _ _ hi h1
  · exact key _ _ hj h2
set_option maxHeartbeats 8000000 in
theorem verifyNil_spec (F : Fz) (w : World) (u x0 x1 x2 x3 : Value) (hs : Sat w F) :
    Calls Tryd.prog 32 #[.slice none 0 0, u, .agg #[x0, x1, x2, x3]] w (Tells w (.tuple #[.agg #[.bool false, .slice none 0 0], .int .i64 1])) := by
 have S := St.start hs
 go_enter Tryd.func32, Tryd.ntmps32
 refine wp_seq_k (fun K1 hK1 => region_wl ?_)
 refine stNew S (v := fun n => .pointer (some ⟨n, 0, none⟩)) rfl (ex_box (v := (.agg #[x0, x1, x2, x3])) rfl) (fun n2 w3 S4 => ?_)
 simp only [pS, pN, pA, pC, pZ]
 have S4 : St w F w3 F [⟨n2, [x0, x1, x2, x3], 52⟩] [] := S4
 refine stNew S4 (v := fun n => .pointer (some ⟨n, 0, none⟩)) rfl (ex_alloc (zero_65 _)) (fun n5 w6 S7 => ?_)
 simp only [pS, pN, pA, pC, pZ]
 have S7 : St w F w6 F [⟨n5, [(.bool false), (.slice none 0 0)], 65⟩, ⟨n2, [x0, x1, x2, x3], 52⟩] [] := S7
 refine do_ rfl (.int .i64 0) (ex_assign _) ?_
 simp only [pS, pN, pA, pC, pZ]
 refine wl_nil (hK1 _ _ ?_)
 refine wp_seq_k (fun K8 hK8 => ?_)
 refine wp_seq_k (fun K9 hK9 => region_wl ?_)
 refine do_ rfl (.slice none 0 0) (ex_move _) ?_
 simp only [pS, pN, pA, pC, pZ]
 refine do_ rfl (.int .i64 0) (ex_len Tryd.underlying22 rfl) ?_
 simp only [pS, pN, pA, pC, pZ]
 refine do_ rfl (.bool true) (ex_neq (b := true) rfl rfl (by decide)) ?_
 simp only [pS, pN, pA, pC, pZ]
 refine wl_nil (hK9 _ _ ?_)
 refine wp_cond_true rfl ?_
 refine wp_seq_k (fun K10 hK10 => region_wl ?_)
 refine do_ rfl (.agg #[(.bool false), (.slice none 0 0)]) (ex_build (ps := #[]) (bmap0) (by kernel_rfl)) ?_
 simp only [pS, pN, pA, pC, pZ]
 refine stStore (i := 0) (v := (.agg #[(.bool false), (.slice none 0 0)])) S7 rfl rfl rfl rfl (size_65) (allc2 rfl rfl) (Nat.le_of_ble_eq_true rfl) (fun w11 S12 => ?_)
 simp only [pS, pN, pA, pC, pZ]
 have S12 : St w F w11 F [⟨n5, [(.bool false), (.slice none 0 0)], 65⟩, ⟨n2, [x0, x1, x2, x3], 52⟩] [] := S12
 refine do_ rfl (.int .i64 1) (ex_assign _) ?_
 simp only [pS, pN, pA, pC, pZ]
 refine wl_nil (hK10 _ _ ?_)
 refine wp_ret ?_
 (try simp only [Exit.then, Exit.inBlock, ↓reduceIte, Nat.reduceEqDiff])
 refine bodyPost_ret (v := (.tuple #[(.agg #[(.bool false), (.slice none 0 0)]), (.int .i64 1)])) ?_ rfl ?_
 ·exact res_ct rfl ⟨_, rfl, loadN (cs := [(.bool false), (.slice none 0 0)]) Tryd.underlying65 rfl (size_65) (St.range S12 (i := 0) rfl 0 [(.bool false), (.slice none 0 0)] (sub_range 0 rfl))⟩ rfl
 ·exact ⟨rfl, S12.gr.below⟩
theorem flip_bad {k pk : By} {l : List Stp} {i : Nat} {q : Stp} (hq : l[i]? = some q) (hw : bitL k q.bit = q.right) : (if wayB k pk (-1) (l.set i ⟨q.bit, !q.right, q.other⟩) = true then (0 : Int) else 4) = 4 := by
  rw [if_neg]
  intro h
  obtain ⟨hi, he⟩ := List.getElem?_eq_some_iff.1 hq
  have := (way_all h ⟨q.bit, !q.right, q.other⟩ (List.mem_of_getElem? (i := i) (by rw [List.getElem?_set_self (by simpa using hi)]))).1
  simp only at this
  rw [hw] at this
  cases q.right <;> simp at this
theorem dup_bad {k pk : By} {l : List Stp} {q : Stp} (hq : q ∈ l) : (if wayB k pk (-1) (l ++ [q]) = true then (0 : Int) else 4) = 4 := by
  rw [if_neg]
  intro h
  have := way_rise h q hq
  omega
theorem stps_set {l : List Stp} {i : Nat} {q : Stp} (h : StpsOk l) (hq : l[i]? = some q) : StpsOk (l.set i ⟨q.bit, !q.right, q.other⟩) := by
  intro s hs
  rcases List.mem_or_eq_of_mem_set hs with hs | rfl
  · exact h s hs
  · exact h q (List.mem_of_getElem? hq)
theorem stps_app {l : List Stp} {q : Stp} (h : StpsOk l) (hq : q ∈ l) : StpsOk (l ++ [q]) := by
  intro s hs
  rcases List.mem_append.1 hs with hs | hs
  · exact h s hs
  · rw [List.mem_singleton.1 hs]; exact h q hq
theorem checkFour_spec (F : Fz) (w : World) (v u : Value) (k : By) (p : Prf) (hs : Sat w F) (hu : Bs F u k) (hv : PrfV F v p) (hk : 1 ≤ k.length ∧ k.length ≤ 16) (he : p.empty = false) (hpo : TreeOk 60 [p.pair]) (hso : StpsOk p.steps) (hl : p.steps.length ≤ 1000) (h4 : (if wayB k p.pair.1 (-1) p.steps = true then (0 : Int) else 4) = 4) :
    Calls Tryd.prog 34 #[u, v] w (Tells w (.int .i64 4)) := by
  have := checkPair_spec F w v u k p hs hu hv hk he hpo hso hl
  rwa [h4] at this
theorem set_same {l : List Stp} {i : Nat} {q : Stp} (h : l[i]? = some q) : l.set i q = l := by
  obtain ⟨hi, rfl⟩ := List.getElem?_eq_some_iff.1 h
  exact List.set_getElem_self hi
theorem stp_at {E base : Nat} {w : World} {F : Fz} {l : List Stp} {a : Option Addr} {n c : Nat} (h : Own 3 StpC E base w F (.slice a n c) l) {i : Nat} {p : Stp} (hp : l[i]? = some p) :
    ∃ g, a = some ⟨g, 0, none⟩ ∧ ∃ xa xc, w.cell? ⟨g, 0 + i * 3, none⟩ = some (.int .i64 (p.bit : Nat)) ∧ w.cell? ⟨g, 0 + i * 3 + 1, none⟩ = some (.bool p.right) ∧ w.cell? ⟨g, 0 + i * 3 + 2, none⟩ = some (.slice xa p.other.length xc) ∧ Bs F (.slice xa p.other.length xc) p.other := by
  obtain ⟨g, cs, e, _, ⟨x0, x1, x2, rfl, rfl, rfl, r1⟩, hr⟩ := h.at hp
  obtain ⟨xa, xc, rfl, _⟩ := r1.shape
  refine ⟨g, e, xa, xc, ?_, ?_, ?_, r1⟩
  · have := hr 0 _ rfl; rw [Nat.zero_add]; simpa using this
  · have := hr 1 _ rfl; rw [Nat.zero_add]; simpa using this
  · have := hr 2 _ rfl; rw [Nat.zero_add]; simpa using this
set_option maxHeartbeats 8000000 in
theorem proofForm_walk (W : World) (hT : Tabs W) (v0 : Value) (l0 : List Pr) (z0 : Prs (whole W) v0 l0) (v1 : Value) (l1 : By) (z1 : Bs (whole W) v1 l1) (x2 : Int) (b2 : -9223372036854775808 ≤ x2) (b2' : x2 ≤ 9223372036854775807) :
    Calls Tryd.prog 14 #[v0, v1, .int .i64 x2] W (Tells W (.bool true)) := by
 obtain ⟨i5, hi5, hz5, hs5, hb5⟩ := info_parts infoU8
 obtain ⟨i73, hi73, hz73, hs73, hb73⟩ := info_parts info_73
 obtain ⟨a0, c0, rfl, q0, q0'⟩ := Sl.shape z0
 obtain ⟨a1, c1, rfl, _⟩ := z1.shape
 have S := St.start (Sat.whole W)
 go_enter Tryd.func14, Tryd.ntmps14
 refine wp_seq_k (fun K101 hK101 => region_wl ?_)
 refine do_ rfl (.bool false) (ex_assign _) ?_
 simp only [pS, pN, pA, pC, pZ]
 refine wl_nil (hK101 _ _ ?_)
 refine wp_seq_k (fun K102 hK102 => region_wl ?_)
 refine do_ rfl (.slice a0 l0.length c0) (ex_move _) ?_
 simp only [pS, pN, pA, pC, pZ]
 refine stGivesO PrC.mono S rfl (ex_fn (vs := #[(.slice a0 l0.length c0), (.int .i64 20)]) (map2 rfl rfl) rfl (ent_24 _ _)) (pairs_spec _ _ _ l0 20 (S).sat z0 (by omega)) ?_
 intro v107 w103 F105 S104 le106
 simp only [pS, pN, pA, pC, pZ]
 have S104 : St W (whole W) w103 F105 [] [ownP 2 PrC PrC.mono 38 W.heap.size v107 (pairsN l0 20)] := S104
 obtain ⟨F108, S109, le110, hv111⟩ := St.freeze S104 (i := 0) rfl (Nat.le_refl _)
 have S109 : St W (whole W) w103 F108 [] [] := S109
 have hv111 : Prs _ v107 (pairsN l0 20) := hv111
 obtain ⟨a112, c113, rfl, h114, h115⟩ := Sl.shape hv111
 unfold maxLen at h115
 refine do_ rfl (.slice a112 (pairsN l0 20).length c113) (ex_assign _) ?_
 simp only [pS, pN, pA, pC, pZ]
 refine wl_nil (hK102 _ _ ?_)
 refine wp_seq_k (fun K116 hK116 => region_wl ?_)
 refine do_ rfl (.slice a1 l1.length c1) (ex_move _) ?_
 simp only [pS, pN, pA, pC, pZ]
 refine stGives S109 rfl (ex_fn (vs := #[(.slice a1 l1.length c1)]) (map1 rfl) rfl (ent_21 _ _)) (key_spec _ _ _ l1 (S109).sat (z1.mono (le106.trans le110))) ?_
 intro v122 w117 F119 S118 le120 R121
 obtain ⟨xa123, xc124, rfl, _⟩ := R121.shape
 simp only [pS, pN, pA, pC, pZ]
 refine do_ rfl (.slice xa123 (keyL l1).length xc124) (ex_assign _) ?_
 simp only [pS, pN, pA, pC, pZ]
 refine wl_nil (hK116 _ _ ?_)
 refine wp_seq_k (fun K125 hK125 => ?_)
 have hok := pairsN_ok l0 20
 have hpr := prove_steps hok (keyL l1)
 refine region_wl ?_
 refine do_ rfl (.slice a112 (pairsN l0 20).length c113) (ex_move _) ?_
 simp only [pS, pN, pA, pC, pZ]
 refine do_ rfl (.slice xa123 (keyL l1).length xc124) (ex_move _) ?_
 simp only [pS, pN, pA, pC, pZ]
 refine stGivesPrf S118 rfl (ex_fn (vs := #[(.slice a112 (pairsN l0 20).length c113), (.slice xa123 (keyL l1).length xc124)]) (map2 rfl rfl) rfl (ent_27 _ _)) (prove_spec _ _ _ _ (pairsN l0 20) (keyL l1) (S118).sat (hT.at S118.gr.below) (hv111.mono le120) R121 (hok.mono (by omega)) (keyL_len l1)) ?_
 intro v126 ka127 kc128 va129 vc130 w131 F132 S133 le134 r135 r136
 simp only [pS, pN, pA, pC, pZ]
 have S133 : St W (whole W) w131 F132 [] [ownP 3 StpC StpC.mono 73 W.heap.size v126 ((proveT (pairsN l0 20) (keyL l1)).steps)] := S133
 obtain ⟨a137, cap138, rfl, h139, h140⟩ := (S133.own (i := 0) rfl).shape
 unfold maxLen at h140
 refine do_ rfl (.tuple #[(.agg #[(.bool (proveT (pairsN l0 20) (keyL l1)).empty), (.slice a137 ((proveT (pairsN l0 20) (keyL l1)).steps).length cap138), (.slice ka127 (proveT (pairsN l0 20) (keyL l1)).pair.1.length kc128), (.slice va129 (proveT (pairsN l0 20) (keyL l1)).pair.2.length vc130)]), (.int .i64 0)]) (ex_move _) ?_
 simp only [pS, pN, pA, pC, pZ]
 refine do_ rfl (.agg #[(.bool (proveT (pairsN l0 20) (keyL l1)).empty), (.slice a137 ((proveT (pairsN l0 20) (keyL l1)).steps).length cap138), (.slice ka127 (proveT (pairsN l0 20) (keyL l1)).pair.1.length kc128), (.slice va129 (proveT (pairsN l0 20) (keyL l1)).pair.2.length vc130)]) (ex_extract rfl rfl) ?_
 simp only [pS, pN, pA, pC, pZ]
 refine do_ rfl (.int .i64 0) (ex_extract rfl rfl) ?_
 simp only [pS, pN, pA, pC, pZ]
 refine stNew S133 (v := fun n => .pointer (some ⟨n, 0, none⟩)) rfl (ex_alloc (zero_52 _)) (fun n141 w142 S143 => ?_)
 simp only [pS, pN, pA, pC, pZ]
 have S143 : St W (whole W) w142 F132 [⟨n141, [(.bool false), (.slice none 0 0), (.slice none 0 0), (.slice none 0 0)], 52⟩] [ownP 3 StpC StpC.mono 73 W.heap.size (.slice a137 ((proveT (pairsN l0 20) (keyL l1)).steps).length cap138) ((proveT (pairsN l0 20) (keyL l1)).steps)] := S143
 refine stStore (i := 0) (v := (.agg #[(.bool (proveT (pairsN l0 20) (keyL l1)).empty), (.slice a137 ((proveT (pairsN l0 20) (keyL l1)).steps).length cap138), (.slice ka127 (proveT (pairsN l0 20) (keyL l1)).pair.1.length kc128), (.slice va129 (proveT (pairsN l0 20) (keyL l1)).pair.2.length vc130)])) S143 rfl rfl rfl rfl (size_52) (allc4 rfl rfl rfl rfl) (Nat.le_of_ble_eq_true rfl) (fun w144 S145 => ?_)
 simp only [pS, pN, pA, pC, pZ]
 have S145 : St W (whole W) w144 F132 [⟨n141, [(.bool (proveT (pairsN l0 20) (keyL l1)).empty), (.slice a137 ((proveT (pairsN l0 20) (keyL l1)).steps).length cap138), (.slice ka127 (proveT (pairsN l0 20) (keyL l1)).pair.1.length kc128), (.slice va129 (proveT (pairsN l0 20) (keyL l1)).pair.2.length vc130)], 52⟩] [ownP 3 StpC StpC.mono 73 W.heap.size (.slice a137 ((proveT (pairsN l0 20) (keyL l1)).steps).length cap138) ((proveT (pairsN l0 20) (keyL l1)).steps)] := S145
 refine do_ rfl (.int .i64 0) (ex_assign _) ?_
 simp only [pS, pN, pA, pC, pZ]
 refine wl_nil (hK125 _ _ ?_)
 refine wp_seq_k (fun K146 hK146 => region_wl ?_)
 refine do_ rfl (.slice xa123 (keyL l1).length xc124) (ex_move _) ?_
 simp only [pS, pN, pA, pC, pZ]
 refine do_ rfl (.agg #[(.bool (proveT (pairsN l0 20) (keyL l1)).empty), (.slice a137 ((proveT (pairsN l0 20) (keyL l1)).steps).length cap138), (.slice ka127 (proveT (pairsN l0 20) (keyL l1)).pair.1.length kc128), (.slice va129 (proveT (pairsN l0 20) (keyL l1)).pair.2.length vc130)]) (ex_load rfl (loadN (cs := [(.bool (proveT (pairsN l0 20) (keyL l1)).empty), (.slice a137 ((proveT (pairsN l0 20) (keyL l1)).steps).length cap138), (.slice ka127 (proveT (pairsN l0 20) (keyL l1)).pair.1.length kc128), (.slice va129 (proveT (pairsN l0 20) (keyL l1)).pair.2.length vc130)]) Tryd.underlying52 rfl (size_52) (St.range S145 (i := 0) rfl 0 [(.bool (proveT (pairsN l0 20) (keyL l1)).empty), (.slice a137 ((proveT (pairsN l0 20) (keyL l1)).steps).length cap138), (.slice ka127 (proveT (pairsN l0 20) (keyL l1)).pair.1.length kc128), (.slice va129 (proveT (pairsN l0 20) (keyL l1)).pair.2.length vc130)] (sub_range 0 rfl)))) ?_
 simp only [pS, pN, pA, pC, pZ]
 refine stTells (v := (.tuple #[(.agg #[(.bool false), (.slice none 0 0)]), (.int .i64 1)])) S145 rfl (ex_fn (vs := #[(.slice none 0 0), (.slice xa123 (keyL l1).length xc124), (.agg #[(.bool (proveT (pairsN l0 20) (keyL l1)).empty), (.slice a137 ((proveT (pairsN l0 20) (keyL l1)).steps).length cap138), (.slice ka127 (proveT (pairsN l0 20) (keyL l1)).pair.1.length kc128), (.slice va129 (proveT (pairsN l0 20) (keyL l1)).pair.2.length vc130)])]) (map3 rfl rfl rfl) rfl (ent_32 _ _)) (verifyNil_spec _ _ _ _ _ _ _ (S145).sat) (fun w147 S148 => ?_)
 simp only [pS, pN, pA, pC, pZ]
 refine do_ rfl (.tuple #[(.agg #[(.bool false), (.slice none 0 0)]), (.int .i64 1)]) (ex_move _) ?_
 simp only [pS, pN, pA, pC, pZ]
 refine do_ rfl (.agg #[(.bool false), (.slice none 0 0)]) (ex_extract rfl rfl) ?_
 simp only [pS, pN, pA, pC, pZ]
 refine do_ rfl (.int .i64 1) (ex_extract rfl rfl) ?_
 simp only [pS, pN, pA, pC, pZ]
 refine stNew S148 (v := fun n => .pointer (some ⟨n, 0, none⟩)) rfl (ex_alloc (zero_65 _)) (fun n149 w150 S151 => ?_)
 simp only [pS, pN, pA, pC, pZ]
 have S151 : St W (whole W) w150 F132 [⟨n149, [(.bool false), (.slice none 0 0)], 65⟩, ⟨n141, [(.bool (proveT (pairsN l0 20) (keyL l1)).empty), (.slice a137 ((proveT (pairsN l0 20) (keyL l1)).steps).length cap138), (.slice ka127 (proveT (pairsN l0 20) (keyL l1)).pair.1.length kc128), (.slice va129 (proveT (pairsN l0 20) (keyL l1)).pair.2.length vc130)], 52⟩] [ownP 3 StpC StpC.mono 73 W.heap.size (.slice a137 ((proveT (pairsN l0 20) (keyL l1)).steps).length cap138) ((proveT (pairsN l0 20) (keyL l1)).steps)] := S151
 refine stStore (i := 0) (v := (.agg #[(.bool false), (.slice none 0 0)])) S151 rfl rfl rfl rfl (size_65) (allc2 rfl rfl) (Nat.le_of_ble_eq_true rfl) (fun w152 S153 => ?_)
 simp only [pS, pN, pA, pC, pZ]
 have S153 : St W (whole W) w152 F132 [⟨n149, [(.bool false), (.slice none 0 0)], 65⟩, ⟨n141, [(.bool (proveT (pairsN l0 20) (keyL l1)).empty), (.slice a137 ((proveT (pairsN l0 20) (keyL l1)).steps).length cap138), (.slice ka127 (proveT (pairsN l0 20) (keyL l1)).pair.1.length kc128), (.slice va129 (proveT (pairsN l0 20) (keyL l1)).pair.2.length vc130)], 52⟩] [ownP 3 StpC StpC.mono 73 W.heap.size (.slice a137 ((proveT (pairsN l0 20) (keyL l1)).steps).length cap138) ((proveT (pairsN l0 20) (keyL l1)).steps)] := S153
 refine do_ rfl (.int .i64 1) (ex_assign _) ?_
 simp only [pS, pN, pA, pC, pZ]
 refine wl_nil (hK146 _ _ ?_)
 refine wp_seq_k (fun K154 hK154 => ?_)
 refine wp_seq_k (fun K155 hK155 => region_wl ?_)
 refine do_ rfl (.int .i64 0) (ex_move _) ?_
 simp only [pS, pN, pA, pC, pZ]
 refine do_ rfl (.bool false) (ex_neq (b := false) rfl rfl (by decide)) ?_
 simp only [pS, pN, pA, pC, pZ]
 refine do_ rfl (.bool false) (ex_move _) ?_
 simp only [pS, pN, pA, pC, pZ]
 refine do_ rfl (.int .i64 1) (ex_move _) ?_
 simp only [pS, pN, pA, pC, pZ]
 refine do_ rfl (.bool false) (ex_neq (b := false) rfl rfl (by decide)) ?_
 simp only [pS, pN, pA, pC, pZ]
 refine do_ rfl (.bool false) (ex_pick (b := false) rfl) ?_
 simp only [pS, pN, pA, pC, pZ]
 refine wl_nil (hK155 _ _ ?_)
 refine wp_cond_false rfl ?_
 refine wp_skip ?_
 refine hK154 _ _ ?_
 refine wp_seq_k (fun K156 hK156 => ?_)
 refine wp_seq_k (fun K157 hK157 => region_wl ?_)
 refine do_ rfl (.pointer (some ⟨n141, 1, none⟩)) (ex_field (q := ⟨n141, 1, none⟩) rfl (fa_52_1 _ _)) ?_
 simp only [pS, pN, pA, pC, pZ]
 refine do_ rfl (.slice a137 ((proveT (pairsN l0 20) (keyL l1)).steps).length cap138) (ex_load rfl (load1 (nagg_50 _) (St.cell S153 (i := 1) rfl rfl))) ?_
 simp only [pS, pN, pA, pC, pZ]
 refine do_ rfl (.int .i64 ((((proveT (pairsN l0 20) (keyL l1)).steps).length : Nat) : Int)) (ex_len Tryd.underlying50 rfl) ?_
 simp only [pS, pN, pA, pC, pZ]
 by_cases hc41 : ((proveT (pairsN l0 20) (keyL l1)).steps).length = 0
 ·refine do_ rfl (.bool true) (ex_eql (m := ((((proveT (pairsN l0 20) (keyL l1)).steps).length : Nat) : Int)) (n := (0 : Int)) (b := true) rfl rfl (beq_iff_eq.2 (by omega))) ?_
  simp only [pS, pN, pA, pC, pZ]
  refine wl_nil (hK157 _ _ ?_)
  refine wp_cond_true rfl ?_
  refine wp_seq_k (fun K158 hK158 => region_wl ?_)
  refine do_ rfl (.slice a112 (pairsN l0 20).length c113) (ex_move _) ?_
  simp only [pS, pN, pA, pC, pZ]
  refine do_ rfl (.int .i64 (((pairsN l0 20).length : Nat) : Int)) (ex_len Tryd.underlying40 rfl) ?_
  simp only [pS, pN, pA, pC, pZ]
  refine do_ rfl (.bool true) (ex_lss (m := (((pairsN l0 20).length : Nat) : Int)) (n := (2 : Int)) (b := true) rfl rfl (decide_eq_true (by have := hpr.2.2.2.1; omega))) ?_
  simp only [pS, pN, pA, pC, pZ]
  refine do_ rfl (.bool true) (ex_assign _) ?_
  simp only [pS, pN, pA, pC, pZ]
  refine wl_nil (hK158 _ _ ?_)
  refine wp_ret ?_
  (try simp only [Exit.then, Exit.inBlock, ↓reduceIte, Nat.reduceEqDiff])
  refine bodyPost_ret (v := (.bool true)) ?_ rfl ?_
  ·exact res_t rfl rfl
  ·exact ⟨rfl, S153.gr.below⟩
 ·refine do_ rfl (.bool false) (ex_eql (m := ((((proveT (pairsN l0 20) (keyL l1)).steps).length : Nat) : Int)) (n := (0 : Int)) (b := false) rfl rfl (beq_eq_false_iff_ne.2 (by omega))) ?_
  simp only [pS, pN, pA, pC, pZ]
  refine wl_nil (hK157 _ _ ?_)
  refine wp_cond_false rfl ?_
  refine wp_skip ?_
  refine hK156 _ _ ?_
  refine wp_seq_k (fun K159 hK159 => ?_)
  have hsl := hok.len
  have hstl := hpr.2.2.1
  obtain ⟨hp0kn, hp1kn⟩ := pick_bd x2 (((proveT (pairsN l0 20) (keyL l1)).steps.length : Nat) : Int) (by omega)
  obtain ⟨kn, hkn⟩ : ∃ k : Nat, pick x2 (((proveT (pairsN l0 20) (keyL l1)).steps.length : Nat) : Int) = (k : Int) := ⟨(pick x2 (((proveT (pairsN l0 20) (keyL l1)).steps.length : Nat) : Int)).toNat, (Int.toNat_of_nonneg hp0kn).symm⟩
  have hkb : kn < (proveT (pairsN l0 20) (keyL l1)).steps.length := by omega
  refine region_wl ?_
  refine do_ rfl (.int .i64 x2) (ex_move _) ?_
  simp only [pS, pN, pA, pC, pZ]
  refine do_ rfl (.pointer (some ⟨n141, 1, none⟩)) (ex_field (q := ⟨n141, 1, none⟩) rfl (fa_52_1 _ _)) ?_
  simp only [pS, pN, pA, pC, pZ]
  refine do_ rfl (.slice a137 ((proveT (pairsN l0 20) (keyL l1)).steps).length cap138) (ex_load rfl (load1 (nagg_50 _) (St.cell S153 (i := 1) rfl rfl))) ?_
  simp only [pS, pN, pA, pC, pZ]
  refine do_ rfl (.int .i64 ((((proveT (pairsN l0 20) (keyL l1)).steps).length : Nat) : Int)) (ex_len Tryd.underlying50 rfl) ?_
  simp only [pS, pN, pA, pC, pZ]
  refine stTells (v := (.int .i64 ((kn : Nat) : Int))) S153 rfl (ex_fn (vs := #[(.int .i64 x2), (.int .i64 ((((proveT (pairsN l0 20) (keyL l1)).steps).length : Nat) : Int))]) (map2 rfl rfl) rfl (ent_19 _ _)) (hkn ▸ tells_same (picked_spec x2 ((((proveT (pairsN l0 20) (keyL l1)).steps).length : Nat) : Int) _ b2 b2' (by omega) (by omega))) (fun w160 S161 => ?_)
  simp only [pS, pN, pA, pC, pZ]
  refine do_ rfl (.int .i64 ((kn : Nat) : Int)) (ex_assign _) ?_
  simp only [pS, pN, pA, pC, pZ]
  refine wl_nil (hK159 _ _ ?_)
  refine wp_seq_k (fun K162 hK162 => ?_)
  obtain ⟨q, hq⟩ : ∃ q, (proveT (pairsN l0 20) (keyL l1)).steps[kn]? = some q := ⟨(proveT (pairsN l0 20) (keyL l1)).steps[kn], List.getElem?_eq_getElem hkb⟩
  have hqm := List.mem_of_getElem? hq
  have hne : (pairsN l0 20) ≠ [] := fun e => by have h0 : (pairsN l0 20).length = 0 := (congrArg List.length e); omega
  obtain ⟨hem, hpm⟩ := hpr.2.2.2.2 hne
  have hpo : TreeOk 60 [(proveT (pairsN l0 20) (keyL l1)).pair] := (sub_ok hok (List.singleton_sublist.2 hpm)).mono (by omega)
  rw [hem] at S161 ⊢
  obtain ⟨g163, rfl⟩ := Own.addr0 (S161.own (i := 0) rfl) (by omega)
  obtain ⟨g164, ha165, xa169, xc170, c166, c167, c168, r171⟩ := stp_at (S161.own (i := 0) rfl) hq
  injection ha165 with ha165; injection ha165 with ha165; subst ha165
  refine region_gw F132 10 [] (by kernel_rfl) (by kernel_rfl) ?_
  simp only [List.take_succ_cons, List.take_zero]
  refine gw_pure rfl rfl (.pointer (some ⟨n141, 1, none⟩)) (fun w172 hCw172 => pureAt_of (ex_field (q := ⟨n141, 1, none⟩) rfl (fa_52_1 _ _))) ?_
  simp only [pS, pN, pA, pC, pZ]
  refine gw_pure rfl rfl (.slice (some ⟨g163, 0, none⟩) ((proveT (pairsN l0 20) (keyL l1)).steps).length cap138) (fun w172 hCw172 => pureAt_of (ex_load rfl (load1 (nagg_50 _) (St.cell (St.tells S161 hCw172) (i := 1) rfl rfl)))) ?_
  simp only [pS, pN, pA, pC, pZ]
  refine gw_pure rfl rfl (.int .i64 ((kn : Nat) : Int)) (fun w172 hCw172 => pureAt_of (ex_move _)) ?_
  simp only [pS, pN, pA, pC, pZ]
  refine gw_pure rfl rfl (.pointer (some ⟨n141, 1, none⟩)) (fun w172 hCw172 => pureAt_of (ex_field (q := ⟨n141, 1, none⟩) rfl (fa_52_1 _ _))) ?_
  simp only [pS, pN, pA, pC, pZ]
  refine gw_pure rfl rfl (.slice (some ⟨g163, 0, none⟩) ((proveT (pairsN l0 20) (keyL l1)).steps).length cap138) (fun w172 hCw172 => pureAt_of (ex_load rfl (load1 (nagg_50 _) (St.cell (St.tells S161 hCw172) (i := 1) rfl rfl)))) ?_
  simp only [pS, pN, pA, pC, pZ]
  refine gw_pure rfl rfl (.int .i64 ((kn : Nat) : Int)) (fun w172 hCw172 => pureAt_of (ex_move _)) ?_
  simp only [pS, pN, pA, pC, pZ]
  refine gw_pure rfl rfl (.pointer (some ⟨g163, 0 + kn * 3, none⟩)) (fun w172 hCw172 => pureAt_of (ex_at (i := kn) (sz := 3) Tryd.underlying50 (sizeof_73 _) rfl rfl rfl (by omega) rfl)) ?_
  simp only [pS, pN, pA, pC, pZ]
  refine gw_pure rfl rfl (.pointer (some ⟨g163, 0 + kn * 3 + 1, none⟩)) (fun w172 hCw172 => pureAt_of (ex_field (q := ⟨g163, 0 + kn * 3 + 1, none⟩) rfl (fa_73_1 _ _))) ?_
  simp only [pS, pN, pA, pC, pZ]
  refine gw_pure rfl rfl (.bool q.right) (fun w172 hCw172 => pureAt_of (ex_load rfl (load1 (nagg_4 _) (cell_kept hCw172 c167)))) ?_
  simp only [pS, pN, pA, pC, pZ]
  refine gw_pure rfl rfl (.bool (!q.right)) (fun w172 hCw172 => pureAt_of (ex_not rfl rfl)) ?_
  simp only [pS, pN, pA, pC, pZ]
  refine gw_nil ?_
  intro w173 hC175 hF176
  clear hF176
  have S174 := St.tells S161 hC175
  simp only [List.drop_succ_cons, List.drop_zero]
  refine do_ rfl (.pointer (some ⟨g163, 0 + kn * 3, none⟩)) (ex_at (i := kn) (sz := 3) Tryd.underlying50 (sizeof_73 _) rfl rfl rfl (by omega) rfl) ?_
  simp only [pS, pN, pA, pC, pZ]
  refine do_ rfl (.pointer (some ⟨g163, 0 + kn * 3 + 1, none⟩)) (ex_field (q := ⟨g163, 0 + kn * 3 + 1, none⟩) rfl (fa_73_1 _ _)) ?_
  simp only [pS, pN, pA, pC, pZ]
  refine stSetCell (r := 0) (i := kn) (j := 1) (p := (⟨q.bit, !q.right, q.other⟩ : Stp)) (u := (.bool (!q.right))) S174 rfl rfl (by omega) (by decide) rfl rfl (by omega) (size_4) rfl rfl (fun cs y hy hR => ?_) (Nat.le_refl _) (fun w177 S178 => ?_)
  ·rw [hq] at hy; cases hy
   obtain ⟨z0, z1, z2, rfl, rfl, rfl, z3⟩ := hR
   exact ⟨_, _, _, rfl, rfl, rfl, z3⟩
  simp only [pS, pN, pA, pC, pZ]
  have S178 : St W (whole W) w177 F132 [⟨n149, [(.bool false), (.slice none 0 0)], 65⟩, ⟨n141, [(.bool false), (.slice (some ⟨g163, 0, none⟩) ((proveT (pairsN l0 20) (keyL l1)).steps).length cap138), (.slice ka127 (proveT (pairsN l0 20) (keyL l1)).pair.1.length kc128), (.slice va129 (proveT (pairsN l0 20) (keyL l1)).pair.2.length vc130)], 52⟩] [ownP 3 StpC StpC.mono 73 W.heap.size (.slice (some ⟨g163, 0, none⟩) ((proveT (pairsN l0 20) (keyL l1)).steps).length cap138) (((proveT (pairsN l0 20) (keyL l1)).steps).set kn (⟨q.bit, !q.right, q.other⟩ : Stp))] := S178
  obtain ⟨q2, hq2e, hq2⟩ : ∃ y, y = (⟨q.bit, !q.right, q.other⟩ : Stp) ∧ ((proveT (pairsN l0 20) (keyL l1)).steps.set kn (⟨q.bit, !q.right, q.other⟩ : Stp))[kn]? = some y := ⟨_, rfl, by rw [List.getElem?_set_self (by omega)]⟩
  have hsl2 : ((proveT (pairsN l0 20) (keyL l1)).steps.set kn (⟨q.bit, !q.right, q.other⟩ : Stp)).length = (proveT (pairsN l0 20) (keyL l1)).steps.length := List.length_set
  refine wl_nil (hK162 _ _ ?_)
  refine wp_seq_k (fun K179 hK179 => region_wl ?_)
  refine do_ rfl (.slice xa123 (keyL l1).length xc124) (ex_move _) ?_
  simp only [pS, pN, pA, pC, pZ]
  refine do_ rfl (.agg #[(.bool false), (.slice (some ⟨g163, 0, none⟩) ((proveT (pairsN l0 20) (keyL l1)).steps).length cap138), (.slice ka127 (proveT (pairsN l0 20) (keyL l1)).pair.1.length kc128), (.slice va129 (proveT (pairsN l0 20) (keyL l1)).pair.2.length vc130)]) (ex_load rfl (loadN (cs := [(.bool false), (.slice (some ⟨g163, 0, none⟩) ((proveT (pairsN l0 20) (keyL l1)).steps).length cap138), (.slice ka127 (proveT (pairsN l0 20) (keyL l1)).pair.1.length kc128), (.slice va129 (proveT (pairsN l0 20) (keyL l1)).pair.2.length vc130)]) Tryd.underlying52 rfl (size_52) (St.range S178 (i := 1) rfl 0 [(.bool false), (.slice (some ⟨g163, 0, none⟩) ((proveT (pairsN l0 20) (keyL l1)).steps).length cap138), (.slice ka127 (proveT (pairsN l0 20) (keyL l1)).pair.1.length kc128), (.slice va129 (proveT (pairsN l0 20) (keyL l1)).pair.2.length vc130)] (sub_range 0 rfl)))) ?_
  simp only [pS, pN, pA, pC, pZ]
  obtain ⟨F180, hs181, le182, hsl183⟩ := own_peek S178 (i := 0) rfl
  have hpv0 : PrfV F180 (.agg #[(.bool false), (.slice (some ⟨g163, 0, none⟩) ((proveT (pairsN l0 20) (keyL l1)).steps).length cap138), (.slice ka127 (proveT (pairsN l0 20) (keyL l1)).pair.1.length kc128), (.slice va129 (proveT (pairsN l0 20) (keyL l1)).pair.2.length vc130)]) (⟨false, (((proveT (pairsN l0 20) (keyL l1)).steps).set kn (⟨q.bit, !q.right, q.other⟩ : Stp)), (proveT (pairsN l0 20) (keyL l1)).pair⟩ : Prf) := ⟨(some ⟨g163, 0, none⟩), cap138, _, _, _, _, by simp only [hsl2], by simp only [hsl2]; exact hsl183, r135.mono le182, r136.mono le182⟩
  refine stTells (v := (.int .i64 4)) S178 rfl (ex_fn (vs := #[(.slice xa123 (keyL l1).length xc124), (.agg #[(.bool false), (.slice (some ⟨g163, 0, none⟩) ((proveT (pairsN l0 20) (keyL l1)).steps).length cap138), (.slice ka127 (proveT (pairsN l0 20) (keyL l1)).pair.1.length kc128), (.slice va129 (proveT (pairsN l0 20) (keyL l1)).pair.2.length vc130)])]) (map2 rfl rfl) rfl (ent_34 _ _)) (checkFour_spec _ _ _ _ (keyL l1) (⟨false, (((proveT (pairsN l0 20) (keyL l1)).steps).set kn (⟨q.bit, !q.right, q.other⟩ : Stp)), (proveT (pairsN l0 20) (keyL l1)).pair⟩ : Prf) hs181 ((R121.mono le134).mono le182) hpv0 (keyL_len l1) rfl hpo (stps_set hpr.1 hq) (by simp only [List.length_set, List.length_append, List.length_cons, List.length_nil]; omega) (flip_bad hq (hpr.2.1 q hqm).1)) (fun w184 S185 => ?_)
  simp only [pS, pN, pA, pC, pZ]
  refine do_ rfl (.int .i64 4) (ex_assign _) ?_
  simp only [pS, pN, pA, pC, pZ]
  refine wl_nil (hK179 _ _ ?_)
  refine wp_seq_k (fun K186 hK186 => ?_)
  obtain ⟨g187, ha188, xa192, xc193, c189, c190, c191, r194⟩ := stp_at (S185.own (i := 0) rfl) hq2
  injection ha188 with ha188; injection ha188 with ha188; subst ha188
  refine region_gw F132 10 [] (by kernel_rfl) (by kernel_rfl) ?_
  simp only [List.take_succ_cons, List.take_zero]
  refine gw_pure rfl rfl (.pointer (some ⟨n141, 1, none⟩)) (fun w195 hCw195 => pureAt_of (ex_field (q := ⟨n141, 1, none⟩) rfl (fa_52_1 _ _))) ?_
  simp only [pS, pN, pA, pC, pZ]
  refine gw_pure rfl rfl (.slice (some ⟨g163, 0, none⟩) ((proveT (pairsN l0 20) (keyL l1)).steps).length cap138) (fun w195 hCw195 => pureAt_of (ex_load rfl (load1 (nagg_50 _) (St.cell (St.tells S185 hCw195) (i := 1) rfl rfl)))) ?_
  simp only [pS, pN, pA, pC, pZ]
  refine gw_pure rfl rfl (.int .i64 ((kn : Nat) : Int)) (fun w195 hCw195 => pureAt_of (ex_move _)) ?_
  simp only [pS, pN, pA, pC, pZ]
  refine gw_pure rfl rfl (.pointer (some ⟨n141, 1, none⟩)) (fun w195 hCw195 => pureAt_of (ex_field (q := ⟨n141, 1, none⟩) rfl (fa_52_1 _ _))) ?_
  simp only [pS, pN, pA, pC, pZ]
  refine gw_pure rfl rfl (.slice (some ⟨g163, 0, none⟩) ((proveT (pairsN l0 20) (keyL l1)).steps).length cap138) (fun w195 hCw195 => pureAt_of (ex_load rfl (load1 (nagg_50 _) (St.cell (St.tells S185 hCw195) (i := 1) rfl rfl)))) ?_
  simp only [pS, pN, pA, pC, pZ]
  refine gw_pure rfl rfl (.int .i64 ((kn : Nat) : Int)) (fun w195 hCw195 => pureAt_of (ex_move _)) ?_
  simp only [pS, pN, pA, pC, pZ]
  refine gw_pure rfl rfl (.pointer (some ⟨g163, 0 + kn * 3, none⟩)) (fun w195 hCw195 => pureAt_of (ex_at (i := kn) (sz := 3) Tryd.underlying50 (sizeof_73 _) rfl rfl rfl (by omega) rfl)) ?_
  simp only [pS, pN, pA, pC, pZ]
  refine gw_pure rfl rfl (.pointer (some ⟨g163, 0 + kn * 3 + 1, none⟩)) (fun w195 hCw195 => pureAt_of (ex_field (q := ⟨g163, 0 + kn * 3 + 1, none⟩) rfl (fa_73_1 _ _))) ?_
  simp only [pS, pN, pA, pC, pZ]
  refine gw_pure rfl rfl (.bool q2.right) (fun w195 hCw195 => pureAt_of (ex_load rfl (load1 (nagg_4 _) (cell_kept hCw195 c190)))) ?_
  simp only [pS, pN, pA, pC, pZ]
  refine gw_pure rfl rfl (.bool (!q2.right)) (fun w195 hCw195 => pureAt_of (ex_not rfl rfl)) ?_
  simp only [pS, pN, pA, pC, pZ]
  refine gw_nil ?_
  intro w196 hC198 hF199
  clear hF199
  have S197 := St.tells S185 hC198
  simp only [List.drop_succ_cons, List.drop_zero]
  refine do_ rfl (.pointer (some ⟨g163, 0 + kn * 3, none⟩)) (ex_at (i := kn) (sz := 3) Tryd.underlying50 (sizeof_73 _) rfl rfl rfl (by omega) rfl) ?_
  simp only [pS, pN, pA, pC, pZ]
  refine do_ rfl (.pointer (some ⟨g163, 0 + kn * 3 + 1, none⟩)) (ex_field (q := ⟨g163, 0 + kn * 3 + 1, none⟩) rfl (fa_73_1 _ _)) ?_
  simp only [pS, pN, pA, pC, pZ]
  refine stSetCell (r := 0) (i := kn) (j := 1) (p := q) (u := (.bool (!q2.right))) S197 rfl rfl (by omega) (by decide) rfl rfl (by omega) (size_4) rfl rfl (fun cs y hy hR => ?_) (Nat.le_refl _) (fun w200 S201 => ?_)
  ·rw [hq2] at hy; cases hy
   obtain ⟨z0, z1, z2, rfl, rfl, rfl, z3⟩ := hR
   subst hq2e
   exact ⟨_, _, _, rfl, rfl, by simp, z3⟩
  simp only [pS, pN, pA, pC, pZ]
  have S201 : St W (whole W) w200 F132 [⟨n149, [(.bool false), (.slice none 0 0)], 65⟩, ⟨n141, [(.bool false), (.slice (some ⟨g163, 0, none⟩) ((proveT (pairsN l0 20) (keyL l1)).steps).length cap138), (.slice ka127 (proveT (pairsN l0 20) (keyL l1)).pair.1.length kc128), (.slice va129 (proveT (pairsN l0 20) (keyL l1)).pair.2.length vc130)], 52⟩] [ownP 3 StpC StpC.mono 73 W.heap.size (.slice (some ⟨g163, 0, none⟩) ((proveT (pairsN l0 20) (keyL l1)).steps).length cap138) ((((proveT (pairsN l0 20) (keyL l1)).steps).set kn (⟨q.bit, !q.right, q.other⟩ : Stp)).set kn q)] := S201
  have hback : ((proveT (pairsN l0 20) (keyL l1)).steps.set kn (⟨q.bit, !q.right, q.other⟩ : Stp)).set kn q = (proveT (pairsN l0 20) (keyL l1)).steps := by rw [List.set_set]; exact set_same hq
  rw [hback] at S201
  have S201 : St W (whole W) w200 F132 [⟨n149, [(.bool false), (.slice none 0 0)], 65⟩, ⟨n141, [(.bool false), (.slice (some ⟨g163, 0, none⟩) ((proveT (pairsN l0 20) (keyL l1)).steps).length cap138), (.slice ka127 (proveT (pairsN l0 20) (keyL l1)).pair.1.length kc128), (.slice va129 (proveT (pairsN l0 20) (keyL l1)).pair.2.length vc130)], 52⟩] [ownP 3 StpC StpC.mono 73 W.heap.size (.slice (some ⟨g163, 0, none⟩) ((proveT (pairsN l0 20) (keyL l1)).steps).length cap138) ((proveT (pairsN l0 20) (keyL l1)).steps)] := S201
  refine wl_nil (hK186 _ _ ?_)
  refine wp_seq_k (fun K202 hK202 => ?_)
  refine region_hl S201 (by kernel_rfl) (fun w204 S203 => ?_)
  refine hl_take 0 rfl (by kernel_rfl) (v := (.pointer (some ⟨n141, 1, none⟩))) (fun _ _ _ h => h) S203.sat rfl (fun w205 hs206 => ex_field (q := ⟨n141, 1, none⟩) rfl (fa_52_1 _ _)) ?_
  simp only [pS, pN, pA, pC, pZ]
  refine hl_take 2 rfl (by kernel_rfl) (v := (.pointer (some ⟨n141, 1, none⟩))) (fun _ _ _ h => h) S203.sat rfl (fun w207 hs208 => ex_field (q := ⟨n141, 1, none⟩) rfl (fa_52_1 _ _)) ?_
  simp only [pS, pN, pA, pC, pZ]
  refine hl_take 4 rfl (by kernel_rfl) (v := (.int .i64 ((kn : Nat) : Int))) (fun _ _ _ h => h) S203.sat rfl (fun w209 hs210 => ex_move _) ?_
  simp only [pS, pN, pA, pC, pZ]
  refine hl_two 1 3 (by kernel_rfl) rfl rfl ?_ ?_
  ·refine do_ rfl (.slice (some ⟨g163, 0, none⟩) ((proveT (pairsN l0 20) (keyL l1)).steps).length cap138) (ex_load rfl (load1 (nagg_50 _) (St.cell S203 (i := 1) rfl rfl))) ?_
   simp only [pS, pN, pA, pC, pZ]
   refine wl_nil (hl_back S203.sat ?_)
   refine hl_next 3 (by kernel_rfl) rfl ?_
   refine do_ rfl (.slice (some ⟨g163, 0, none⟩) ((proveT (pairsN l0 20) (keyL l1)).steps).length cap138) (ex_load rfl (load1 (nagg_50 _) (St.cell S203 (i := 1) rfl rfl))) ?_
   simp only [pS, pN, pA, pC, pZ]
   refine wl_nil (hl_back S203.sat ?_)
   refine hl_take 5 rfl (by kernel_rfl) (v := (.pointer (some ⟨g163, 0 + kn * 3, none⟩))) (fun _ _ _ h => h) S203.sat rfl (fun w211 hs212 => ex_at (i := kn) (sz := 3) Tryd.underlying50 (sizeof_73 _) rfl rfl rfl (by omega) rfl) ?_
   simp only [pS, pN, pA, pC, pZ]
   refine hl_next 6 (by kernel_rfl) rfl ?_
   obtain ⟨g213, ha214, xa218, xc219, c215, c216, c217, r220⟩ := stp_at (S203.own (i := 0) rfl) hq
   injection ha214 with ha214; injection ha214 with ha214; subst ha214
   refine do_ rfl (.agg #[(.int .i64 ((q.bit : Nat) : Int)), (.bool q.right), (.slice xa218 q.other.length xc219)]) (ex_load rfl (loadN (cs := [(.int .i64 ((q.bit : Nat) : Int)), (.bool q.right), (.slice xa218 q.other.length xc219)]) Tryd.underlying73 rfl (size_73) (range3 c215 c216 c217))) ?_
   simp only [pS, pN, pA, pC, pZ]
   refine wl_nil (hl_back S203.sat ?_)
   refine hl_next 7 (by kernel_rfl) rfl ?_
   refine stNew S203 (v := fun n => .slice (some ⟨n, 0, none⟩) 1 1) rfl (ex_lit (ps := #[(0, (.agg #[(.int .i64 ((q.bit : Nat) : Int)), (.bool q.right), (.slice xa218 q.other.length xc219)]))]) (cells := #[(.int .i64 ((q.bit : Nat) : Int)), (.bool q.right), (.slice xa218 q.other.length xc219)]) (E := 73) (bmap1 rfl) (fun w => by kernel_rfl)) (fun n221 w222 S223 => ?_)
   simp only [pS, pN, pA, pC, pZ]
   have S223 : St W (whole W) w222 F132 [⟨n221, [(.int .i64 ((q.bit : Nat) : Int)), (.bool q.right), (.slice xa218 q.other.length xc219)], 73⟩, ⟨n149, [(.bool false), (.slice none 0 0)], 65⟩, ⟨n141, [(.bool false), (.slice (some ⟨g163, 0, none⟩) ((proveT (pairsN l0 20) (keyL l1)).steps).length cap138), (.slice ka127 (proveT (pairsN l0 20) (keyL l1)).pair.1.length kc128), (.slice va129 (proveT (pairsN l0 20) (keyL l1)).pair.2.length vc130)], 52⟩] [ownP 3 StpC StpC.mono 73 W.heap.size (.slice (some ⟨g163, 0, none⟩) ((proveT (pairsN l0 20) (keyL l1)).steps).length cap138) ((proveT (pairsN l0 20) (keyL l1)).steps)] := S223
   refine wl_nil (hl_back S223.sat ?_)
   refine hl_next 8 (by kernel_rfl) rfl ?_
   refine stPush (i := 0) (r := 0) (p := q) (cs := [(.int .i64 ((q.bit : Nat) : Int)), (.bool q.right), (.slice xa218 q.other.length xc219)]) S223 rfl i73 (.agg #[(.int .i64 0), (.bool false), (.slice none 0 0)]) 40 Tryd.underlying50 hi73 hz73 hs73 hb73 rfl (by decide) rfl rfl rfl rfl rfl (StpC.oneCell (p := q) ⟨_, _, _, rfl, rfl, rfl, r220⟩) (⟨_, _, _, rfl, rfl, rfl, r220⟩) (Nat.le_refl _) S223.gr.below.size (by unfold maxLen; omega) (by omega) ?_
   intro v224 w225 S226 hn227
   simp only [pS, pN, pA, pC, pZ]
   have S226 := St.drop S226 (L' := [⟨n149, [(.bool false), (.slice none 0 0)], 65⟩, ⟨n141, [(.bool false), (.slice (some ⟨g163, 0, none⟩) ((proveT (pairsN l0 20) (keyL l1)).steps).length cap138), (.slice ka127 (proveT (pairsN l0 20) (keyL l1)).pair.1.length kc128), (.slice va129 (proveT (pairsN l0 20) (keyL l1)).pair.2.length vc130)], 52⟩]) (.cons _ (List.Sublist.refl _))
   have S226 : St W (whole W) w225 F132 [⟨n149, [(.bool false), (.slice none 0 0)], 65⟩, ⟨n141, [(.bool false), (.slice (some ⟨g163, 0, none⟩) ((proveT (pairsN l0 20) (keyL l1)).steps).length cap138), (.slice ka127 (proveT (pairsN l0 20) (keyL l1)).pair.1.length kc128), (.slice va129 (proveT (pairsN l0 20) (keyL l1)).pair.2.length vc130)], 52⟩] [ownP 3 StpC StpC.mono 73 W.heap.size v224 ((proveT (pairsN l0 20) (keyL l1)).steps ++ [q])] := S226
   obtain ⟨a228, cap229, rfl, h230, h231⟩ := (S226.own (i := 0) rfl).shape
   unfold maxLen at h231
   refine wl_nil (hl_back S226.sat ?_)
   refine hl_take 9 rfl (by kernel_rfl) (v := (.pointer (some ⟨n141, 1, none⟩))) (fun _ _ _ h => h) S226.sat rfl (fun w232 hs233 => ex_field (q := ⟨n141, 1, none⟩) rfl (fa_52_1 _ _)) ?_
   simp only [pS, pN, pA, pC, pZ]
   refine hl_next 10 (by kernel_rfl) rfl ?_
   refine stStore (i := 1) (v := (.slice a228 ((proveT (pairsN l0 20) (keyL l1)).steps ++ [q]).length cap229)) S226 rfl rfl rfl rfl (size_50) (allc1 rfl) (Nat.le_of_ble_eq_true rfl) (fun w234 S235 => ?_)
   simp only [pS, pN, pA, pC, pZ]
   have S235 : St W (whole W) w234 F132 [⟨n149, [(.bool false), (.slice none 0 0)], 65⟩, ⟨n141, [(.bool false), (.slice a228 ((proveT (pairsN l0 20) (keyL l1)).steps ++ [q]).length cap229), (.slice ka127 (proveT (pairsN l0 20) (keyL l1)).pair.1.length kc128), (.slice va129 (proveT (pairsN l0 20) (keyL l1)).pair.2.length vc130)], 52⟩] [ownP 3 StpC StpC.mono 73 W.heap.size (.slice a228 ((proveT (pairsN l0 20) (keyL l1)).steps ++ [q]).length cap229) ((proveT (pairsN l0 20) (keyL l1)).steps ++ [q])] := S235
   refine wl_nil (hl_back S235.sat ?_)
   refine hl_done (by kernel_rfl) ?_
   refine hK202 _ _ ?_
   refine wp_seq_k (fun K236 hK236 => region_wl ?_)
   refine do_ rfl (.slice xa123 (keyL l1).length xc124) (ex_move _) ?_
   simp only [pS, pN, pA, pC, pZ]
   refine do_ rfl (.agg #[(.bool false), (.slice a228 ((proveT (pairsN l0 20) (keyL l1)).steps ++ [q]).length cap229), (.slice ka127 (proveT (pairsN l0 20) (keyL l1)).pair.1.length kc128), (.slice va129 (proveT (pairsN l0 20) (keyL l1)).pair.2.length vc130)]) (ex_load rfl (loadN (cs := [(.bool false), (.slice a228 ((proveT (pairsN l0 20) (keyL l1)).steps ++ [q]).length cap229), (.slice ka127 (proveT (pairsN l0 20) (keyL l1)).pair.1.length kc128), (.slice va129 (proveT (pairsN l0 20) (keyL l1)).pair.2.length vc130)]) Tryd.underlying52 rfl (size_52) (St.range S235 (i := 1) rfl 0 [(.bool false), (.slice a228 ((proveT (pairsN l0 20) (keyL l1)).steps ++ [q]).length cap229), (.slice ka127 (proveT (pairsN l0 20) (keyL l1)).pair.1.length kc128), (.slice va129 (proveT (pairsN l0 20) (keyL l1)).pair.2.length vc130)] (sub_range 0 rfl)))) ?_
   simp only [pS, pN, pA, pC, pZ]
   obtain ⟨F237, hs238, le239, hsl240⟩ := own_peek S235 (i := 0) rfl
   have hpv1 : PrfV F237 (.agg #[(.bool false), (.slice a228 ((proveT (pairsN l0 20) (keyL l1)).steps ++ [q]).length cap229), (.slice ka127 (proveT (pairsN l0 20) (keyL l1)).pair.1.length kc128), (.slice va129 (proveT (pairsN l0 20) (keyL l1)).pair.2.length vc130)]) (⟨false, ((proveT (pairsN l0 20) (keyL l1)).steps ++ [q]), (proveT (pairsN l0 20) (keyL l1)).pair⟩ : Prf) := ⟨a228, cap229, _, _, _, _, rfl, hsl240, r135.mono le239, r136.mono le239⟩
   refine stTells (v := (.int .i64 4)) S235 rfl (ex_fn (vs := #[(.slice xa123 (keyL l1).length xc124), (.agg #[(.bool false), (.slice a228 ((proveT (pairsN l0 20) (keyL l1)).steps ++ [q]).length cap229), (.slice ka127 (proveT (pairsN l0 20) (keyL l1)).pair.1.length kc128), (.slice va129 (proveT (pairsN l0 20) (keyL l1)).pair.2.length vc130)])]) (map2 rfl rfl) rfl (ent_34 _ _)) (checkFour_spec _ _ _ _ (keyL l1) (⟨false, ((proveT (pairsN l0 20) (keyL l1)).steps ++ [q]), (proveT (pairsN l0 20) (keyL l1)).pair⟩ : Prf) hs238 ((R121.mono le134).mono le239) hpv1 (keyL_len l1) rfl hpo (stps_app hpr.1 hqm) (by simp only [List.length_set, List.length_append, List.length_cons, List.length_nil]; omega) (dup_bad hqm)) (fun w241 S242 => ?_)
   simp only [pS, pN, pA, pC, pZ]
   refine do_ rfl (.int .i64 4) (ex_assign _) ?_
   simp only [pS, pN, pA, pC, pZ]
   refine wl_nil (hK236 _ _ ?_)
   refine wp_seq_k (fun K243 hK243 => region_wl ?_)
   refine do_ rfl (.int .i64 4) (ex_move _) ?_
   simp only [pS, pN, pA, pC, pZ]
   refine do_ rfl (.bool true) (ex_eql (b := true) rfl rfl (by decide)) ?_
   simp only [pS, pN, pA, pC, pZ]
   refine do_ rfl (.bool true) (ex_move _) ?_
   simp only [pS, pN, pA, pC, pZ]
   refine do_ rfl (.int .i64 4) (ex_move _) ?_
   simp only [pS, pN, pA, pC, pZ]
   refine do_ rfl (.bool true) (ex_eql (b := true) rfl rfl (by decide)) ?_
   simp only [pS, pN, pA, pC, pZ]
   refine do_ rfl (.bool true) (ex_pick (b := true) rfl) ?_
   simp only [pS, pN, pA, pC, pZ]
   refine do_ rfl (.bool true) (ex_assign _) ?_
   simp only [pS, pN, pA, pC, pZ]
   refine wl_nil (hK243 _ _ ?_)
   refine wp_ret ?_
   (try simp only [Exit.then, Exit.inBlock, ↓reduceIte, Nat.reduceEqDiff])
   refine bodyPost_ret (v := (.bool true)) ?_ rfl ?_
   ·exact res_t rfl rfl
   ·exact ⟨rfl, S242.gr.below⟩
  ·refine do_ rfl (.slice (some ⟨g163, 0, none⟩) ((proveT (pairsN l0 20) (keyL l1)).steps).length cap138) (ex_load rfl (load1 (nagg_50 _) (St.cell S203 (i := 1) rfl rfl))) ?_
   simp only [pS, pN, pA, pC, pZ]
   refine wl_nil (hl_back S203.sat ?_)
   refine hl_take 5 rfl (by kernel_rfl) (v := (.pointer (some ⟨g163, 0 + kn * 3, none⟩))) (fun _ _ _ h => h) S203.sat rfl (fun w244 hs245 => ex_at (i := kn) (sz := 3) Tryd.underlying50 (sizeof_73 _) rfl rfl rfl (by omega) rfl) ?_
   simp only [pS, pN, pA, pC, pZ]
   refine hl_two 1 6 (by kernel_rfl) rfl rfl ?_ ?_
   ·refine do_ rfl (.slice (some ⟨g163, 0, none⟩) ((proveT (pairsN l0 20) (keyL l1)).steps).length cap138) (ex_load rfl (load1 (nagg_50 _) (St.cell S203 (i := 1) rfl rfl))) ?_
    simp only [pS, pN, pA, pC, pZ]
    refine wl_nil (hl_back S203.sat ?_)
    refine hl_next 6 (by kernel_rfl) rfl ?_
    obtain ⟨g246, ha247, xa251, xc252, c248, c249, c250, r253⟩ := stp_at (S203.own (i := 0) rfl) hq
    injection ha247 with ha247; injection ha247 with ha247; subst ha247
    refine do_ rfl (.agg #[(.int .i64 ((q.bit : Nat) : Int)), (.bool q.right), (.slice xa251 q.other.length xc252)]) (ex_load rfl (loadN (cs := [(.int .i64 ((q.bit : Nat) : Int)), (.bool q.right), (.slice xa251 q.other.length xc252)]) Tryd.underlying73 rfl (size_73) (range3 c248 c249 c250))) ?_
    simp only [pS, pN, pA, pC, pZ]
    refine wl_nil (hl_back S203.sat ?_)
    refine hl_next 7 (by kernel_rfl) rfl ?_
    refine stNew S203 (v := fun n => .slice (some ⟨n, 0, none⟩) 1 1) rfl (ex_lit (ps := #[(0, (.agg #[(.int .i64 ((q.bit : Nat) : Int)), (.bool q.right), (.slice xa251 q.other.length xc252)]))]) (cells := #[(.int .i64 ((q.bit : Nat) : Int)), (.bool q.right), (.slice xa251 q.other.length xc252)]) (E := 73) (bmap1 rfl) (fun w => by kernel_rfl)) (fun n254 w255 S256 => ?_)
    simp only [pS, pN, pA, pC, pZ]
    have S256 : St W (whole W) w255 F132 [⟨n254, [(.int .i64 ((q.bit : Nat) : Int)), (.bool q.right), (.slice xa251 q.other.length xc252)], 73⟩, ⟨n149, [(.bool false), (.slice none 0 0)], 65⟩, ⟨n141, [(.bool false), (.slice (some ⟨g163, 0, none⟩) ((proveT (pairsN l0 20) (keyL l1)).steps).length cap138), (.slice ka127 (proveT (pairsN l0 20) (keyL l1)).pair.1.length kc128), (.slice va129 (proveT (pairsN l0 20) (keyL l1)).pair.2.length vc130)], 52⟩] [ownP 3 StpC StpC.mono 73 W.heap.size (.slice (some ⟨g163, 0, none⟩) ((proveT (pairsN l0 20) (keyL l1)).steps).length cap138) ((proveT (pairsN l0 20) (keyL l1)).steps)] := S256
    refine wl_nil (hl_back S256.sat ?_)
    refine hl_next 8 (by kernel_rfl) rfl ?_
    refine stPush (i := 0) (r := 0) (p := q) (cs := [(.int .i64 ((q.bit : Nat) : Int)), (.bool q.right), (.slice xa251 q.other.length xc252)]) S256 rfl i73 (.agg #[(.int .i64 0), (.bool false), (.slice none 0 0)]) 40 Tryd.underlying50 hi73 hz73 hs73 hb73 rfl (by decide) rfl rfl rfl rfl rfl (StpC.oneCell (p := q) ⟨_, _, _, rfl, rfl, rfl, r253⟩) (⟨_, _, _, rfl, rfl, rfl, r253⟩) (Nat.le_refl _) S256.gr.below.size (by unfold maxLen; omega) (by omega) ?_
    intro v257 w258 S259 hn260
    simp only [pS, pN, pA, pC, pZ]
    have S259 := St.drop S259 (L' := [⟨n149, [(.bool false), (.slice none 0 0)], 65⟩, ⟨n141, [(.bool false), (.slice (some ⟨g163, 0, none⟩) ((proveT (pairsN l0 20) (keyL l1)).steps).length cap138), (.slice ka127 (proveT (pairsN l0 20) (keyL l1)).pair.1.length kc128), (.slice va129 (proveT (pairsN l0 20) (keyL l1)).pair.2.length vc130)], 52⟩]) (.cons _ (List.Sublist.refl _))
    have S259 : St W (whole W) w258 F132 [⟨n149, [(.bool false), (.slice none 0 0)], 65⟩, ⟨n141, [(.bool false), (.slice (some ⟨g163, 0, none⟩) ((proveT (pairsN l0 20) (keyL l1)).steps).length cap138), (.slice ka127 (proveT (pairsN l0 20) (keyL l1)).pair.1.length kc128), (.slice va129 (proveT (pairsN l0 20) (keyL l1)).pair.2.length vc130)], 52⟩] [ownP 3 StpC StpC.mono 73 W.heap.size v257 ((proveT (pairsN l0 20) (keyL l1)).steps ++ [q])] := S259
    obtain ⟨a261, cap262, rfl, h263, h264⟩ := (S259.own (i := 0) rfl).shape
    unfold maxLen at h264
    refine wl_nil (hl_back S259.sat ?_)
    refine hl_take 9 rfl (by kernel_rfl) (v := (.pointer (some ⟨n141, 1, none⟩))) (fun _ _ _ h => h) S259.sat rfl (fun w265 hs266 => ex_field (q := ⟨n141, 1, none⟩) rfl (fa_52_1 _ _)) ?_
    simp only [pS, pN, pA, pC, pZ]
    refine hl_next 10 (by kernel_rfl) rfl ?_
    refine stStore (i := 1) (v := (.slice a261 ((proveT (pairsN l0 20) (keyL l1)).steps ++ [q]).length cap262)) S259 rfl rfl rfl rfl (size_50) (allc1 rfl) (Nat.le_of_ble_eq_true rfl) (fun w267 S268 => ?_)
    simp only [pS, pN, pA, pC, pZ]
    have S268 : St W (whole W) w267 F132 [⟨n149, [(.bool false), (.slice none 0 0)], 65⟩, ⟨n141, [(.bool false), (.slice a261 ((proveT (pairsN l0 20) (keyL l1)).steps ++ [q]).length cap262), (.slice ka127 (proveT (pairsN l0 20) (keyL l1)).pair.1.length kc128), (.slice va129 (proveT (pairsN l0 20) (keyL l1)).pair.2.length vc130)], 52⟩] [ownP 3 StpC StpC.mono 73 W.heap.size (.slice a261 ((proveT (pairsN l0 20) (keyL l1)).steps ++ [q]).length cap262) ((proveT (pairsN l0 20) (keyL l1)).steps ++ [q])] := S268
    refine wl_nil (hl_back S268.sat ?_)
    refine hl_done (by kernel_rfl) ?_
    refine hK202 _ _ ?_
    refine wp_seq_k (fun K269 hK269 => region_wl ?_)
    refine do_ rfl (.slice xa123 (keyL l1).length xc124) (ex_move _) ?_
    simp only [pS, pN, pA, pC, pZ]
    refine do_ rfl (.agg #[(.bool false), (.slice a261 ((proveT (pairsN l0 20) (keyL l1)).steps ++ [q]).length cap262), (.slice ka127 (proveT (pairsN l0 20) (keyL l1)).pair.1.length kc128), (.slice va129 (proveT (pairsN l0 20) (keyL l1)).pair.2.length vc130)]) (ex_load rfl (loadN (cs := [(.bool false), (.slice a261 ((proveT (pairsN l0 20) (keyL l1)).steps ++ [q]).length cap262), (.slice ka127 (proveT (pairsN l0 20) (keyL l1)).pair.1.length kc128), (.slice va129 (proveT (pairsN l0 20) (keyL l1)).pair.2.length vc130)]) Tryd.underlying52 rfl (size_52) (St.range S268 (i := 1) rfl 0 [(.bool false), (.slice a261 ((proveT (pairsN l0 20) (keyL l1)).steps ++ [q]).length cap262), (.slice ka127 (proveT (pairsN l0 20) (keyL l1)).pair.1.length kc128), (.slice va129 (proveT (pairsN l0 20) (keyL l1)).pair.2.length vc130)] (sub_range 0 rfl)))) ?_
    simp only [pS, pN, pA, pC, pZ]
    obtain ⟨F270, hs271, le272, hsl273⟩ := own_peek S268 (i := 0) rfl
    have hpv2 : PrfV F270 (.agg #[(.bool false), (.slice a261 ((proveT (pairsN l0 20) (keyL l1)).steps ++ [q]).length cap262), (.slice ka127 (proveT (pairsN l0 20) (keyL l1)).pair.1.length kc128), (.slice va129 (proveT (pairsN l0 20) (keyL l1)).pair.2.length vc130)]) (⟨false, ((proveT (pairsN l0 20) (keyL l1)).steps ++ [q]), (proveT (pairsN l0 20) (keyL l1)).pair⟩ : Prf) := ⟨a261, cap262, _, _, _, _, rfl, hsl273, r135.mono le272, r136.mono le272⟩
    refine stTells (v := (.int .i64 4)) S268 rfl (ex_fn (vs := #[(.slice xa123 (keyL l1).length xc124), (.agg #[(.bool false), (.slice a261 ((proveT (pairsN l0 20) (keyL l1)).steps ++ [q]).length cap262), (.slice ka127 (proveT (pairsN l0 20) (keyL l1)).pair.1.length kc128), (.slice va129 (proveT (pairsN l0 20) (keyL l1)).pair.2.length vc130)])]) (map2 rfl rfl) rfl (ent_34 _ _)) (checkFour_spec _ _ _ _ (keyL l1) (⟨false, ((proveT (pairsN l0 20) (keyL l1)).steps ++ [q]), (proveT (pairsN l0 20) (keyL l1)).pair⟩ : Prf) hs271 ((R121.mono le134).mono le272) hpv2 (keyL_len l1) rfl hpo (stps_app hpr.1 hqm) (by simp only [List.length_set, List.length_append, List.length_cons, List.length_nil]; omega) (dup_bad hqm)) (fun w274 S275 => ?_)
    simp only [pS, pN, pA, pC, pZ]
    refine do_ rfl (.int .i64 4) (ex_assign _) ?_
    simp only [pS, pN, pA, pC, pZ]
    refine wl_nil (hK269 _ _ ?_)
    refine wp_seq_k (fun K276 hK276 => region_wl ?_)
    refine do_ rfl (.int .i64 4) (ex_move _) ?_
    simp only [pS, pN, pA, pC, pZ]
    refine do_ rfl (.bool true) (ex_eql (b := true) rfl rfl (by decide)) ?_
    simp only [pS, pN, pA, pC, pZ]
    refine do_ rfl (.bool true) (ex_move _) ?_
    simp only [pS, pN, pA, pC, pZ]
    refine do_ rfl (.int .i64 4) (ex_move _) ?_
    simp only [pS, pN, pA, pC, pZ]
    refine do_ rfl (.bool true) (ex_eql (b := true) rfl rfl (by decide)) ?_
    simp only [pS, pN, pA, pC, pZ]
    refine do_ rfl (.bool true) (ex_pick (b := true) rfl) ?_
    simp only [pS, pN, pA, pC, pZ]
    refine do_ rfl (.bool true) (ex_assign _) ?_
    simp only [pS, pN, pA, pC, pZ]
    refine wl_nil (hK276 _ _ ?_)
    refine wp_ret ?_
    (try simp only [Exit.then, Exit.inBlock, ↓reduceIte, Nat.reduceEqDiff])
    refine bodyPost_ret (v := (.bool true)) ?_ rfl ?_
    ·exact res_t rfl rfl
    ·exact ⟨rfl, S275.gr.below⟩
   ·obtain ⟨g277, ha278, xa282, xc283, c279, c280, c281, r284⟩ := stp_at (S203.own (i := 0) rfl) hq
    injection ha278 with ha278; injection ha278 with ha278; subst ha278
    refine do_ rfl (.agg #[(.int .i64 ((q.bit : Nat) : Int)), (.bool q.right), (.slice xa282 q.other.length xc283)]) (ex_load rfl (loadN (cs := [(.int .i64 ((q.bit : Nat) : Int)), (.bool q.right), (.slice xa282 q.other.length xc283)]) Tryd.underlying73 rfl (size_73) (range3 c279 c280 c281))) ?_
    simp only [pS, pN, pA, pC, pZ]
    refine wl_nil (hl_back S203.sat ?_)
    refine hl_two 1 7 (by kernel_rfl) rfl rfl ?_ ?_
    ·refine do_ rfl (.slice (some ⟨g163, 0, none⟩) ((proveT (pairsN l0 20) (keyL l1)).steps).length cap138) (ex_load rfl (load1 (nagg_50 _) (St.cell S203 (i := 1) rfl rfl))) ?_
     simp only [pS, pN, pA, pC, pZ]
     refine wl_nil (hl_back S203.sat ?_)
     refine hl_next 7 (by kernel_rfl) rfl ?_
     refine stNew S203 (v := fun n => .slice (some ⟨n, 0, none⟩) 1 1) rfl (ex_lit (ps := #[(0, (.agg #[(.int .i64 ((q.bit : Nat) : Int)), (.bool q.right), (.slice xa282 q.other.length xc283)]))]) (cells := #[(.int .i64 ((q.bit : Nat) : Int)), (.bool q.right), (.slice xa282 q.other.length xc283)]) (E := 73) (bmap1 rfl) (fun w => by kernel_rfl)) (fun n285 w286 S287 => ?_)
     simp only [pS, pN, pA, pC, pZ]
     have S287 : St W (whole W) w286 F132 [⟨n285, [(.int .i64 ((q.bit : Nat) : Int)), (.bool q.right), (.slice xa282 q.other.length xc283)], 73⟩, ⟨n149, [(.bool false), (.slice none 0 0)], 65⟩, ⟨n141, [(.bool false), (.slice (some ⟨g163, 0, none⟩) ((proveT (pairsN l0 20) (keyL l1)).steps).length cap138), (.slice ka127 (proveT (pairsN l0 20) (keyL l1)).pair.1.length kc128), (.slice va129 (proveT (pairsN l0 20) (keyL l1)).pair.2.length vc130)], 52⟩] [ownP 3 StpC StpC.mono 73 W.heap.size (.slice (some ⟨g163, 0, none⟩) ((proveT (pairsN l0 20) (keyL l1)).steps).length cap138) ((proveT (pairsN l0 20) (keyL l1)).steps)] := S287
     refine wl_nil (hl_back S287.sat ?_)
     refine hl_next 8 (by kernel_rfl) rfl ?_
     refine stPush (i := 0) (r := 0) (p := q) (cs := [(.int .i64 ((q.bit : Nat) : Int)), (.bool q.right), (.slice xa282 q.other.length xc283)]) S287 rfl i73 (.agg #[(.int .i64 0), (.bool false), (.slice none 0 0)]) 40 Tryd.underlying50 hi73 hz73 hs73 hb73 rfl (by decide) rfl rfl rfl rfl rfl (StpC.oneCell (p := q) ⟨_, _, _, rfl, rfl, rfl, r284⟩) (⟨_, _, _, rfl, rfl, rfl, r284⟩) (Nat.le_refl _) S287.gr.below.size (by unfold maxLen; omega) (by omega) ?_
     intro v288 w289 S290 hn291
     simp only [pS, pN, pA, pC, pZ]
     have S290 := St.drop S290 (L' := [⟨n149, [(.bool false), (.slice none 0 0)], 65⟩, ⟨n141, [(.bool false), (.slice (some ⟨g163, 0, none⟩) ((proveT (pairsN l0 20) (keyL l1)).steps).length cap138), (.slice ka127 (proveT (pairsN l0 20) (keyL l1)).pair.1.length kc128), (.slice va129 (proveT (pairsN l0 20) (keyL l1)).pair.2.length vc130)], 52⟩]) (.cons _ (List.Sublist.refl _))
     have S290 : St W (whole W) w289 F132 [⟨n149, [(.bool false), (.slice none 0 0)], 65⟩, ⟨n141, [(.bool false), (.slice (some ⟨g163, 0, none⟩) ((proveT (pairsN l0 20) (keyL l1)).steps).length cap138), (.slice ka127 (proveT (pairsN l0 20) (keyL l1)).pair.1.length kc128), (.slice va129 (proveT (pairsN l0 20) (keyL l1)).pair.2.length vc130)], 52⟩] [ownP 3 StpC StpC.mono 73 W.heap.size v288 ((proveT (pairsN l0 20) (keyL l1)).steps ++ [q])] := S290
     obtain ⟨a292, cap293, rfl, h294, h295⟩ := (S290.own (i := 0) rfl).shape
     unfold maxLen at h295
     refine wl_nil (hl_back S290.sat ?_)
     refine hl_take 9 rfl (by kernel_rfl) (v := (.pointer (some ⟨n141, 1, none⟩))) (fun _ _ _ h => h) S290.sat rfl (fun w296 hs297 => ex_field (q := ⟨n141, 1, none⟩) rfl (fa_52_1 _ _)) ?_
     simp only [pS, pN, pA, pC, pZ]
     refine hl_next 10 (by kernel_rfl) rfl ?_
     refine stStore (i := 1) (v := (.slice a292 ((proveT (pairsN l0 20) (keyL l1)).steps ++ [q]).length cap293)) S290 rfl rfl rfl rfl (size_50) (allc1 rfl) (Nat.le_of_ble_eq_true rfl) (fun w298 S299 => ?_)
     simp only [pS, pN, pA, pC, pZ]
     have S299 : St W (whole W) w298 F132 [⟨n149, [(.bool false), (.slice none 0 0)], 65⟩, ⟨n141, [(.bool false), (.slice a292 ((proveT (pairsN l0 20) (keyL l1)).steps ++ [q]).length cap293), (.slice ka127 (proveT (pairsN l0 20) (keyL l1)).pair.1.length kc128), (.slice va129 (proveT (pairsN l0 20) (keyL l1)).pair.2.length vc130)], 52⟩] [ownP 3 StpC StpC.mono 73 W.heap.size (.slice a292 ((proveT (pairsN l0 20) (keyL l1)).steps ++ [q]).length cap293) ((proveT (pairsN l0 20) (keyL l1)).steps ++ [q])] := S299
     refine wl_nil (hl_back S299.sat ?_)
     refine hl_done (by kernel_rfl) ?_
     refine hK202 _ _ ?_
     refine wp_seq_k (fun K300 hK300 => region_wl ?_)
     refine do_ rfl (.slice xa123 (keyL l1).length xc124) (ex_move _) ?_
     simp only [pS, pN, pA, pC, pZ]
     refine do_ rfl (.agg #[(.bool false), (.slice a292 ((proveT (pairsN l0 20) (keyL l1)).steps ++ [q]).length cap293), (.slice ka127 (proveT (pairsN l0 20) (keyL l1)).pair.1.length kc128), (.slice va129 (proveT (pairsN l0 20) (keyL l1)).pair.2.length vc130)]) (ex_load rfl (loadN (cs := [(.bool false), (.slice a292 ((proveT (pairsN l0 20) (keyL l1)).steps ++ [q]).length cap293), (.slice ka127 (proveT (pairsN l0 20) (keyL l1)).pair.1.length kc128), (.slice va129 (proveT (pairsN l0 20) (keyL l1)).pair.2.length vc130)]) Tryd.underlying52 rfl (size_52) (St.range S299 (i := 1) rfl 0 [(.bool false), (.slice a292 ((proveT (pairsN l0 20) (keyL l1)).steps ++ [q]).length cap293), (.slice ka127 (proveT (pairsN l0 20) (keyL l1)).pair.1.length kc128), (.slice va129 (proveT (pairsN l0 20) (keyL l1)).pair.2.length vc130)] (sub_range 0 rfl)))) ?_
     simp only [pS, pN, pA, pC, pZ]
     obtain ⟨F301, hs302, le303, hsl304⟩ := own_peek S299 (i := 0) rfl
     have hpv3 : PrfV F301 (.agg #[(.bool false), (.slice a292 ((proveT (pairsN l0 20) (keyL l1)).steps ++ [q]).length cap293), (.slice ka127 (proveT (pairsN l0 20) (keyL l1)).pair.1.length kc128), (.slice va129 (proveT (pairsN l0 20) (keyL l1)).pair.2.length vc130)]) (⟨false, ((proveT (pairsN l0 20) (keyL l1)).steps ++ [q]), (proveT (pairsN l0 20) (keyL l1)).pair⟩ : Prf) := ⟨a292, cap293, _, _, _, _, rfl, hsl304, r135.mono le303, r136.mono le303⟩
     refine stTells (v := (.int .i64 4)) S299 rfl (ex_fn (vs := #[(.slice xa123 (keyL l1).length xc124), (.agg #[(.bool false), (.slice a292 ((proveT (pairsN l0 20) (keyL l1)).steps ++ [q]).length cap293), (.slice ka127 (proveT (pairsN l0 20) (keyL l1)).pair.1.length kc128), (.slice va129 (proveT (pairsN l0 20) (keyL l1)).pair.2.length vc130)])]) (map2 rfl rfl) rfl (ent_34 _ _)) (checkFour_spec _ _ _ _ (keyL l1) (⟨false, ((proveT (pairsN l0 20) (keyL l1)).steps ++ [q]), (proveT (pairsN l0 20) (keyL l1)).pair⟩ : Prf) hs302 ((R121.mono le134).mono le303) hpv3 (keyL_len l1) rfl hpo (stps_app hpr.1 hqm) (by simp only [List.length_set, List.length_append, List.length_cons, List.length_nil]; omega) (dup_bad hqm)) (fun w305 S306 => ?_)
     simp only [pS, pN, pA, pC, pZ]
     refine do_ rfl (.int .i64 4) (ex_assign _) ?_
     simp only [pS, pN, pA, pC, pZ]
     refine wl_nil (hK300 _ _ ?_)
     refine wp_seq_k (fun K307 hK307 => region_wl ?_)
     refine do_ rfl (.int .i64 4) (ex_move _) ?_
     simp only [pS, pN, pA, pC, pZ]
     refine do_ rfl (.bool true) (ex_eql (b := true) rfl rfl (by decide)) ?_
     simp only [pS, pN, pA, pC, pZ]
     refine do_ rfl (.bool true) (ex_move _) ?_
     simp only [pS, pN, pA, pC, pZ]
     refine do_ rfl (.int .i64 4) (ex_move _) ?_
     simp only [pS, pN, pA, pC, pZ]
     refine do_ rfl (.bool true) (ex_eql (b := true) rfl rfl (by decide)) ?_
     simp only [pS, pN, pA, pC, pZ]
     refine do_ rfl (.bool true) (ex_pick (b := true) rfl) ?_
     simp only [pS, pN, pA, pC, pZ]
     refine do_ rfl (.bool true) (ex_assign _) ?_
     simp only [pS, pN, pA, pC, pZ]
     refine wl_nil (hK307 _ _ ?_)
     refine wp_ret ?_
     (try simp only [Exit.then, Exit.inBlock, ↓reduceIte, Nat.reduceEqDiff])
     refine bodyPost_ret (v := (.bool true)) ?_ rfl ?_
     ·exact res_t rfl rfl
     ·exact ⟨rfl, S306.gr.below⟩
    ·refine stNew S203 (v := fun n => .slice (some ⟨n, 0, none⟩) 1 1) rfl (ex_lit (ps := #[(0, (.agg #[(.int .i64 ((q.bit : Nat) : Int)), (.bool q.right), (.slice xa282 q.other.length xc283)]))]) (cells := #[(.int .i64 ((q.bit : Nat) : Int)), (.bool q.right), (.slice xa282 q.other.length xc283)]) (E := 73) (bmap1 rfl) (fun w => by kernel_rfl)) (fun n308 w309 S310 => ?_)
     simp only [pS, pN, pA, pC, pZ]
     have S310 : St W (whole W) w309 F132 [⟨n308, [(.int .i64 ((q.bit : Nat) : Int)), (.bool q.right), (.slice xa282 q.other.length xc283)], 73⟩, ⟨n149, [(.bool false), (.slice none 0 0)], 65⟩, ⟨n141, [(.bool false), (.slice (some ⟨g163, 0, none⟩) ((proveT (pairsN l0 20) (keyL l1)).steps).length cap138), (.slice ka127 (proveT (pairsN l0 20) (keyL l1)).pair.1.length kc128), (.slice va129 (proveT (pairsN l0 20) (keyL l1)).pair.2.length vc130)], 52⟩] [ownP 3 StpC StpC.mono 73 W.heap.size (.slice (some ⟨g163, 0, none⟩) ((proveT (pairsN l0 20) (keyL l1)).steps).length cap138) ((proveT (pairsN l0 20) (keyL l1)).steps)] := S310
     refine wl_nil (hl_back S310.sat ?_)
     refine hl_next 1 (by kernel_rfl) rfl ?_
     refine do_ rfl (.slice (some ⟨g163, 0, none⟩) ((proveT (pairsN l0 20) (keyL l1)).steps).length cap138) (ex_load rfl (load1 (nagg_50 _) (St.cell S310 (i := 2) rfl rfl))) ?_
     simp only [pS, pN, pA, pC, pZ]
     refine wl_nil (hl_back S310.sat ?_)
     refine hl_next 8 (by kernel_rfl) rfl ?_
     refine stPush (i := 0) (r := 0) (p := q) (cs := [(.int .i64 ((q.bit : Nat) : Int)), (.bool q.right), (.slice xa282 q.other.length xc283)]) S310 rfl i73 (.agg #[(.int .i64 0), (.bool false), (.slice none 0 0)]) 40 Tryd.underlying50 hi73 hz73 hs73 hb73 rfl (by decide) rfl rfl rfl rfl rfl (StpC.oneCell (p := q) ⟨_, _, _, rfl, rfl, rfl, r284⟩) (⟨_, _, _, rfl, rfl, rfl, r284⟩) (Nat.le_refl _) S310.gr.below.size (by unfold maxLen; omega) (by omega) ?_
     intro v311 w312 S313 hn314
     simp only [pS, pN, pA, pC, pZ]
     have S313 := St.drop S313 (L' := [⟨n149, [(.bool false), (.slice none 0 0)], 65⟩, ⟨n141, [(.bool false), (.slice (some ⟨g163, 0, none⟩) ((proveT (pairsN l0 20) (keyL l1)).steps).length cap138), (.slice ka127 (proveT (pairsN l0 20) (keyL l1)).pair.1.length kc128), (.slice va129 (proveT (pairsN l0 20) (keyL l1)).pair.2.length vc130)], 52⟩]) (.cons _ (List.Sublist.refl _))
     have S313 : St W (whole W) w312 F132 [⟨n149, [(.bool false), (.slice none 0 0)], 65⟩, ⟨n141, [(.bool false), (.slice (some ⟨g163, 0, none⟩) ((proveT (pairsN l0 20) (keyL l1)).steps).length cap138), (.slice ka127 (proveT (pairsN l0 20) (keyL l1)).pair.1.length kc128), (.slice va129 (proveT (pairsN l0 20) (keyL l1)).pair.2.length vc130)], 52⟩] [ownP 3 StpC StpC.mono 73 W.heap.size v311 ((proveT (pairsN l0 20) (keyL l1)).steps ++ [q])] := S313
     obtain ⟨a315, cap316, rfl, h317, h318⟩ := (S313.own (i := 0) rfl).shape
     unfold maxLen at h318
     refine wl_nil (hl_back S313.sat ?_)
     refine hl_take 9 rfl (by kernel_rfl) (v := (.pointer (some ⟨n141, 1, none⟩))) (fun _ _ _ h => h) S313.sat rfl (fun w319 hs320 => ex_field (q := ⟨n141, 1, none⟩) rfl (fa_52_1 _ _)) ?_
     simp only [pS, pN, pA, pC, pZ]
     refine hl_next 10 (by kernel_rfl) rfl ?_
     refine stStore (i := 1) (v := (.slice a315 ((proveT (pairsN l0 20) (keyL l1)).steps ++ [q]).length cap316)) S313 rfl rfl rfl rfl (size_50) (allc1 rfl) (Nat.le_of_ble_eq_true rfl) (fun w321 S322 => ?_)
     simp only [pS, pN, pA, pC, pZ]
     have S322 : St W (whole W) w321 F132 [⟨n149, [(.bool false), (.slice none 0 0)], 65⟩, ⟨n141, [(.bool false), (.slice a315 ((proveT (pairsN l0 20) (keyL l1)).steps ++ [q]).length cap316), (.slice ka127 (proveT (pairsN l0 20) (keyL l1)).pair.1.length kc128), (.slice va129 (proveT (pairsN l0 20) (keyL l1)).pair.2.length vc130)], 52⟩] [ownP 3 StpC StpC.mono 73 W.heap.size (.slice a315 ((proveT (pairsN l0 20) (keyL l1)).steps ++ [q]).length cap316) ((proveT (pairsN l0 20) (keyL l1)).steps ++ [q])] := S322
     refine wl_nil (hl_back S322.sat ?_)
     refine hl_done (by kernel_rfl) ?_
     refine hK202 _ _ ?_
     refine wp_seq_k (fun K323 hK323 => region_wl ?_)
     refine do_ rfl (.slice xa123 (keyL l1).length xc124) (ex_move _) ?_
     simp only [pS, pN, pA, pC, pZ]
     refine do_ rfl (.agg #[(.bool false), (.slice a315 ((proveT (pairsN l0 20) (keyL l1)).steps ++ [q]).length cap316), (.slice ka127 (proveT (pairsN l0 20) (keyL l1)).pair.1.length kc128), (.slice va129 (proveT (pairsN l0 20) (keyL l1)).pair.2.length vc130)]) (ex_load rfl (loadN (cs := [(.bool false), (.slice a315 ((proveT (pairsN l0 20) (keyL l1)).steps ++ [q]).length cap316), (.slice ka127 (proveT (pairsN l0 20) (keyL l1)).pair.1.length kc128), (.slice va129 (proveT (pairsN l0 20) (keyL l1)).pair.2.length vc130)]) Tryd.underlying52 rfl (size_52) (St.range S322 (i := 1) rfl 0 [(.bool false), (.slice a315 ((proveT (pairsN l0 20) (keyL l1)).steps ++ [q]).length cap316), (.slice ka127 (proveT (pairsN l0 20) (keyL l1)).pair.1.length kc128), (.slice va129 (proveT (pairsN l0 20) (keyL l1)).pair.2.length vc130)] (sub_range 0 rfl)))) ?_
     simp only [pS, pN, pA, pC, pZ]
     obtain ⟨F324, hs325, le326, hsl327⟩ := own_peek S322 (i := 0) rfl
     have hpv4 : PrfV F324 (.agg #[(.bool false), (.slice a315 ((proveT (pairsN l0 20) (keyL l1)).steps ++ [q]).length cap316), (.slice ka127 (proveT (pairsN l0 20) (keyL l1)).pair.1.length kc128), (.slice va129 (proveT (pairsN l0 20) (keyL l1)).pair.2.length vc130)]) (⟨false, ((proveT (pairsN l0 20) (keyL l1)).steps ++ [q]), (proveT (pairsN l0 20) (keyL l1)).pair⟩ : Prf) := ⟨a315, cap316, _, _, _, _, rfl, hsl327, r135.mono le326, r136.mono le326⟩
     refine stTells (v := (.int .i64 4)) S322 rfl (ex_fn (vs := #[(.slice xa123 (keyL l1).length xc124), (.agg #[(.bool false), (.slice a315 ((proveT (pairsN l0 20) (keyL l1)).steps ++ [q]).length cap316), (.slice ka127 (proveT (pairsN l0 20) (keyL l1)).pair.1.length kc128), (.slice va129 (proveT (pairsN l0 20) (keyL l1)).pair.2.length vc130)])]) (map2 rfl rfl) rfl (ent_34 _ _)) (checkFour_spec _ _ _ _ (keyL l1) (⟨false, ((proveT (pairsN l0 20) (keyL l1)).steps ++ [q]), (proveT (pairsN l0 20) (keyL l1)).pair⟩ : Prf) hs325 ((R121.mono le134).mono le326) hpv4 (keyL_len l1) rfl hpo (stps_app hpr.1 hqm) (by simp only [List.length_set, List.length_append, List.length_cons, List.length_nil]; omega) (dup_bad hqm)) (fun w328 S329 => ?_)
     simp only [pS, pN, pA, pC, pZ]
     refine do_ rfl (.int .i64 4) (ex_assign _) ?_
     simp only [pS, pN, pA, pC, pZ]
     refine wl_nil (hK323 _ _ ?_)
     refine wp_seq_k (fun K330 hK330 => region_wl ?_)
     refine do_ rfl (.int .i64 4) (ex_move _) ?_
     simp only [pS, pN, pA, pC, pZ]
     refine do_ rfl (.bool true) (ex_eql (b := true) rfl rfl (by decide)) ?_
     simp only [pS, pN, pA, pC, pZ]
     refine do_ rfl (.bool true) (ex_move _) ?_
     simp only [pS, pN, pA, pC, pZ]
     refine do_ rfl (.int .i64 4) (ex_move _) ?_
     simp only [pS, pN, pA, pC, pZ]
     refine do_ rfl (.bool true) (ex_eql (b := true) rfl rfl (by decide)) ?_
     simp only [pS, pN, pA, pC, pZ]
     refine do_ rfl (.bool true) (ex_pick (b := true) rfl) ?_
     simp only [pS, pN, pA, pC, pZ]
     refine do_ rfl (.bool true) (ex_assign _) ?_
     simp only [pS, pN, pA, pC, pZ]
     refine wl_nil (hK330 _ _ ?_)
     refine wp_ret ?_
     (try simp only [Exit.then, Exit.inBlock, ↓reduceIte, Nat.reduceEqDiff])
     refine bodyPost_ret (v := (.bool true)) ?_ rfl ?_
     ·exact res_t rfl rfl
     ·exact ⟨rfl, S329.gr.below⟩
end Go.Proofs.YtcanckliggcllaaDoor
