/- The walk of ProofParts -/
import Derived.Test.YtcanckliggcllaaDoorCA7
import Derived.Test.YtcanckliggcllaaDoorCA4
namespace Go.Proofs.YtcanckliggcllaaDoor
open Go.RowKit
set_option maxRecDepth 100000
set_option linter.unusedVariables false
set_option linter.unusedSimpArgs false
theorem stGivesPrf {P : Program} {ops : Array Oper} {Q : Exit → Act → World → Prop} {a : Act} {rest : List Oper} {o : Oper} {kf : FuncId} {vs : Array Value} {w0 w : World} {F0 F : Fz} {L : List Blk} {M : List RowP} {p : Prf} (S : St w0 F0 w F L M) (hw : Region.wanted o (yielded ops a.tmps) = true)
    (hr : (execOp a.eval o).run P w = .ok (.enter kf vs) w) (hc : Calls P kf vs w (GivesPrf w F p))
    (h : ∀ v ka kc va vc w' F', St w0 F0 w' F' L (ownP 3 StpC StpC.mono 73 w0.heap.size v p.steps :: M) → Le F F' → Bs F' (.slice ka p.pair.1.length kc) p.pair.1 → Bs F' (.slice va p.pair.2.length vc) p.pair.2 → WL P ops Q rest (a.put o.dst (.tuple #[.agg #[.bool p.empty, v, .slice ka p.pair.1.length kc, .slice va p.pair.2.length vc], .int .i64 0])) w') : WL P ops Q (o :: rest) a w :=
  doC hw hr hc fun e w' ⟨v, ka, kc, va, vc, F', he, g, ho, h1, h2⟩ => ⟨_, he, h v ka kc va vc w' F' (S.addRow g ho) (g.le S.sat) h1 h2⟩
theorem prove_steps {n : Nat} {l : List Pr} (ok : TreeOk n l) (k : By) : StpsOk (proveT l k).steps ∧ (∀ s ∈ (proveT l k).steps, bitL k s.bit = s.right ∧ bitL (proveT l k).pair.1 s.bit = s.right) ∧ (proveT l k).steps.length ≤ l.length ∧ (2 ≤ l.length → 0 < (proveT l k).steps.length) ∧ (l ≠ [] → (proveT l k).empty = false ∧ (proveT l k).pair ∈ l) := by
  unfold proveT
  by_cases e : l = []
  · rw [if_pos e]; subst e; exact ⟨fun s hs => by simp at hs, fun s hs => by simp at hs, by simp, by simp, fun h => absurd rfl h⟩
  · rw [if_neg e]
    have h1 := List.length_pos_iff.2 e
    have hr := steps_rise l.length l k 0 ok.keys h1 (fun p _ q _ j hj => by omega)
    have hso : ∀ {B : Nat} {s : List Stp}, RiseS B s → StpsOk s := by
      intro B s
      induction s generalizing B with
      | nil => intro _ x hx; simp at hx
      | cons x s ih =>
        intro h y hy
        obtain ⟨_, h2, h3, h4⟩ := h
        rcases List.mem_cons.1 hy with rfl | hy
        · exact ⟨h2, h3⟩
        · exact ih h4 y hy
    refine ⟨hso hr, steps_way l.length l k ok.keys h1, by have := steps_len l.length l k ok.keys h1; simp only; omega, fun h2 => ?_, fun _ => ⟨rfl, steps_pair l.length l k ok.keys h1⟩⟩
    simp only
    match hl : l.length, h1 with
    | n + 1, _ => unfold stepsN; rw [if_neg (by omega)]; simp
theorem stp_len {F : Fz} {v : Value} {p : Prf} (h : Stps F v p.steps) : True := trivial
theorem way_all {k pk : By} {s : List Stp} {b : Int} (h : wayB k pk b s = true) : ∀ x ∈ s, bitL k x.bit = x.right ∧ bitL pk x.bit = x.right := wayB_way h
theorem way_rise {k pk : By} : ∀ {l : List Stp} {b : Int} {q : Stp}, wayB k pk b (l ++ [q]) = true → ∀ s ∈ l, s.bit < q.bit
  | [], _, _, _, s, hs => by simp at hs
  | x :: l, b, q, h, s, hs => by
    rw [List.cons_append, wayB] at h
    simp only [Bool.and_eq_true] at h
    have key : ∀ {l : List Stp} {b : Int} {q : Stp}, wayB k pk b (l ++ [q]) = true → b < q.bit := by
      intro l
      induction l with
      | nil => intro b q h; simp [wayB] at h; omega
      | cons y l ih => intro b q h; rw [List.cons_append, wayB] at h; simp only [Bool.and_eq_true, decide_eq_true_eq] at h; have := ih h.2; omega
    rcases List.mem_cons.1 hs with rfl | hs
    · have := key h.2; omega
    · exact way_rise h.2 s hs
theorem prove_ok {n : Nat} {l : List Pr} (ok : TreeOk n l) (hn : n ≤ 60) (k : By) : PrfOk (proveT l k) := by
  have h := prove_steps ok k
  by_cases e : l = []
  · subst e; exact .inl ⟨rfl, rfl, rfl⟩
  · obtain ⟨h1, h2⟩ := h.2.2.2.2 e
    exact .inr ⟨h1, (sub_ok ok (List.singleton_sublist.2 h2)).mono hn, h.1, by have := h.2.2.1; have := ok.len; omega⟩
theorem prove_empty {l : List Pr} (k : By) : (proveT l k).empty = decide (l.length = 0) := by
  unfold proveT
  by_cases e : l = []
  · subst e; rfl
  · rw [if_neg e, decide_eq_false (fun h => e (List.length_eq_zero_iff.1 h))]
theorem verifyIs_spec (F : Fz) (w : World) (v u z : Value) (r k : By) (p : Prf) {o : Option By} (hs : Sat w F) (hT : Tabs w) (hr : Bs F z r) (hu : Bs F u k) (hv : PrfV F v p) (hr32 : r.length = 32) (hk : 1 ≤ k.length ∧ k.length ≤ 16) (ok : PrfOk p) (hc : checkP k p = true) (hup : upT p = r) (ho : tellP k p = o) :
    Calls Tryd.prog 32 #[z, u, v] w (Gives w F (GetR o 0)) := ho ▸ verify_spec F w v u z r k p hs hT hr hu hv hr32 hk ok hc hup
def sideF (l : List Pr) (q : Stp) : List Pr := l.filter fun p => bitL p.1 q.bit == q.right
theorem sideF_len (l : List Pr) (q : Stp) : (sideF l q).length ≤ l.length := List.length_filter_le _ _
theorem side_filter {l : List Pr} (h : KeysOk l) (h2 : 2 ≤ l.length) (r : Bool) : l.filter (fun p => bitL p.1 (bitT l) == r) = sideT (bitT l) r l := by
  have ht : ∀ p ∈ l.take (leftN (bitT l) l), bitL p.1 (bitT l) = false := fun p hp => sideT_bit h h2 (r := false) (by unfold sideT; simpa using hp)
  have hd : ∀ p ∈ l.drop (leftN (bitT l) l), bitL p.1 (bitT l) = true := fun p hp => sideT_bit h h2 (r := true) (by unfold sideT; simpa using hp)
  unfold sideT
  generalize bitT l = b at *
  generalize leftN b l = n at *
  rw [show l.filter (fun p => bitL p.1 b == r) = (l.take n ++ l.drop n).filter (fun p => bitL p.1 b == r) from by rw [List.take_append_drop], List.filter_append]
  cases r with
  | true =>
    rw [List.filter_eq_nil_iff.2 (fun p hp => by rw [ht p hp]; decide), List.filter_eq_self.2 (fun p hp => by rw [hd p hp]; decide)]
    rfl
  | false =>
    rw [List.filter_eq_self.2 (fun p hp => by rw [ht p hp]; decide), List.filter_eq_nil_iff.2 (fun p hp => by rw [hd p hp]; decide)]
    simp
theorem wayB_le {k pk : By} {s : List Stp} {b b' : Int} (hb : b' ≤ b) (h : wayB k pk b s = true) : wayB k pk b' s = true := by
  cases s with
  | nil => rfl
  | cons x s =>
    rw [wayB] at h ⊢
    simp only [Bool.and_eq_true, decide_eq_true_eq] at h ⊢
    exact ⟨⟨⟨⟨⟨by omega, h.1.1.1.1.2⟩, h.1.1.1.2⟩, h.1.1.2⟩, h.1.2⟩, h.2⟩
theorem prove_first {n : Nat} {l : List Pr} (ok : TreeOk n l) (hn : n ≤ 60) (k : By) {q : Stp} (hq : (proveT l k).steps[0]? = some q) :
    TreeOk n (sideF l q) ∧ upT ⟨false, (proveT l k).steps.drop 1, (proveT l k).pair⟩ = rootT (sideF l q) ∧ checkP k ⟨false, (proveT l k).steps.drop 1, (proveT l k).pair⟩ = true ∧ PrfOk ⟨false, (proveT l k).steps.drop 1, (proveT l k).pair⟩ ∧ tellP k ⟨false, (proveT l k).steps.drop 1, (proveT l k).pair⟩ = getT l k := by
  have hc := prove_check ok k
  have ht := prove_tells ok k k hc
  have hok := prove_ok ok hn k
  unfold sideF
  refine ⟨sub_ok ok List.filter_sublist, ?_⟩
  by_cases e : l = []
  · subst e; simp [proveT] at hq
  obtain ⟨m, hm⟩ : ∃ m, l.length = m + 1 := ⟨l.length - 1, by have := List.length_pos_iff.2 e; omega⟩
  have hP : proveT l k = ⟨false, (stepsN (m + 1) l k).1, (stepsN (m + 1) l k).2⟩ := by unfold proveT; rw [if_neg e, hm]
  by_cases h1 : l.length ≤ 1
  · rw [hP] at hq
    simp only [stepsN] at hq
    rw [if_pos h1] at hq
    simp at hq
  have h2 : 2 ≤ l.length := by omega
  have hS : stepsN (m + 1) l k = (⟨bitT l, bitL k (bitT l), rootT (sideT (bitT l) (!bitL k (bitT l)) l)⟩ :: (stepsN m (sideT (bitT l) (bitL k (bitT l)) l) k).1, (stepsN m (sideT (bitT l) (bitL k (bitT l)) l) k).2) := by rw [stepsN, if_neg h1]
  rw [hS] at hP
  rw [hP] at hq hc ht hok ⊢
  have hq0 : q = ⟨bitT l, bitL k (bitT l), rootT (sideT (bitT l) (!bitL k (bitT l)) l)⟩ := (Option.some.inj hq).symm
  have hs := sideT_len ok.keys h2 (bitL k (bitT l))
  have hu := up_root m (sideT (bitT l) (bitL k (bitT l)) l) k (ok.keys.sub (sideT_sub _ _ _)) hs.1 (by omega)
  have hf := side_filter ok.keys h2 (bitL k (bitT l))
  have hqb : q.bit = bitT l := by rw [hq0]
  have hqr : q.right = bitL k (bitT l) := by rw [hq0]
  rw [hqb, hqr, hf]
  refine ⟨hu, ?_, ?_, ht⟩
  · unfold checkP at hc ⊢
    simp only [Bool.false_eq_true, if_false, Bool.and_eq_true] at hc ⊢
    refine ⟨hc.1, ?_⟩
    have h3 := hc.2
    rw [wayB] at h3
    simp only [Bool.and_eq_true] at h3
    exact wayB_le (by omega) h3.2
  · rcases hok with h | ⟨h3, h4, h5, h6⟩
    · exact absurd h.1 (by simp)
    · exact .inr ⟨rfl, h4, fun s hs => h5 s (List.mem_cons_of_mem _ hs), by simp only [List.length_cons] at h6; simp only [List.drop_succ_cons, List.drop_zero]; omega⟩
theorem filt_yes {q : Stp} {l : List Pr} {i : Nat} {p : Pr} (hp : l[i]? = some p) (hf : (bitL p.1 q.bit == q.right) = true) : sideF (l.take i) q ++ [p] = sideF (l.take (i + 1)) q := by
  unfold sideF
  rw [take_snoc hp, List.filter_append]; simp [beq_iff_eq.1 hf]
theorem filt_no {q : Stp} {l : List Pr} {i : Nat} {p : Pr} (hp : l[i]? = some p) (hf : (bitL p.1 q.bit == q.right) = false) : sideF (l.take i) q = sideF (l.take (i + 1)) q := by
  unfold sideF
  rw [take_snoc hp, List.filter_append]; simp [beq_eq_false_iff_ne.1 hf]
set_option maxHeartbeats 8000000 in
theorem proofParts_walk (W : World) (hT : Tabs W) (v0 : Value) (l0 : List Pr) (z0 : Prs (whole W) v0 l0) (v1 : Value) (l1 : By) (z1 : Bs (whole W) v1 l1) :
    Calls Tryd.prog 12 #[v0, v1] W (Tells W (.bool true)) := by
 obtain ⟨i5, hi5, hz5, hs5, hb5⟩ := info_parts infoU8
 obtain ⟨i38, hi38, hz38, hs38, hb38⟩ := info_parts info_38
 obtain ⟨a0, c0, rfl, q0, q0'⟩ := Sl.shape z0
 obtain ⟨a1, c1, rfl, _⟩ := z1.shape
 have S := St.start (Sat.whole W)
 go_enter Tryd.func12, Tryd.ntmps12
 refine wp_seq_k (fun K101 hK101 => region_wl ?_)
 refine do_ rfl (.bool false) (ex_assign _) ?_
 simp only [pS, pN, pA, pC, pZ]
 refine wl_nil (hK101 _ _ ?_)
 refine wp_seq_k (fun K102 hK102 => region_wl ?_)
 refine do_ rfl (.slice a0 l0.length c0) (ex_move _) ?_
 simp only [pS, pN, pA, pC, pZ]
 refine stGivesO PrC.mono S rfl (ex_fn (vs := #[(.slice a0 l0.length c0), (.int .i64 20)]) (map2 rfl rfl) rfl (ent_24 _ _)) (pairs_spec _ _ _ l0 20 (S).sat z0 (by omega)) ?_
 intro v107 w103 F105 S104 le106
 simp only [pS, pN, pA, pC, pZ]
 have S104 : St W (whole W) w103 F105 [] [ownP 2 PrC PrC.mono 38 W.heap.size v107 (pairsN l0 20)] := S104
 obtain ⟨F108, S109, le110, hv111⟩ := St.freeze S104 (i := 0) rfl (Nat.le_refl _)
 have S109 : St W (whole W) w103 F108 [] [] := S109
 have hv111 : Prs _ v107 (pairsN l0 20) := hv111
 obtain ⟨a112, c113, rfl, h114, h115⟩ := Sl.shape hv111
 unfold maxLen at h115
 refine do_ rfl (.slice a112 (pairsN l0 20).length c113) (ex_assign _) ?_
 simp only [pS, pN, pA, pC, pZ]
 refine wl_nil (hK102 _ _ ?_)
 refine wp_seq_k (fun K116 hK116 => ?_)
 have hok := pairsN_ok l0 20
 refine region_wl ?_
 refine do_ rfl (.slice a1 l1.length c1) (ex_move _) ?_
 simp only [pS, pN, pA, pC, pZ]
 refine stGives S109 rfl (ex_fn (vs := #[(.slice a1 l1.length c1)]) (map1 rfl) rfl (ent_21 _ _)) (key_spec _ _ _ l1 (S109).sat (z1.mono (le106.trans le110))) ?_
 intro v122 w117 F119 S118 le120 R121
 obtain ⟨xa123, xc124, rfl, _⟩ := R121.shape
 simp only [pS, pN, pA, pC, pZ]
 refine do_ rfl (.slice xa123 (keyL l1).length xc124) (ex_assign _) ?_
 simp only [pS, pN, pA, pC, pZ]
 refine wl_nil (hK116 _ _ ?_)
 refine wp_seq_k (fun K125 hK125 => region_wl ?_)
 refine do_ rfl (.slice a112 (pairsN l0 20).length c113) (ex_move _) ?_
 simp only [pS, pN, pA, pC, pZ]
 refine do_ rfl (.slice xa123 (keyL l1).length xc124) (ex_move _) ?_
 simp only [pS, pN, pA, pC, pZ]
 refine stGivesPrf S118 rfl (ex_fn (vs := #[(.slice a112 (pairsN l0 20).length c113), (.slice xa123 (keyL l1).length xc124)]) (map2 rfl rfl) rfl (ent_27 _ _)) (prove_spec _ _ _ _ (pairsN l0 20) (keyL l1) (S118).sat (hT.at S118.gr.below) (hv111.mono le120) R121 (hok.mono (by omega)) (keyL_len l1)) ?_
 intro v126 ka127 kc128 va129 vc130 w131 F132 S133 le134 r135 r136
 simp only [pS, pN, pA, pC, pZ]
 have S133 : St W (whole W) w131 F132 [] [ownP 3 StpC StpC.mono 73 W.heap.size v126 ((proveT (pairsN l0 20) (keyL l1)).steps)] := S133
 obtain ⟨a137, cap138, rfl, h139, h140⟩ := (S133.own (i := 0) rfl).shape
 unfold maxLen at h140
 obtain ⟨F141, S142, le143, hv144⟩ := St.freeze S133 (i := 0) rfl (Nat.le_refl _)
 have S142 : St W (whole W) w131 F141 [] [] := S142
 have hv144 : Stps _ (.slice a137 ((proveT (pairsN l0 20) (keyL l1)).steps).length cap138) ((proveT (pairsN l0 20) (keyL l1)).steps) := hv144
 refine do_ rfl (.tuple #[(.agg #[(.bool (proveT (pairsN l0 20) (keyL l1)).empty), (.slice a137 ((proveT (pairsN l0 20) (keyL l1)).steps).length cap138), (.slice ka127 (proveT (pairsN l0 20) (keyL l1)).pair.1.length kc128), (.slice va129 (proveT (pairsN l0 20) (keyL l1)).pair.2.length vc130)]), (.int .i64 0)]) (ex_move _) ?_
 simp only [pS, pN, pA, pC, pZ]
 refine do_ rfl (.agg #[(.bool (proveT (pairsN l0 20) (keyL l1)).empty), (.slice a137 ((proveT (pairsN l0 20) (keyL l1)).steps).length cap138), (.slice ka127 (proveT (pairsN l0 20) (keyL l1)).pair.1.length kc128), (.slice va129 (proveT (pairsN l0 20) (keyL l1)).pair.2.length vc130)]) (ex_extract rfl rfl) ?_
 simp only [pS, pN, pA, pC, pZ]
 refine do_ rfl (.int .i64 0) (ex_extract rfl rfl) ?_
 simp only [pS, pN, pA, pC, pZ]
 refine stNew S142 (v := fun n => .pointer (some ⟨n, 0, none⟩)) rfl (ex_alloc (zero_52 _)) (fun n145 w146 S147 => ?_)
 simp only [pS, pN, pA, pC, pZ]
 have S147 : St W (whole W) w146 F141 [⟨n145, [(.bool false), (.slice none 0 0), (.slice none 0 0), (.slice none 0 0)], 52⟩] [] := S147
 refine stStore (i := 0) (v := (.agg #[(.bool (proveT (pairsN l0 20) (keyL l1)).empty), (.slice a137 ((proveT (pairsN l0 20) (keyL l1)).steps).length cap138), (.slice ka127 (proveT (pairsN l0 20) (keyL l1)).pair.1.length kc128), (.slice va129 (proveT (pairsN l0 20) (keyL l1)).pair.2.length vc130)])) S147 rfl rfl rfl rfl (size_52) (allc4 rfl rfl rfl rfl) (Nat.le_of_ble_eq_true rfl) (fun w148 S149 => ?_)
 simp only [pS, pN, pA, pC, pZ]
 have S149 : St W (whole W) w148 F141 [⟨n145, [(.bool (proveT (pairsN l0 20) (keyL l1)).empty), (.slice a137 ((proveT (pairsN l0 20) (keyL l1)).steps).length cap138), (.slice ka127 (proveT (pairsN l0 20) (keyL l1)).pair.1.length kc128), (.slice va129 (proveT (pairsN l0 20) (keyL l1)).pair.2.length vc130)], 52⟩] [] := S149
 refine do_ rfl (.int .i64 0) (ex_assign _) ?_
 simp only [pS, pN, pA, pC, pZ]
 refine wl_nil (hK125 _ _ ?_)
 refine wp_seq_k (fun K150 hK150 => ?_)
 refine wp_seq_k (fun K151 hK151 => ?_)
 have hpr := prove_steps hok (keyL l1)
 have hol := hok.len
 refine region_wl ?_
 refine do_ rfl (.int .i64 0) (ex_move _) ?_
 simp only [pS, pN, pA, pC, pZ]
 refine do_ rfl (.bool false) (ex_neq (b := false) rfl rfl (by decide)) ?_
 simp only [pS, pN, pA, pC, pZ]
 refine do_ rfl (.bool false) (ex_move _) ?_
 simp only [pS, pN, pA, pC, pZ]
 refine do_ rfl (.pointer (some ⟨n145, 1, none⟩)) (ex_field (q := ⟨n145, 1, none⟩) rfl (fa_52_1 _ _)) ?_
 simp only [pS, pN, pA, pC, pZ]
 refine do_ rfl (.slice a137 ((proveT (pairsN l0 20) (keyL l1)).steps).length cap138) (ex_load rfl (load1 (nagg_50 _) (St.cell S149 (i := 0) rfl rfl))) ?_
 simp only [pS, pN, pA, pC, pZ]
 refine do_ rfl (.int .i64 ((((proveT (pairsN l0 20) (keyL l1)).steps).length : Nat) : Int)) (ex_len Tryd.underlying50 rfl) ?_
 simp only [pS, pN, pA, pC, pZ]
 by_cases hc37 : ((proveT (pairsN l0 20) (keyL l1)).steps).length = 0
 ·refine do_ rfl (.bool true) (ex_eql (m := ((((proveT (pairsN l0 20) (keyL l1)).steps).length : Nat) : Int)) (n := (0 : Int)) (b := true) rfl rfl (beq_iff_eq.2 (by omega))) ?_
  simp only [pS, pN, pA, pC, pZ]
  refine do_ rfl (.bool true) (ex_pick (b := false) rfl) ?_
  simp only [pS, pN, pA, pC, pZ]
  refine wl_nil (hK151 _ _ ?_)
  refine wp_cond_true rfl ?_
  refine wp_seq_k (fun K152 hK152 => region_wl ?_)
  refine do_ rfl (.int .i64 0) (ex_move _) ?_
  simp only [pS, pN, pA, pC, pZ]
  refine do_ rfl (.bool true) (ex_eql (b := true) rfl rfl (by decide)) ?_
  simp only [pS, pN, pA, pC, pZ]
  refine do_ rfl (.bool true) (ex_move _) ?_
  simp only [pS, pN, pA, pC, pZ]
  refine do_ rfl (.slice a112 (pairsN l0 20).length c113) (ex_move _) ?_
  simp only [pS, pN, pA, pC, pZ]
  refine do_ rfl (.int .i64 (((pairsN l0 20).length : Nat) : Int)) (ex_len Tryd.underlying40 rfl) ?_
  simp only [pS, pN, pA, pC, pZ]
  refine do_ rfl (.bool true) (ex_lss (m := (((pairsN l0 20).length : Nat) : Int)) (n := (2 : Int)) (b := true) rfl rfl (decide_eq_true (by have := hpr.2.2.2.1; omega))) ?_
  simp only [pS, pN, pA, pC, pZ]
  refine do_ rfl (.bool true) (ex_pick (b := true) rfl) ?_
  simp only [pS, pN, pA, pC, pZ]
  refine do_ rfl (.bool true) (ex_assign _) ?_
  simp only [pS, pN, pA, pC, pZ]
  refine wl_nil (hK152 _ _ ?_)
  refine wp_ret ?_
  (try simp only [Exit.then, Exit.inBlock, ↓reduceIte, Nat.reduceEqDiff])
  refine bodyPost_ret (v := (.bool true)) ?_ rfl ?_
  ·exact res_t rfl rfl
  ·exact ⟨rfl, S149.gr.below⟩
 ·refine do_ rfl (.bool false) (ex_eql (m := ((((proveT (pairsN l0 20) (keyL l1)).steps).length : Nat) : Int)) (n := (0 : Int)) (b := false) rfl rfl (beq_eq_false_iff_ne.2 (by omega))) ?_
  simp only [pS, pN, pA, pC, pZ]
  refine do_ rfl (.bool false) (ex_pick (b := false) rfl) ?_
  simp only [pS, pN, pA, pC, pZ]
  refine wl_nil (hK151 _ _ ?_)
  refine wp_cond_false rfl ?_
  refine wp_skip ?_
  refine hK150 _ _ ?_
  refine wp_seq_k (fun K153 hK153 => ?_)
  obtain ⟨q, hq⟩ : ∃ q, (proveT (pairsN l0 20) (keyL l1)).steps[0]? = some q := ⟨(proveT (pairsN l0 20) (keyL l1)).steps[0]'(by omega), List.getElem?_eq_getElem (by omega)⟩
  have hfst := prove_first hok (by omega) (keyL l1) hq
  have hqs := hpr.1 q (List.mem_of_getElem? hq)
  have hqb := hqs.1
  have hne : (pairsN l0 20) ≠ [] := fun e => by have h1 := hpr.2.2.1; have h2 : (pairsN l0 20).length = 0 := congrArg List.length e; omega
  obtain ⟨hem, -⟩ := hpr.2.2.2.2 hne
  rw [hem] at S149 ⊢
  obtain ⟨b154, o155, ha156, xa160, xc161, c157, c158, c159, r162⟩ := Stps.get hv144 hq
  refine region_wl ?_
  refine do_ rfl (.pointer (some ⟨n145, 1, none⟩)) (ex_field (q := ⟨n145, 1, none⟩) rfl (fa_52_1 _ _)) ?_
  simp only [pS, pN, pA, pC, pZ]
  refine do_ rfl (.slice a137 ((proveT (pairsN l0 20) (keyL l1)).steps).length cap138) (ex_load rfl (load1 (nagg_50 _) (St.cell S149 (i := 0) rfl rfl))) ?_
  simp only [pS, pN, pA, pC, pZ]
  refine do_ rfl (.pointer (some ⟨b154, o155 + 0 * 3, none⟩)) (ex_at (i := 0) (sz := 3) Tryd.underlying50 (sizeof_73 _) rfl ha156 rfl (by omega) rfl) ?_
  simp only [pS, pN, pA, pC, pZ]
  refine do_ rfl (.agg #[(.int .i64 ((q.bit : Nat) : Int)), (.bool q.right), (.slice xa160 q.other.length xc161)]) (ex_load rfl (loadN (cs := [(.int .i64 ((q.bit : Nat) : Int)), (.bool q.right), (.slice xa160 q.other.length xc161)]) Tryd.underlying73 rfl (size_73) (range3 (St.fz S149 c157) (St.fz S149 c158) (St.fz S149 c159)))) ?_
  simp only [pS, pN, pA, pC, pZ]
  refine stNew S149 (v := fun n => .pointer (some ⟨n, 0, none⟩)) rfl (ex_alloc (zero_73 _)) (fun n163 w164 S165 => ?_)
  simp only [pS, pN, pA, pC, pZ]
  have S165 : St W (whole W) w164 F141 [⟨n163, [(.int .i64 0), (.bool false), (.slice none 0 0)], 73⟩, ⟨n145, [(.bool false), (.slice a137 ((proveT (pairsN l0 20) (keyL l1)).steps).length cap138), (.slice ka127 (proveT (pairsN l0 20) (keyL l1)).pair.1.length kc128), (.slice va129 (proveT (pairsN l0 20) (keyL l1)).pair.2.length vc130)], 52⟩] [] := S165
  refine stStore (i := 0) (v := (.agg #[(.int .i64 ((q.bit : Nat) : Int)), (.bool q.right), (.slice xa160 q.other.length xc161)])) S165 rfl rfl rfl rfl (size_73) (allc3 rfl rfl rfl) (Nat.le_of_ble_eq_true rfl) (fun w166 S167 => ?_)
  simp only [pS, pN, pA, pC, pZ]
  have S167 : St W (whole W) w166 F141 [⟨n163, [(.int .i64 ((q.bit : Nat) : Int)), (.bool q.right), (.slice xa160 q.other.length xc161)], 73⟩, ⟨n145, [(.bool false), (.slice a137 ((proveT (pairsN l0 20) (keyL l1)).steps).length cap138), (.slice ka127 (proveT (pairsN l0 20) (keyL l1)).pair.1.length kc128), (.slice va129 (proveT (pairsN l0 20) (keyL l1)).pair.2.length vc130)], 52⟩] [] := S167
  refine wl_nil (hK153 _ _ ?_)
  refine wp_seq_k (fun K168 hK168 => region_wl ?_)
  refine do_ rfl (.slice none 0 0) (ex_assign _) ?_
  simp only [pS, pN, pA, pC, pZ]
  refine wl_nil (hK168 _ _ ?_)
  refine wp_seq_k (fun K169 hK169 => ?_)
  refine wp_seq_k (fun K170 hK170 => region_wl ?_)
  refine do_ rfl (.int .i64 0) (ex_assign _) ?_
  simp only [pS, pN, pA, pC, pZ]
  refine wl_nil (hK170 _ _ ?_)
  refine wp_block ?_
  have S171 := St.addNil S167 2 PrC PrC.mono 38 W.heap.size
  have S171 : St W (whole W) w166 F141 [⟨n163, [(.int .i64 ((q.bit : Nat) : Int)), (.bool q.right), (.slice xa160 q.other.length xc161)], 73⟩, ⟨n145, [(.bool false), (.slice a137 ((proveT (pairsN l0 20) (keyL l1)).steps).length cap138), (.slice ka127 (proveT (pairsN l0 20) (keyL l1)).pair.1.length kc128), (.slice va129 (proveT (pairsN l0 20) (keyL l1)).pair.2.length vc130)], 52⟩] [ownP 2 PrC PrC.mono 38 W.heap.size (.slice none 0 0) (sideF ((pairsN l0 20).take 0) q)] := S171
  refine wp_loop_g (fun mm aa w174 => ∃ (i : Nat) (v : Value) (F172 : Fz) (u173 : Nat → Value), mm = (pairsN l0 20).length - i ∧ u173 = slots aa ∧ aa = ⟨#[(.slice a0 l0.length c0), (.slice a1 l1.length c1), undef, undef, (u173 4), (.slice a112 (pairsN l0 20).length c113), (.slice xa123 (keyL l1).length xc124), (.pointer (some ⟨n145, 0, none⟩)), (.int .i64 0), (.pointer (some ⟨n163, 0, none⟩)), v, (.int .i64 ((i : Nat) : Int)), (u173 12), (u173 13), undef, undef, undef, undef, undef, undef, undef, (.slice a0 l0.length c0), (.slice a112 (pairsN l0 20).length c113), (.slice a1 l1.length c1), (.slice xa123 (keyL l1).length xc124), (.tuple #[(.agg #[(.bool false), (.slice a137 ((proveT (pairsN l0 20) (keyL l1)).steps).length cap138), (.slice ka127 (proveT (pairsN l0 20) (keyL l1)).pair.1.length kc128), (.slice va129 (proveT (pairsN l0 20) (keyL l1)).pair.2.length vc130)]), (.int .i64 0)]), (.slice a112 (pairsN l0 20).length c113), (.slice xa123 (keyL l1).length xc124), (.tuple #[(.agg #[(.bool false), (.slice a137 ((proveT (pairsN l0 20) (keyL l1)).steps).length cap138), (.slice ka127 (proveT (pairsN l0 20) (keyL l1)).pair.1.length kc128), (.slice va129 (proveT (pairsN l0 20) (keyL l1)).pair.2.length vc130)]), (.int .i64 0)]), (.agg #[(.bool false), (.slice a137 ((proveT (pairsN l0 20) (keyL l1)).steps).length cap138), (.slice ka127 (proveT (pairsN l0 20) (keyL l1)).pair.1.length kc128), (.slice va129 (proveT (pairsN l0 20) (keyL l1)).pair.2.length vc130)]), (.int .i64 0), (.int .i64 0), (.bool false), (.bool false), (.pointer (some ⟨n145, 1, none⟩)), (.slice a137 ((proveT (pairsN l0 20) (keyL l1)).steps).length cap138), (.int .i64 ((((proveT (pairsN l0 20) (keyL l1)).steps).length : Nat) : Int)), (.bool false), (.bool false), undef, undef, undef, undef, undef, undef, undef, (.pointer (some ⟨n145, 1, none⟩)), (.slice a137 ((proveT (pairsN l0 20) (keyL l1)).steps).length cap138), (.pointer (some ⟨b154, o155 + 0 * 3, none⟩)), (.agg #[(.int .i64 ((q.bit : Nat) : Int)), (.bool q.right), (.slice xa160 q.other.length xc161)]), (u173 50), (u173 51), (u173 52), (u173 53), (u173 54), (u173 55), (u173 56), (u173 57), (u173 58), (u173 59), (u173 60), (u173 61), (u173 62), (u173 63), (u173 64), (u173 65), (u173 66), (u173 67), (u173 68), (u173 69), (u173 70), (u173 71), (u173 72), (u173 73), (u173 74), (u173 75), (u173 76), (u173 77), (u173 78), (u173 79), undef, undef, undef, undef, undef, undef, undef, undef, undef, undef, undef, undef, undef, undef, undef, undef, undef, undef, undef, undef, undef, undef, undef, undef, undef, undef, undef, undef, undef, undef, undef, undef, undef, undef, undef, undef, undef, undef, undef, undef, undef, undef, undef, undef, undef, undef, undef], []⟩ ∧ St W (whole W) w174 F172 [⟨n163, [(.int .i64 ((q.bit : Nat) : Int)), (.bool q.right), (.slice xa160 q.other.length xc161)], 73⟩, ⟨n145, [(.bool false), (.slice a137 ((proveT (pairsN l0 20) (keyL l1)).steps).length cap138), (.slice ka127 (proveT (pairsN l0 20) (keyL l1)).pair.1.length kc128), (.slice va129 (proveT (pairsN l0 20) (keyL l1)).pair.2.length vc130)], 52⟩] [ownP 2 PrC PrC.mono 38 W.heap.size v (sideF ((pairsN l0 20).take i) q)] ∧ Le F141 F172 ∧ (i ≤ (pairsN l0 20).length)) _ ⟨0, (.slice none 0 0), F141, _, rfl, rfl, rfl, S171, Le.refl _, (by omega)⟩ ?_
  rintro m175 a176 w177 ⟨i, v, F172, u173, rfl, -, rfl, S178, le179, hi⟩ K180 hK180
  refine wp_seq_k (fun K181 hK181 => ?_)
  refine wp_seq_k (fun K182 hK182 => region_wl ?_)
  refine do_ rfl (.int .i64 ((i : Nat) : Int)) (ex_move _) ?_
  simp only [pS, pN, pA, pC, pZ]
  refine do_ rfl (.slice a112 (pairsN l0 20).length c113) (ex_move _) ?_
  simp only [pS, pN, pA, pC, pZ]
  refine do_ rfl (.int .i64 (((pairsN l0 20).length : Nat) : Int)) (ex_len Tryd.underlying40 rfl) ?_
  simp only [pS, pN, pA, pC, pZ]
  by_cases hc53 : i < (pairsN l0 20).length
  ·refine do_ rfl (.bool true) (ex_lss (m := ((i : Nat) : Int)) (n := (((pairsN l0 20).length : Nat) : Int)) (b := true) rfl rfl (decide_eq_true (by omega))) ?_
   simp only [pS, pN, pA, pC, pZ]
   refine wl_nil (hK182 _ _ ?_)
   refine wp_cond_true rfl ?_
   refine wp_skip ?_
   refine hK181 _ _ ?_
   refine wp_seq_k (fun K183 hK183 => ?_)
   refine wp_block ?_
   refine wp_seq_k (fun K184 hK184 => ?_)
   obtain ⟨p, hp⟩ : ∃ p, (pairsN l0 20)[i]? = some p := ⟨(pairsN l0 20)[i], List.getElem?_eq_getElem hc53⟩
   have hpp := hok.ok p (List.mem_of_getElem? hp)
   have hpp : 1 ≤ p.1.length ∧ p.1.length ≤ 16 ∧ True := ⟨hpp.1, hpp.2.1, trivial⟩
   obtain ⟨b185, o186, ha187, xa189, xc190, xa193, xc194, c188, c192, r191, r195⟩ := Prs.get (hv111.mono (((le120.trans le134).trans le143).trans le179)) hp
   refine region_gw F172 12 [(7, .is (.tuple #[(.bool (bitL p.1 q.bit)), (.int .i64 0)]))] (by kernel_rfl) (by kernel_rfl) ?_
   simp only [List.take_succ_cons, List.take_zero]
   refine gw_pure rfl rfl (.slice a112 (pairsN l0 20).length c113) (fun w196 hCw196 => pureAt_of (ex_move _)) ?_
   simp only [pS, pN, pA, pC, pZ]
   refine gw_pure rfl rfl (.int .i64 ((i : Nat) : Int)) (fun w196 hCw196 => pureAt_of (ex_move _)) ?_
   simp only [pS, pN, pA, pC, pZ]
   refine gw_pure rfl rfl (.pointer (some ⟨b185, o186 + i * 2, none⟩)) (fun w196 hCw196 => pureAt_of (ex_at (i := i) (sz := 2) Tryd.underlying40 (sizeof_38 _) rfl ha187 rfl (by omega) rfl)) ?_
   simp only [pS, pN, pA, pC, pZ]
   refine gw_pure rfl rfl (.pointer (some ⟨b185, o186 + i * 2, none⟩)) (fun w196 hCw196 => pureAt_of (ex_field (q := ⟨b185, o186 + i * 2, none⟩) rfl (fa_38_0 _ _))) ?_
   simp only [pS, pN, pA, pC, pZ]
   refine gw_pure rfl rfl (.slice xa189 p.1.length xc190) (fun w196 hCw196 => pureAt_of (ex_load rfl (load1 (nagg_22 _) (St.fz (St.tells S178 hCw196) c188)))) ?_
   simp only [pS, pN, pA, pC, pZ]
   refine gw_pure rfl rfl (.pointer (some ⟨n163, 0, none⟩)) (fun w196 hCw196 => pureAt_of (ex_field (q := ⟨n163, 0, none⟩) rfl (fa_73_0 _ _))) ?_
   simp only [pS, pN, pA, pC, pZ]
   refine gw_pure rfl rfl (.int .i64 ((q.bit : Nat) : Int)) (fun w196 hCw196 => pureAt_of (ex_load rfl (load1 (nagg_3 _) (St.cell (St.tells S178 hCw196) (i := 0) rfl rfl)))) ?_
   simp only [pS, pN, pA, pC, pZ]
   refine gw_const rfl rfl (v := (.tuple #[(.bool (bitL p.1 q.bit)), (.int .i64 0)])) (fun w196 hCw196 _ => does_call (ex_fn (vs := #[(.slice xa189 p.1.length xc190), (.int .i64 ((q.bit : Nat) : Int))]) (map2 rfl rfl) rfl (ent_25 _ _)) (call_tells (tells_same (bitE_spec _ _ _ p.1 _ ((St.tells S178 hCw196)).sat r191 hpp.1 hpp.2.1 (by omega) (by omega))))) ?_
   simp only [pS, pN, pA, pC, pZ]
   refine gw_pure rfl rfl (.tuple #[(.bool (bitL p.1 q.bit)), (.int .i64 0)]) (fun w196 hCw196 => pureAt_of (ex_move _)) ?_
   simp only [pS, pN, pA, pC, pZ]
   refine gw_pure rfl rfl (.bool (bitL p.1 q.bit)) (fun w196 hCw196 => pureAt_of (ex_extract rfl rfl)) ?_
   simp only [pS, pN, pA, pC, pZ]
   refine gw_pure rfl rfl (.int .i64 0) (fun w196 hCw196 => pureAt_of (ex_extract rfl rfl)) ?_
   simp only [pS, pN, pA, pC, pZ]
   refine gw_pure rfl rfl (.bool (bitL p.1 q.bit)) (fun w196 hCw196 => pureAt_of (ex_assign _)) ?_
   simp only [pS, pN, pA, pC, pZ]
   refine gw_nil ?_
   intro w197 hC199 hF200
   clear hF200
   have S198 := St.tells S178 hC199
   simp only [List.drop_succ_cons, List.drop_zero]
   refine do_ rfl (.int .i64 0) (ex_assign _) ?_
   simp only [pS, pN, pA, pC, pZ]
   refine wl_nil (hK184 _ _ ?_)
   refine wp_seq_k (fun K201 hK201 => ?_)
   refine wp_seq_k (fun K202 hK202 => region_wl ?_)
   refine do_ rfl (.int .i64 0) (ex_move _) ?_
   simp only [pS, pN, pA, pC, pZ]
   refine do_ rfl (.bool false) (ex_neq (b := false) rfl rfl (by decide)) ?_
   simp only [pS, pN, pA, pC, pZ]
   refine wl_nil (hK202 _ _ ?_)
   refine wp_cond_false rfl ?_
   refine wp_skip ?_
   refine hK201 _ _ ?_
   refine wp_seq_k (fun K203 hK203 => region_wl ?_)
   refine do_ rfl (.bool (bitL p.1 q.bit)) (ex_move _) ?_
   simp only [pS, pN, pA, pC, pZ]
   refine do_ rfl (.pointer (some ⟨n163, 1, none⟩)) (ex_field (q := ⟨n163, 1, none⟩) rfl (fa_73_1 _ _)) ?_
   simp only [pS, pN, pA, pC, pZ]
   refine do_ rfl (.bool q.right) (ex_load rfl (load1 (nagg_4 _) (St.cell S198 (i := 0) rfl rfl))) ?_
   simp only [pS, pN, pA, pC, pZ]
   refine do_ rfl (.bool ((bitL p.1 q.bit) == q.right)) (ex_eqlB Tryd.underlying4 rfl rfl (rfl)) ?_
   simp only [pS, pN, pA, pC, pZ]
   refine wl_nil (hK203 _ _ ?_)
   refine wp_cond_split rfl (fun hc204 => ?_) (fun hc204 => ?_)
   ·refine region_wl ?_
    refine do_ rfl v (ex_move _) ?_
    simp only [pS, pN, pA, pC, pZ]
    refine do_ rfl (.slice a112 (pairsN l0 20).length c113) (ex_move _) ?_
    simp only [pS, pN, pA, pC, pZ]
    refine do_ rfl (.int .i64 ((i : Nat) : Int)) (ex_move _) ?_
    simp only [pS, pN, pA, pC, pZ]
    refine do_ rfl (.pointer (some ⟨b185, o186 + i * 2, none⟩)) (ex_at (i := i) (sz := 2) Tryd.underlying40 (sizeof_38 _) rfl ha187 rfl (by omega) rfl) ?_
    simp only [pS, pN, pA, pC, pZ]
    refine do_ rfl (.agg #[(.slice xa189 p.1.length xc190), (.slice xa193 p.2.length xc194)]) (ex_load rfl (loadN (cs := [(.slice xa189 p.1.length xc190), (.slice xa193 p.2.length xc194)]) Tryd.underlying38 rfl (size_38) (range2 (St.fz S198 c188) (St.fz S198 c192)))) ?_
    simp only [pS, pN, pA, pC, pZ]
    refine stNew S198 (v := fun n => .slice (some ⟨n, 0, none⟩) 1 1) rfl (ex_lit (ps := #[(0, (.agg #[(.slice xa189 p.1.length xc190), (.slice xa193 p.2.length xc194)]))]) (cells := #[(.slice xa189 p.1.length xc190), (.slice xa193 p.2.length xc194)]) (E := 38) (bmap1 rfl) (fun w => by kernel_rfl)) (fun n205 w206 S207 => ?_)
    simp only [pS, pN, pA, pC, pZ]
    have S207 : St W (whole W) w206 F172 [⟨n205, [(.slice xa189 p.1.length xc190), (.slice xa193 p.2.length xc194)], 38⟩, ⟨n163, [(.int .i64 ((q.bit : Nat) : Int)), (.bool q.right), (.slice xa160 q.other.length xc161)], 73⟩, ⟨n145, [(.bool false), (.slice a137 ((proveT (pairsN l0 20) (keyL l1)).steps).length cap138), (.slice ka127 (proveT (pairsN l0 20) (keyL l1)).pair.1.length kc128), (.slice va129 (proveT (pairsN l0 20) (keyL l1)).pair.2.length vc130)], 52⟩] [ownP 2 PrC PrC.mono 38 W.heap.size v (sideF ((pairsN l0 20).take i) q)] := S207
    have hfl := sideF_len ((pairsN l0 20).take i) q
    have hfl2 := List.length_take_le i (pairsN l0 20)
    refine stPush (i := 0) (r := 0) (p := p) (cs := [(.slice xa189 p.1.length xc190), (.slice xa193 p.2.length xc194)]) S207 rfl i38 (.agg #[(.slice none 0 0), (.slice none 0 0)]) 48 Tryd.underlying40 hi38 hz38 hs38 hb38 rfl (by decide) rfl rfl rfl rfl rfl (PrC.oneCell (p := p) ⟨_, _, rfl, r191, r195⟩) (⟨_, _, rfl, r191, r195⟩) (Nat.le_refl _) S207.gr.below.size (by unfold maxLen; omega) (by omega) ?_
    intro v208 w209 S210 hn211
    simp only [pS, pN, pA, pC, pZ]
    have S210 := St.drop S210 (L' := [⟨n163, [(.int .i64 ((q.bit : Nat) : Int)), (.bool q.right), (.slice xa160 q.other.length xc161)], 73⟩, ⟨n145, [(.bool false), (.slice a137 ((proveT (pairsN l0 20) (keyL l1)).steps).length cap138), (.slice ka127 (proveT (pairsN l0 20) (keyL l1)).pair.1.length kc128), (.slice va129 (proveT (pairsN l0 20) (keyL l1)).pair.2.length vc130)], 52⟩]) (.cons _ (List.Sublist.refl _))
    have S210 : St W (whole W) w209 F172 [⟨n163, [(.int .i64 ((q.bit : Nat) : Int)), (.bool q.right), (.slice xa160 q.other.length xc161)], 73⟩, ⟨n145, [(.bool false), (.slice a137 ((proveT (pairsN l0 20) (keyL l1)).steps).length cap138), (.slice ka127 (proveT (pairsN l0 20) (keyL l1)).pair.1.length kc128), (.slice va129 (proveT (pairsN l0 20) (keyL l1)).pair.2.length vc130)], 52⟩] [ownP 2 PrC PrC.mono 38 W.heap.size v208 ((sideF ((pairsN l0 20).take i) q) ++ [p])] := S210
    refine do_ rfl v208 (ex_assign _) ?_
    simp only [pS, pN, pA, pC, pZ]
    refine wl_nil (hK183 _ _ ?_)
    refine region_wl ?_
    refine do_ rfl (.int .i64 ((i : Nat) : Int)) (ex_move _) ?_
    simp only [pS, pN, pA, pC, pZ]
    refine do_ rfl (.int .i64 (((i + 1) : Nat) : Int)) (ex_add (m := ((i : Nat) : Int)) (n := (1 : Int)) (r := (((i + 1) : Nat) : Int)) rfl rfl (by omega) (by omega) (by omega)) ?_
    simp only [pS, pN, pA, pC, pZ]
    refine do_ rfl (.int .i64 (((i + 1) : Nat) : Int)) (ex_assign _) ?_
    simp only [pS, pN, pA, pC, pZ]
    refine wl_nil ?_
    rw [filt_yes hp hc204] at S210
    exact hK180 _ _ _ (by omega) ⟨(i + 1), v208, F172, _, rfl, rfl, rfl, S210, le179, (by omega)⟩
   ·refine wp_skip ?_
    refine hK183 _ _ ?_
    refine region_wl ?_
    refine do_ rfl (.int .i64 ((i : Nat) : Int)) (ex_move _) ?_
    simp only [pS, pN, pA, pC, pZ]
    refine do_ rfl (.int .i64 (((i + 1) : Nat) : Int)) (ex_add (m := ((i : Nat) : Int)) (n := (1 : Int)) (r := (((i + 1) : Nat) : Int)) rfl rfl (by omega) (by omega) (by omega)) ?_
    simp only [pS, pN, pA, pC, pZ]
    refine do_ rfl (.int .i64 (((i + 1) : Nat) : Int)) (ex_assign _) ?_
    simp only [pS, pN, pA, pC, pZ]
    refine wl_nil ?_
    rw [filt_no hp hc204] at S198
    exact hK180 _ _ _ (by omega) ⟨(i + 1), v, F172, _, rfl, rfl, rfl, S198, le179, (by omega)⟩
  ·refine do_ rfl (.bool false) (ex_lss (m := ((i : Nat) : Int)) (n := (((pairsN l0 20).length : Nat) : Int)) (b := false) rfl rfl (decide_eq_false (by omega))) ?_
   simp only [pS, pN, pA, pC, pZ]
   refine wl_nil (hK182 _ _ ?_)
   refine wp_cond_false rfl ?_
   refine wp_exit ?_
   refine hK169 _ _ ?_
   refine wp_seq_k (fun K212 hK212 => ?_)
   have hend : (sideF ((pairsN l0 20).take i) q) = (sideF (pairsN l0 20) q) := by rw [List.take_of_length_le (by omega)]
   rw [hend] at S178
   refine region_wl ?_
   refine do_ rfl v (ex_move _) ?_
   simp only [pS, pN, pA, pC, pZ]
   obtain ⟨F213, S214, le215, hv216⟩ := St.freeze S178 (i := 0) rfl (Nat.le_refl _)
   have S214 : St W (whole W) w177 F213 [⟨n163, [(.int .i64 ((q.bit : Nat) : Int)), (.bool q.right), (.slice xa160 q.other.length xc161)], 73⟩, ⟨n145, [(.bool false), (.slice a137 ((proveT (pairsN l0 20) (keyL l1)).steps).length cap138), (.slice ka127 (proveT (pairsN l0 20) (keyL l1)).pair.1.length kc128), (.slice va129 (proveT (pairsN l0 20) (keyL l1)).pair.2.length vc130)], 52⟩] [] := S214
   have hv216 : Prs _ v (sideF (pairsN l0 20) q) := hv216
   obtain ⟨a217, c218, rfl, h219, h220⟩ := Sl.shape hv216
   unfold maxLen at h220
   refine stGives S214 rfl (ex_fn (vs := #[(.slice a217 (sideF (pairsN l0 20) q).length c218)]) (map1 rfl) rfl (ent_22 _ _)) (Root_spec _ _ _ (sideF (pairsN l0 20) q) (S214).sat (hT.at S214.gr.below) hv216 (hfst.1.mono (by omega))) ?_
   intro v226 w221 F223 S222 le224 R225
   obtain ⟨x227, rfl, r228⟩ := R225
   obtain ⟨xa229, xc230, rfl, _⟩ := r228.shape
   have r228 : Bs _ (.slice xa229 (rootT (sideF (pairsN l0 20) q)).length xc230) (rootT (sideF (pairsN l0 20) q)) := r228
   simp only [pS, pN, pA, pC, pZ]
   refine do_ rfl (.tuple #[(.slice xa229 (rootT (sideF (pairsN l0 20) q)).length xc230), (.int .i64 0)]) (ex_move _) ?_
   simp only [pS, pN, pA, pC, pZ]
   refine do_ rfl (.slice xa229 (rootT (sideF (pairsN l0 20) q)).length xc230) (ex_extract rfl rfl) ?_
   simp only [pS, pN, pA, pC, pZ]
   refine do_ rfl (.int .i64 0) (ex_extract rfl rfl) ?_
   simp only [pS, pN, pA, pC, pZ]
   refine do_ rfl (.slice xa229 (rootT (sideF (pairsN l0 20) q)).length xc230) (ex_assign _) ?_
   simp only [pS, pN, pA, pC, pZ]
   refine do_ rfl (.int .i64 0) (ex_assign _) ?_
   simp only [pS, pN, pA, pC, pZ]
   refine wl_nil (hK212 _ _ ?_)
   refine wp_seq_k (fun K231 hK231 => region_wl ?_)
   refine do_ rfl (.agg #[(.bool false), (.slice a137 ((proveT (pairsN l0 20) (keyL l1)).steps).length cap138), (.slice ka127 (proveT (pairsN l0 20) (keyL l1)).pair.1.length kc128), (.slice va129 (proveT (pairsN l0 20) (keyL l1)).pair.2.length vc130)]) (ex_load rfl (loadN (cs := [(.bool false), (.slice a137 ((proveT (pairsN l0 20) (keyL l1)).steps).length cap138), (.slice ka127 (proveT (pairsN l0 20) (keyL l1)).pair.1.length kc128), (.slice va129 (proveT (pairsN l0 20) (keyL l1)).pair.2.length vc130)]) Tryd.underlying52 rfl (size_52) (St.range S222 (i := 1) rfl 0 [(.bool false), (.slice a137 ((proveT (pairsN l0 20) (keyL l1)).steps).length cap138), (.slice ka127 (proveT (pairsN l0 20) (keyL l1)).pair.1.length kc128), (.slice va129 (proveT (pairsN l0 20) (keyL l1)).pair.2.length vc130)] (sub_range 0 rfl)))) ?_
   simp only [pS, pN, pA, pC, pZ]
   refine stNew S222 (v := fun n => .pointer (some ⟨n, 0, none⟩)) rfl (ex_alloc (zero_52 _)) (fun n232 w233 S234 => ?_)
   simp only [pS, pN, pA, pC, pZ]
   have S234 : St W (whole W) w233 F223 [⟨n232, [(.bool false), (.slice none 0 0), (.slice none 0 0), (.slice none 0 0)], 52⟩, ⟨n163, [(.int .i64 ((q.bit : Nat) : Int)), (.bool q.right), (.slice xa160 q.other.length xc161)], 73⟩, ⟨n145, [(.bool false), (.slice a137 ((proveT (pairsN l0 20) (keyL l1)).steps).length cap138), (.slice ka127 (proveT (pairsN l0 20) (keyL l1)).pair.1.length kc128), (.slice va129 (proveT (pairsN l0 20) (keyL l1)).pair.2.length vc130)], 52⟩] [] := S234
   refine stStore (i := 0) (v := (.agg #[(.bool false), (.slice a137 ((proveT (pairsN l0 20) (keyL l1)).steps).length cap138), (.slice ka127 (proveT (pairsN l0 20) (keyL l1)).pair.1.length kc128), (.slice va129 (proveT (pairsN l0 20) (keyL l1)).pair.2.length vc130)])) S234 rfl rfl rfl rfl (size_52) (allc4 rfl rfl rfl rfl) (Nat.le_of_ble_eq_true rfl) (fun w235 S236 => ?_)
   simp only [pS, pN, pA, pC, pZ]
   have S236 : St W (whole W) w235 F223 [⟨n232, [(.bool false), (.slice a137 ((proveT (pairsN l0 20) (keyL l1)).steps).length cap138), (.slice ka127 (proveT (pairsN l0 20) (keyL l1)).pair.1.length kc128), (.slice va129 (proveT (pairsN l0 20) (keyL l1)).pair.2.length vc130)], 52⟩, ⟨n163, [(.int .i64 ((q.bit : Nat) : Int)), (.bool q.right), (.slice xa160 q.other.length xc161)], 73⟩, ⟨n145, [(.bool false), (.slice a137 ((proveT (pairsN l0 20) (keyL l1)).steps).length cap138), (.slice ka127 (proveT (pairsN l0 20) (keyL l1)).pair.1.length kc128), (.slice va129 (proveT (pairsN l0 20) (keyL l1)).pair.2.length vc130)], 52⟩] [] := S236
   refine wl_nil (hK231 _ _ ?_)
   refine wp_seq_k (fun K237 hK237 => region_wl ?_)
   refine do_ rfl (.pointer (some ⟨n145, 1, none⟩)) (ex_field (q := ⟨n145, 1, none⟩) rfl (fa_52_1 _ _)) ?_
   simp only [pS, pN, pA, pC, pZ]
   refine do_ rfl (.slice a137 ((proveT (pairsN l0 20) (keyL l1)).steps).length cap138) (ex_load rfl (load1 (nagg_50 _) (St.cell S236 (i := 2) rfl rfl))) ?_
   simp only [pS, pN, pA, pC, pZ]
   have r238 : Stps _ (.slice (if cap138 = 1 then a137 else a137.map (·.add (1 * 3))) (((proveT (pairsN l0 20) (keyL l1)).steps).length - 1) (cap138 - 1)) (((proveT (pairsN l0 20) (keyL l1)).steps).drop 1) := Sl.dropD (by decide) (hv144.mono ((le179.trans le215).trans le224)) (by omega)
   refine do_ rfl (.slice (if cap138 = 1 then a137 else a137.map (·.add (1 * 3))) (((proveT (pairsN l0 20) (keyL l1)).steps).length - 1) (cap138 - 1)) (ex_slice (l := 1) (h := ((proveT (pairsN l0 20) (keyL l1)).steps).length) (sz := 3) Tryd.underlying50 rfl (sizeof_73 _) (.inr ⟨_, rfl, rfl⟩) (.inl ⟨rfl, rfl⟩) (by omega) (by omega) (rfl)) ?_
   simp only [pS, pN, pA, pC, pZ]
   refine do_ rfl (.pointer (some ⟨n232, 1, none⟩)) (ex_field (q := ⟨n232, 1, none⟩) rfl (fa_52_1 _ _)) ?_
   simp only [pS, pN, pA, pC, pZ]
   refine stStore (i := 0) (v := (.slice (if cap138 = 1 then a137 else a137.map (·.add (1 * 3))) (((proveT (pairsN l0 20) (keyL l1)).steps).length - 1) (cap138 - 1))) S236 rfl rfl rfl rfl (size_50) (allc1 rfl) (Nat.le_of_ble_eq_true rfl) (fun w239 S240 => ?_)
   simp only [pS, pN, pA, pC, pZ]
   have S240 : St W (whole W) w239 F223 [⟨n232, [(.bool false), (.slice (if cap138 = 1 then a137 else a137.map (·.add (1 * 3))) (((proveT (pairsN l0 20) (keyL l1)).steps).length - 1) (cap138 - 1)), (.slice ka127 (proveT (pairsN l0 20) (keyL l1)).pair.1.length kc128), (.slice va129 (proveT (pairsN l0 20) (keyL l1)).pair.2.length vc130)], 52⟩, ⟨n163, [(.int .i64 ((q.bit : Nat) : Int)), (.bool q.right), (.slice xa160 q.other.length xc161)], 73⟩, ⟨n145, [(.bool false), (.slice a137 ((proveT (pairsN l0 20) (keyL l1)).steps).length cap138), (.slice ka127 (proveT (pairsN l0 20) (keyL l1)).pair.1.length kc128), (.slice va129 (proveT (pairsN l0 20) (keyL l1)).pair.2.length vc130)], 52⟩] [] := S240
   refine wl_nil (hK237 _ _ ?_)
   refine wp_seq_k (fun K241 hK241 => region_wl ?_)
   refine do_ rfl (.slice xa229 (rootT (sideF (pairsN l0 20) q)).length xc230) (ex_move _) ?_
   simp only [pS, pN, pA, pC, pZ]
   refine do_ rfl (.slice xa123 (keyL l1).length xc124) (ex_move _) ?_
   simp only [pS, pN, pA, pC, pZ]
   refine do_ rfl (.agg #[(.bool false), (.slice (if cap138 = 1 then a137 else a137.map (·.add (1 * 3))) (((proveT (pairsN l0 20) (keyL l1)).steps).length - 1) (cap138 - 1)), (.slice ka127 (proveT (pairsN l0 20) (keyL l1)).pair.1.length kc128), (.slice va129 (proveT (pairsN l0 20) (keyL l1)).pair.2.length vc130)]) (ex_load rfl (loadN (cs := [(.bool false), (.slice (if cap138 = 1 then a137 else a137.map (·.add (1 * 3))) (((proveT (pairsN l0 20) (keyL l1)).steps).length - 1) (cap138 - 1)), (.slice ka127 (proveT (pairsN l0 20) (keyL l1)).pair.1.length kc128), (.slice va129 (proveT (pairsN l0 20) (keyL l1)).pair.2.length vc130)]) Tryd.underlying52 rfl (size_52) (St.range S240 (i := 0) rfl 0 [(.bool false), (.slice (if cap138 = 1 then a137 else a137.map (·.add (1 * 3))) (((proveT (pairsN l0 20) (keyL l1)).steps).length - 1) (cap138 - 1)), (.slice ka127 (proveT (pairsN l0 20) (keyL l1)).pair.1.length kc128), (.slice va129 (proveT (pairsN l0 20) (keyL l1)).pair.2.length vc130)] (sub_range 0 rfl)))) ?_
   simp only [pS, pN, pA, pC, pZ]
   refine stGives S240 rfl (ex_fn (vs := #[(.slice xa229 (rootT (sideF (pairsN l0 20) q)).length xc230), (.slice xa123 (keyL l1).length xc124), (.agg #[(.bool false), (.slice (if cap138 = 1 then a137 else a137.map (·.add (1 * 3))) (((proveT (pairsN l0 20) (keyL l1)).steps).length - 1) (cap138 - 1)), (.slice ka127 (proveT (pairsN l0 20) (keyL l1)).pair.1.length kc128), (.slice va129 (proveT (pairsN l0 20) (keyL l1)).pair.2.length vc130)])]) (map3 rfl rfl rfl) rfl (ent_32 _ _)) (verifyIs_spec _ _ _ _ _ (rootT (sideF (pairsN l0 20) q)) (keyL l1) (⟨false, (proveT (pairsN l0 20) (keyL l1)).steps.drop 1, (proveT (pairsN l0 20) (keyL l1)).pair⟩ : Prf) (o := (getT (pairsN l0 20) (keyL l1))) (S240).sat (hT.at S240.gr.below) r228 (R121.mono ((((le134.trans le143).trans le179).trans le215).trans le224)) (show PrfV _ (.agg #[(.bool false), (.slice (if cap138 = 1 then a137 else a137.map (·.add (1 * 3))) (((proveT (pairsN l0 20) (keyL l1)).steps).length - 1) (cap138 - 1)), (.slice ka127 (proveT (pairsN l0 20) (keyL l1)).pair.1.length kc128), (.slice va129 (proveT (pairsN l0 20) (keyL l1)).pair.2.length vc130)]) (⟨false, (proveT (pairsN l0 20) (keyL l1)).steps.drop 1, (proveT (pairsN l0 20) (keyL l1)).pair⟩ : Prf) from ⟨(if cap138 = 1 then a137 else a137.map (·.add (1 * 3))), (cap138 - 1), ka127, kc128, va129, vc130, by simp only [List.length_drop], by simp only [List.length_drop]; exact r238, (r135.mono (((le143.trans le179).trans le215).trans le224)), (r136.mono (((le143.trans le179).trans le215).trans le224))⟩) (by rw [rootT_len]) (keyL_len l1) hfst.2.2.2.1 hfst.2.2.1 hfst.2.1 hfst.2.2.2.2) ?_
   intro v247 w242 F244 S243 le245 R246
   obtain ⟨_, rfl, a248, c249, rfl, r250⟩ := R246
   have r250 : Bs _ (.slice a248 ((getT (pairsN l0 20) (keyL l1)).getD []).length c249) ((getT (pairsN l0 20) (keyL l1)).getD []) := r250
   simp only [pS, pN, pA, pC, pZ]
   refine do_ rfl (.tuple #[(.agg #[(.bool (getT (pairsN l0 20) (keyL l1)).isSome), (.slice a248 ((getT (pairsN l0 20) (keyL l1)).getD []).length c249)]), (.int .i64 0)]) (ex_move _) ?_
   simp only [pS, pN, pA, pC, pZ]
   refine do_ rfl (.agg #[(.bool (getT (pairsN l0 20) (keyL l1)).isSome), (.slice a248 ((getT (pairsN l0 20) (keyL l1)).getD []).length c249)]) (ex_extract rfl rfl) ?_
   simp only [pS, pN, pA, pC, pZ]
   refine do_ rfl (.int .i64 0) (ex_extract rfl rfl) ?_
   simp only [pS, pN, pA, pC, pZ]
   refine stNew S243 (v := fun n => .pointer (some ⟨n, 0, none⟩)) rfl (ex_alloc (zero_65 _)) (fun n251 w252 S253 => ?_)
   simp only [pS, pN, pA, pC, pZ]
   have S253 : St W (whole W) w252 F244 [⟨n251, [(.bool false), (.slice none 0 0)], 65⟩, ⟨n232, [(.bool false), (.slice (if cap138 = 1 then a137 else a137.map (·.add (1 * 3))) (((proveT (pairsN l0 20) (keyL l1)).steps).length - 1) (cap138 - 1)), (.slice ka127 (proveT (pairsN l0 20) (keyL l1)).pair.1.length kc128), (.slice va129 (proveT (pairsN l0 20) (keyL l1)).pair.2.length vc130)], 52⟩, ⟨n163, [(.int .i64 ((q.bit : Nat) : Int)), (.bool q.right), (.slice xa160 q.other.length xc161)], 73⟩, ⟨n145, [(.bool false), (.slice a137 ((proveT (pairsN l0 20) (keyL l1)).steps).length cap138), (.slice ka127 (proveT (pairsN l0 20) (keyL l1)).pair.1.length kc128), (.slice va129 (proveT (pairsN l0 20) (keyL l1)).pair.2.length vc130)], 52⟩] [] := S253
   refine stStore (i := 0) (v := (.agg #[(.bool (getT (pairsN l0 20) (keyL l1)).isSome), (.slice a248 ((getT (pairsN l0 20) (keyL l1)).getD []).length c249)])) S253 rfl rfl rfl rfl (size_65) (allc2 rfl rfl) (Nat.le_of_ble_eq_true rfl) (fun w254 S255 => ?_)
   simp only [pS, pN, pA, pC, pZ]
   have S255 : St W (whole W) w254 F244 [⟨n251, [(.bool (getT (pairsN l0 20) (keyL l1)).isSome), (.slice a248 ((getT (pairsN l0 20) (keyL l1)).getD []).length c249)], 65⟩, ⟨n232, [(.bool false), (.slice (if cap138 = 1 then a137 else a137.map (·.add (1 * 3))) (((proveT (pairsN l0 20) (keyL l1)).steps).length - 1) (cap138 - 1)), (.slice ka127 (proveT (pairsN l0 20) (keyL l1)).pair.1.length kc128), (.slice va129 (proveT (pairsN l0 20) (keyL l1)).pair.2.length vc130)], 52⟩, ⟨n163, [(.int .i64 ((q.bit : Nat) : Int)), (.bool q.right), (.slice xa160 q.other.length xc161)], 73⟩, ⟨n145, [(.bool false), (.slice a137 ((proveT (pairsN l0 20) (keyL l1)).steps).length cap138), (.slice ka127 (proveT (pairsN l0 20) (keyL l1)).pair.1.length kc128), (.slice va129 (proveT (pairsN l0 20) (keyL l1)).pair.2.length vc130)], 52⟩] [] := S255
   refine do_ rfl (.int .i64 0) (ex_assign _) ?_
   simp only [pS, pN, pA, pC, pZ]
   refine wl_nil (hK241 _ _ ?_)
   refine wp_seq_k (fun K256 hK256 => region_wl ?_)
   refine do_ rfl (.slice a112 (pairsN l0 20).length c113) (ex_move _) ?_
   simp only [pS, pN, pA, pC, pZ]
   refine do_ rfl (.slice xa123 (keyL l1).length xc124) (ex_move _) ?_
   simp only [pS, pN, pA, pC, pZ]
   refine stGives S255 rfl (ex_fn (vs := #[(.slice a112 (pairsN l0 20).length c113), (.slice xa123 (keyL l1).length xc124)]) (map2 rfl rfl) rfl (ent_33 _ _)) (getIs_spec _ _ _ _ (pairsN l0 20) (keyL l1) (S255).sat (hv111.mono ((((((le120.trans le134).trans le143).trans le179).trans le215).trans le224).trans le245)) (R121.mono (((((le134.trans le143).trans le179).trans le215).trans le224).trans le245)) (TreeOk.mono (show TreeOk 20 (pairsN l0 20) from pairsN_ok l0 20) (by omega)) (keyL_len l1) (rfl)) ?_
   intro v262 w257 F259 S258 le260 R261
   obtain ⟨_, rfl, a263, c264, rfl, r265⟩ := R261
   have r265 : Bs _ (.slice a263 ((getT (pairsN l0 20) (keyL l1)).getD []).length c264) ((getT (pairsN l0 20) (keyL l1)).getD []) := r265
   simp only [pS, pN, pA, pC, pZ]
   refine do_ rfl (.tuple #[(.agg #[(.bool (getT (pairsN l0 20) (keyL l1)).isSome), (.slice a263 ((getT (pairsN l0 20) (keyL l1)).getD []).length c264)]), (.int .i64 0)]) (ex_move _) ?_
   simp only [pS, pN, pA, pC, pZ]
   refine do_ rfl (.agg #[(.bool (getT (pairsN l0 20) (keyL l1)).isSome), (.slice a263 ((getT (pairsN l0 20) (keyL l1)).getD []).length c264)]) (ex_extract rfl rfl) ?_
   simp only [pS, pN, pA, pC, pZ]
   refine do_ rfl (.int .i64 0) (ex_extract rfl rfl) ?_
   simp only [pS, pN, pA, pC, pZ]
   refine stNew S258 (v := fun n => .pointer (some ⟨n, 0, none⟩)) rfl (ex_alloc (zero_65 _)) (fun n266 w267 S268 => ?_)
   simp only [pS, pN, pA, pC, pZ]
   have S268 : St W (whole W) w267 F259 [⟨n266, [(.bool false), (.slice none 0 0)], 65⟩, ⟨n251, [(.bool (getT (pairsN l0 20) (keyL l1)).isSome), (.slice a248 ((getT (pairsN l0 20) (keyL l1)).getD []).length c249)], 65⟩, ⟨n232, [(.bool false), (.slice (if cap138 = 1 then a137 else a137.map (·.add (1 * 3))) (((proveT (pairsN l0 20) (keyL l1)).steps).length - 1) (cap138 - 1)), (.slice ka127 (proveT (pairsN l0 20) (keyL l1)).pair.1.length kc128), (.slice va129 (proveT (pairsN l0 20) (keyL l1)).pair.2.length vc130)], 52⟩, ⟨n163, [(.int .i64 ((q.bit : Nat) : Int)), (.bool q.right), (.slice xa160 q.other.length xc161)], 73⟩, ⟨n145, [(.bool false), (.slice a137 ((proveT (pairsN l0 20) (keyL l1)).steps).length cap138), (.slice ka127 (proveT (pairsN l0 20) (keyL l1)).pair.1.length kc128), (.slice va129 (proveT (pairsN l0 20) (keyL l1)).pair.2.length vc130)], 52⟩] [] := S268
   refine stStore (i := 0) (v := (.agg #[(.bool (getT (pairsN l0 20) (keyL l1)).isSome), (.slice a263 ((getT (pairsN l0 20) (keyL l1)).getD []).length c264)])) S268 rfl rfl rfl rfl (size_65) (allc2 rfl rfl) (Nat.le_of_ble_eq_true rfl) (fun w269 S270 => ?_)
   simp only [pS, pN, pA, pC, pZ]
   have S270 : St W (whole W) w269 F259 [⟨n266, [(.bool (getT (pairsN l0 20) (keyL l1)).isSome), (.slice a263 ((getT (pairsN l0 20) (keyL l1)).getD []).length c264)], 65⟩, ⟨n251, [(.bool (getT (pairsN l0 20) (keyL l1)).isSome), (.slice a248 ((getT (pairsN l0 20) (keyL l1)).getD []).length c249)], 65⟩, ⟨n232, [(.bool false), (.slice (if cap138 = 1 then a137 else a137.map (·.add (1 * 3))) (((proveT (pairsN l0 20) (keyL l1)).steps).length - 1) (cap138 - 1)), (.slice ka127 (proveT (pairsN l0 20) (keyL l1)).pair.1.length kc128), (.slice va129 (proveT (pairsN l0 20) (keyL l1)).pair.2.length vc130)], 52⟩, ⟨n163, [(.int .i64 ((q.bit : Nat) : Int)), (.bool q.right), (.slice xa160 q.other.length xc161)], 73⟩, ⟨n145, [(.bool false), (.slice a137 ((proveT (pairsN l0 20) (keyL l1)).steps).length cap138), (.slice ka127 (proveT (pairsN l0 20) (keyL l1)).pair.1.length kc128), (.slice va129 (proveT (pairsN l0 20) (keyL l1)).pair.2.length vc130)], 52⟩] [] := S270
   refine do_ rfl (.int .i64 0) (ex_assign _) ?_
   simp only [pS, pN, pA, pC, pZ]
   refine wl_nil (hK256 _ _ ?_)
   refine wp_seq_k (fun K271 hK271 => region_wl ?_)
   refine do_ rfl (.int .i64 0) (ex_move _) ?_
   simp only [pS, pN, pA, pC, pZ]
   refine do_ rfl (.bool true) (ex_eql (b := true) rfl rfl (by decide)) ?_
   simp only [pS, pN, pA, pC, pZ]
   refine do_ rfl (.bool true) (ex_move _) ?_
   simp only [pS, pN, pA, pC, pZ]
   refine do_ rfl (.int .i64 0) (ex_move _) ?_
   simp only [pS, pN, pA, pC, pZ]
   refine do_ rfl (.bool true) (ex_eql (b := true) rfl rfl (by decide)) ?_
   simp only [pS, pN, pA, pC, pZ]
   refine do_ rfl (.bool true) (ex_pick (b := true) rfl) ?_
   simp only [pS, pN, pA, pC, pZ]
   refine do_ rfl (.bool true) (ex_move _) ?_
   simp only [pS, pN, pA, pC, pZ]
   refine do_ rfl (.int .i64 0) (ex_move _) ?_
   simp only [pS, pN, pA, pC, pZ]
   refine do_ rfl (.bool true) (ex_eql (b := true) rfl rfl (by decide)) ?_
   simp only [pS, pN, pA, pC, pZ]
   refine do_ rfl (.bool true) (ex_pick (b := true) rfl) ?_
   simp only [pS, pN, pA, pC, pZ]
   refine do_ rfl (.bool true) (ex_move _) ?_
   simp only [pS, pN, pA, pC, pZ]
   refine do_ rfl (.pointer (some ⟨n251, 0, none⟩)) (ex_field (q := ⟨n251, 0, none⟩) rfl (fa_65_0 _ _)) ?_
   simp only [pS, pN, pA, pC, pZ]
   refine do_ rfl (.bool (getT (pairsN l0 20) (keyL l1)).isSome) (ex_load rfl (load1 (nagg_4 _) (St.cell S270 (i := 1) rfl rfl))) ?_
   simp only [pS, pN, pA, pC, pZ]
   refine do_ rfl (.pointer (some ⟨n266, 0, none⟩)) (ex_field (q := ⟨n266, 0, none⟩) rfl (fa_65_0 _ _)) ?_
   simp only [pS, pN, pA, pC, pZ]
   refine do_ rfl (.bool (getT (pairsN l0 20) (keyL l1)).isSome) (ex_load rfl (load1 (nagg_4 _) (St.cell S270 (i := 0) rfl rfl))) ?_
   simp only [pS, pN, pA, pC, pZ]
   refine do_ rfl (.bool true) (ex_eqlB Tryd.underlying4 rfl rfl (beq_self_eq_true _)) ?_
   simp only [pS, pN, pA, pC, pZ]
   refine do_ rfl (.bool true) (ex_pick (b := true) rfl) ?_
   simp only [pS, pN, pA, pC, pZ]
   refine do_ rfl (.bool true) (ex_move _) ?_
   simp only [pS, pN, pA, pC, pZ]
   refine do_ rfl (.pointer (some ⟨n251, 1, none⟩)) (ex_field (q := ⟨n251, 1, none⟩) rfl (fa_65_1 _ _)) ?_
   simp only [pS, pN, pA, pC, pZ]
   refine do_ rfl (.slice a248 ((getT (pairsN l0 20) (keyL l1)).getD []).length c249) (ex_load rfl (load1 (nagg_22 _) (St.cell S270 (i := 1) rfl rfl))) ?_
   simp only [pS, pN, pA, pC, pZ]
   refine do_ rfl (.pointer (some ⟨n266, 1, none⟩)) (ex_field (q := ⟨n266, 1, none⟩) rfl (fa_65_1 _ _)) ?_
   simp only [pS, pN, pA, pC, pZ]
   refine do_ rfl (.slice a263 ((getT (pairsN l0 20) (keyL l1)).getD []).length c264) (ex_load rfl (load1 (nagg_22 _) (St.cell S270 (i := 0) rfl rfl))) ?_
   simp only [pS, pN, pA, pC, pZ]
   refine stTells (v := (.bool true)) S270 rfl (ex_fn (vs := #[(.slice a248 ((getT (pairsN l0 20) (keyL l1)).getD []).length c249), (.slice a263 ((getT (pairsN l0 20) (keyL l1)).getD []).length c264)]) (map2 rfl rfl) rfl (ent_16 _ _)) (tells_bool (tells_same (same_spec _ _ _ _ ((getT (pairsN l0 20) (keyL l1)).getD []) ((getT (pairsN l0 20) (keyL l1)).getD []) (S270).sat (r250.mono le260) r265)) (beq_iff_eq.2 (rfl))) (fun w272 S273 => ?_)
   simp only [pS, pN, pA, pC, pZ]
   refine do_ rfl (.bool true) (ex_pick (b := true) rfl) ?_
   simp only [pS, pN, pA, pC, pZ]
   refine do_ rfl (.bool true) (ex_assign _) ?_
   simp only [pS, pN, pA, pC, pZ]
   refine wl_nil (hK271 _ _ ?_)
   refine wp_ret ?_
   (try simp only [Exit.then, Exit.inBlock, ↓reduceIte, Nat.reduceEqDiff])
   refine bodyPost_ret (v := (.bool true)) ?_ rfl ?_
   ·exact res_t rfl rfl
   ·exact ⟨rfl, S273.gr.below⟩
end Go.Proofs.YtcanckliggcllaaDoor
