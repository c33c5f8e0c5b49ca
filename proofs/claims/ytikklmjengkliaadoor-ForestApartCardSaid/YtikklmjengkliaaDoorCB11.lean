/- Rules, plain laws and walks: FR FP -/
import Derived.Test.YtikklmjengkliaaDoorCB9
import Derived.Test.YtikklmjengkliaaDoorCB6
import Derived.Test.YtikklmjengkliaaDoorCB7
import Derived.Test.YtikklmjengkliaaDoorCB10
namespace Go.Proofs.YtikklmjengkliaaDoor
open Go.RowKit
set_option maxRecDepth 100000
set_option linter.unusedVariables false
set_option linter.unusedSimpArgs false
/-- The tenants' names and the roots of their trees. -/
def rootsF (l : Forest) : List Pr := l.map fun t => (t.1, rootT t.2)
def rootF (l : Forest) : By := rootT (rootsF l)
theorem rootsF_take {l : Forest} {k : Nat} {t : By × List Pr} (h : l[k]? = some t) : rootsF (l.take k) ++ [(t.1, rootT t.2)] = rootsF (l.take (k + 1)) := by
  rw [take_snoc h]; simp [rootsF]
theorem rootsF_ok {m : Nat} {l : Forest} (h : ForestOk m l) : TreeOk 60 (rootsF l) := by
  refine ⟨by unfold rootsF; rw [List.length_map]; have := h.len; omega, fun p hp => ?_, ?_⟩
  · obtain ⟨t, ht, rfl⟩ := List.mem_map.1 hp
    have := h.name t ht
    exact ⟨this.1, by have := this.2; simp; omega, by simp [rootT_len]⟩
  · exact List.pairwise_map.2 h.rise
theorem rootsF_len (l : Forest) : (rootsF l).length = l.length := by simp [rootsF]
theorem rootF_len (l : Forest) : (rootF l).length = 32 := rootT_len _
set_option maxHeartbeats 8000000 in
theorem roots_own (F : Fz) (w : World) (v : Value) (l : Forest) (hs : Sat w F) (hT : Tabs w) (hv : Tns F v l) (ok : ForestOk 60 l) :
    Calls Tryd.prog 41 #[v] w (GivesO w F 2 PrC 34 (rootsF l)) := by
 obtain ⟨a, c, rfl, hc1, hc2⟩ := Sl.shape hv
 unfold maxLen at hc2
 have hl8 := ok.len
 obtain ⟨i34, hi34, hz34, hs34, hb34⟩ := info_parts info_34
 have S := St.start hs
 go_enter Tryd.func41, Tryd.ntmps41
 refine wp_seq_k (fun K1 hK1 => region_wl ?_)
 refine do_ rfl (.slice none 0 0) (ex_assign _) ?_
 simp only [pS, pN, pA, pC, pZ]
 refine wl_nil (hK1 _ _ ?_)
 refine wp_seq_k (fun K2 hK2 => region_wl ?_)
 refine do_ rfl (.slice none 0 0) (ex_assign _) ?_
 simp only [pS, pN, pA, pC, pZ]
 refine wl_nil (hK2 _ _ ?_)
 refine wp_seq_k (fun K3 hK3 => ?_)
 refine wp_seq_k (fun K4 hK4 => region_wl ?_)
 refine do_ rfl (.slice a l.length c) (ex_move _) ?_
 simp only [pS, pN, pA, pC, pZ]
 refine do_ rfl (.int .i64 ((l.length : Nat) : Int)) (ex_len Tryd.underlying24 rfl) ?_
 simp only [pS, pN, pA, pC, pZ]
 refine do_ rfl (.int .i64 0) (ex_move _) ?_
 simp only [pS, pN, pA, pC, pZ]
 refine wl_nil (hK4 _ _ ?_)
 refine wp_block ?_
 have S5 := St.addNil S 2 PrC PrC.mono 34 w.heap.size
 have S5 : St w F w F [] [ownP 2 PrC PrC.mono 34 w.heap.size (.slice none 0 0) (rootsF (l.take 0))] := S5
 refine wp_loop_g (fun mm aa w8 => ∃ (k : Nat) (v : Value) (F6 : Fz) (u7 : Nat → Value), mm = l.length - k ∧ u7 = slots aa ∧ aa = ⟨#[(.slice a l.length c), undef, (.slice none 0 0), v, undef, (u7 5), (u7 6), (u7 7), (.slice a l.length c), (.int .i64 ((l.length : Nat) : Int)), (.int .i64 ((k : Nat) : Int)), (u7 11), (u7 12), (u7 13), (u7 14), (u7 15), (u7 16), (u7 17), (u7 18), (u7 19), (u7 20), (u7 21), (u7 22), (u7 23), (u7 24), (u7 25), (u7 26), (u7 27), (u7 28), undef], []⟩ ∧ St w F w8 F6 [] [ownP 2 PrC PrC.mono 34 w.heap.size v (rootsF (l.take k))] ∧ Le F F6 ∧ (k ≤ l.length)) _ ⟨0, (.slice none 0 0), F, _, rfl, rfl, rfl, S5, Le.refl _, (by omega)⟩ ?_
 rintro m9 a10 w11 ⟨k, v, F6, u7, rfl, -, rfl, S12, le13, hk⟩ K14 hK14
 refine wp_seq_k (fun K15 hK15 => region_wl ?_)
 by_cases hc11 : k < l.length
 ·refine do_ rfl (.bool true) (ex_lss (m := ((k : Nat) : Int)) (n := ((l.length : Nat) : Int)) (b := true) rfl rfl (decide_eq_true (by omega))) ?_
  simp only [pS, pN, pA, pC, pZ]
  refine wl_nil (hK15 _ _ ?_)
  refine wp_seq_k (fun K16 hK16 => ?_)
  refine wp_cond_true rfl ?_
  refine wp_skip ?_
  refine hK16 _ _ ?_
  refine wp_seq_k (fun K17 hK17 => ?_)
  refine wp_block ?_
  refine wp_seq_k (fun K18 hK18 => ?_)
  obtain ⟨t, ht⟩ : ∃ t, l[k]? = some t := ⟨l[k], List.getElem?_eq_getElem hc11⟩
  have hnm := (ok.name t (List.mem_of_getElem? ht)).2
  have hrl := rootsF_len (l.take k)
  rw [List.length_take] at hrl
  obtain ⟨b19, o20, ha21, xa23, xc24, xa27, xc28, c22, c26, r25, r29⟩ := Tns.get (hv.mono le13) ht
  refine region_wl ?_
  refine do_ rfl (.pointer (some ⟨b19, o20 + k * 2, none⟩)) (ex_at (i := k) (sz := 2) Tryd.underlying24 (sizeof_28 _) rfl ha21 rfl (by omega) rfl) ?_
  simp only [pS, pN, pA, pC, pZ]
  refine do_ rfl (.agg #[(.slice xa23 t.1.length xc24), (.slice xa27 t.2.length xc28)]) (ex_load rfl (loadN (cs := [(.slice xa23 t.1.length xc24), (.slice xa27 t.2.length xc28)]) Tryd.underlying28 rfl (size_28) (range2 (St.fz S12 c22) (St.fz S12 c26)))) ?_
  simp only [pS, pN, pA, pC, pZ]
  refine stNew S12 (v := fun n => .pointer (some ⟨n, 0, none⟩)) rfl (ex_alloc (zero_28 _)) (fun n30 w31 S32 => ?_)
  simp only [pS, pN, pA, pC, pZ]
  have S32 : St w F w31 F6 [⟨n30, [(.slice none 0 0), (.slice none 0 0)], 28⟩] [ownP 2 PrC PrC.mono 34 w.heap.size v (rootsF (l.take k))] := S32
  refine stStore (i := 0) (v := (.agg #[(.slice xa23 t.1.length xc24), (.slice xa27 t.2.length xc28)])) S32 rfl rfl rfl rfl (size_28) (allc2 rfl rfl) (Nat.le_of_ble_eq_true rfl) (fun w33 S34 => ?_)
  simp only [pS, pN, pA, pC, pZ]
  have S34 : St w F w33 F6 [⟨n30, [(.slice xa23 t.1.length xc24), (.slice xa27 t.2.length xc28)], 28⟩] [ownP 2 PrC PrC.mono 34 w.heap.size v (rootsF (l.take k))] := S34
  refine wl_nil (hK18 _ _ ?_)
  refine wp_seq_k (fun K35 hK35 => region_wl ?_)
  refine do_ rfl (.pointer (some ⟨n30, 1, none⟩)) (ex_field (q := ⟨n30, 1, none⟩) rfl (fa_28_1 _ _)) ?_
  simp only [pS, pN, pA, pC, pZ]
  refine do_ rfl (.slice xa27 t.2.length xc28) (ex_load rfl (load1 (nagg_26 _) (St.cell S34 (i := 0) rfl rfl))) ?_
  simp only [pS, pN, pA, pC, pZ]
  refine stGives S34 rfl (ex_fn (vs := #[(.slice xa27 t.2.length xc28)]) (map1 rfl) rfl (ent_18 _ _)) (Root_spec _ _ _ t.2 (S34).sat (hT.at S34.gr.below) r29 ((ok.tree t (List.mem_of_getElem? ht)).mono (by omega))) ?_
  intro v41 w36 F38 S37 le39 R40
  obtain ⟨x42, rfl, r43⟩ := R40
  obtain ⟨xa44, xc45, rfl, _⟩ := r43.shape
  have r43 : Bs _ (.slice xa44 (rootT t.2).length xc45) (rootT t.2) := r43
  simp only [pS, pN, pA, pC, pZ]
  refine do_ rfl (.tuple #[(.slice xa44 (rootT t.2).length xc45), (.int .i64 0)]) (ex_move _) ?_
  simp only [pS, pN, pA, pC, pZ]
  refine do_ rfl (.slice xa44 (rootT t.2).length xc45) (ex_extract rfl rfl) ?_
  simp only [pS, pN, pA, pC, pZ]
  refine do_ rfl (.int .i64 0) (ex_extract rfl rfl) ?_
  simp only [pS, pN, pA, pC, pZ]
  refine do_ rfl (.slice xa44 (rootT t.2).length xc45) (ex_assign _) ?_
  simp only [pS, pN, pA, pC, pZ]
  refine do_ rfl (.int .i64 0) (ex_assign _) ?_
  simp only [pS, pN, pA, pC, pZ]
  refine wl_nil (hK35 _ _ ?_)
  refine region_wl ?_
  refine do_ rfl v (ex_move _) ?_
  simp only [pS, pN, pA, pC, pZ]
  refine do_ rfl (.pointer (some ⟨n30, 0, none⟩)) (ex_field (q := ⟨n30, 0, none⟩) rfl (fa_28_0 _ _)) ?_
  simp only [pS, pN, pA, pC, pZ]
  refine do_ rfl (.slice xa23 t.1.length xc24) (ex_load rfl (load1 (nagg_23 _) (St.cell S37 (i := 0) rfl rfl))) ?_
  simp only [pS, pN, pA, pC, pZ]
  refine stGives S37 rfl (ex_fn (vs := #[(.slice xa23 t.1.length xc24)]) (map1 rfl) rfl (ent_64 _ _)) (clone_spec _ _ _ t.1 (S37).sat (r25.mono le39) (by omega)) ?_
  intro v51 w46 F48 S47 le49 R50
  obtain ⟨xa52, xc53, rfl, _⟩ := R50.shape
  simp only [pS, pN, pA, pC, pZ]
  refine do_ rfl (.slice xa44 (rootT t.2).length xc45) (ex_move _) ?_
  simp only [pS, pN, pA, pC, pZ]
  refine do_ rfl (.agg #[(.slice xa52 t.1.length xc53), (.slice xa44 (rootT t.2).length xc45)]) (ex_build (ps := #[(0, (.slice xa52 t.1.length xc53)), (1, (.slice xa44 (rootT t.2).length xc45))]) (bmap2 rfl rfl) (by kernel_rfl)) ?_
  simp only [pS, pN, pA, pC, pZ]
  refine stNew S47 (v := fun n => .slice (some ⟨n, 0, none⟩) 1 1) rfl (ex_lit (ps := #[(0, (.agg #[(.slice xa52 t.1.length xc53), (.slice xa44 (rootT t.2).length xc45)]))]) (cells := #[(.slice xa52 t.1.length xc53), (.slice xa44 (rootT t.2).length xc45)]) (E := 34) (bmap1 rfl) (fun w => by kernel_rfl)) (fun n54 w55 S56 => ?_)
  simp only [pS, pN, pA, pC, pZ]
  have S56 : St w F w55 F48 [⟨n54, [(.slice xa52 t.1.length xc53), (.slice xa44 (rootT t.2).length xc45)], 34⟩, ⟨n30, [(.slice xa23 t.1.length xc24), (.slice xa27 t.2.length xc28)], 28⟩] [ownP 2 PrC PrC.mono 34 w.heap.size v (rootsF (l.take k))] := S56
  refine stPush (i := 0) (r := 0) (p := (t.1, rootT t.2)) (cs := [(.slice xa52 t.1.length xc53), (.slice xa44 (rootT t.2).length xc45)]) S56 rfl i34 (.agg #[(.slice none 0 0), (.slice none 0 0)]) 48 Tryd.underlying26 hi34 hz34 hs34 hb34 rfl (by decide) rfl rfl rfl rfl rfl (PrC.oneCell (p := (t.1, rootT t.2)) ⟨_, _, rfl, R50, (r43.mono le49)⟩) (⟨_, _, rfl, R50, (r43.mono le49)⟩) (Nat.le_refl _) S56.gr.below.size (by unfold maxLen; omega) (by omega) ?_
  intro v57 w58 S59 hn60
  simp only [pS, pN, pA, pC, pZ]
  have S59 := St.drop S59 (L' := [⟨n30, [(.slice xa23 t.1.length xc24), (.slice xa27 t.2.length xc28)], 28⟩]) (.cons _ (List.Sublist.refl _))
  have S59 : St w F w58 F48 [⟨n30, [(.slice xa23 t.1.length xc24), (.slice xa27 t.2.length xc28)], 28⟩] [ownP 2 PrC PrC.mono 34 w.heap.size v57 ((rootsF (l.take k)) ++ [(t.1, rootT t.2)])] := S59
  refine do_ rfl v57 (ex_assign _) ?_
  simp only [pS, pN, pA, pC, pZ]
  refine wl_nil (hK17 _ _ ?_)
  refine region_wl ?_
  refine do_ rfl (.int .i64 (((k + 1) : Nat) : Int)) (ex_add (m := ((k : Nat) : Int)) (n := (1 : Int)) (r := (((k + 1) : Nat) : Int)) rfl rfl (by omega) (by omega) (by omega)) ?_
  simp only [pS, pN, pA, pC, pZ]
  refine do_ rfl (.int .i64 (((k + 1) : Nat) : Int)) (ex_move _) ?_
  simp only [pS, pN, pA, pC, pZ]
  refine wl_nil ?_
  have S59 := St.drop S59 (L' := []) (.cons _ (List.Sublist.refl _))
  rw [rootsF_take ht] at S59
  exact hK14 _ _ _ (by omega) ⟨(k + 1), v57, F48, _, rfl, rfl, rfl, S59, ((le13.trans le39).trans le49), (by omega)⟩
 ·refine do_ rfl (.bool false) (ex_lss (m := ((k : Nat) : Int)) (n := ((l.length : Nat) : Int)) (b := false) rfl rfl (decide_eq_false (by omega))) ?_
  simp only [pS, pN, pA, pC, pZ]
  refine wl_nil (hK15 _ _ ?_)
  refine wp_seq_k (fun K61 hK61 => ?_)
  refine wp_cond_false rfl ?_
  refine wp_exit ?_
  refine hK3 _ _ ?_
  refine wp_seq_k (fun K62 hK62 => region_wl ?_)
  refine do_ rfl v (ex_move _) ?_
  simp only [pS, pN, pA, pC, pZ]
  refine do_ rfl v (ex_assign _) ?_
  simp only [pS, pN, pA, pC, pZ]
  refine wl_nil (hK62 _ _ ?_)
  refine wp_ret ?_
  (try simp only [Exit.then, Exit.inBlock, ↓reduceIte, Nat.reduceEqDiff])
  refine bodyPost_ret (v := v) ?_ rfl ?_
  ·exact res_t rfl rfl
  ·obtain rfl : k = l.length := by omega
   exact ⟨_, _, rfl, S12.gr, by have h := St.own (i := 0) S12 rfl; rwa [List.take_length] at h⟩
set_option maxHeartbeats 8000000 in
theorem forestRoot_spec (F : Fz) (w : World) (v : Value) (l : Forest) (hs : Sat w F) (hT : Tabs w) (hv : Tns F v l) (ok : ForestOk 60 l) :
    Calls Tryd.prog 17 #[v] w (Gives w F (SumR (rootF l) 0)) := by
 obtain ⟨a, c, rfl, hc1, hc2⟩ := Sl.shape hv
 unfold maxLen at hc2
 have S := St.start hs
 go_enter Tryd.func17, Tryd.ntmps17
 refine wp_seq_k (fun K1 hK1 => region_wl ?_)
 refine do_ rfl (.slice none 0 0) (ex_assign _) ?_
 simp only [pS, pN, pA, pC, pZ]
 refine do_ rfl (.int .i64 0) (ex_assign _) ?_
 simp only [pS, pN, pA, pC, pZ]
 refine wl_nil (hK1 _ _ ?_)
 refine wp_seq_k (fun K2 hK2 => ?_)
 refine wp_seq_k (fun K3 hK3 => region_wl ?_)
 refine do_ rfl (.slice a l.length c) (ex_move _) ?_
 simp only [pS, pN, pA, pC, pZ]
 refine stTells (v := (.int .i64 0)) S rfl (ex_fn (vs := #[(.slice a l.length c)]) (map1 rfl) rfl (ent_38 _ _)) (forestCheckOk_spec _ _ _ l (S).sat hv ok) (fun w4 S5 => ?_)
 simp only [pS, pN, pA, pC, pZ]
 refine do_ rfl (.int .i64 0) (ex_assign _) ?_
 simp only [pS, pN, pA, pC, pZ]
 refine wl_nil (hK3 _ _ ?_)
 refine wp_seq_k (fun K6 hK6 => region_wl ?_)
 refine do_ rfl (.int .i64 0) (ex_move _) ?_
 simp only [pS, pN, pA, pC, pZ]
 refine do_ rfl (.bool false) (ex_neq (m := (0 : Int)) (n := (0 : Int)) (b := false) rfl rfl (bne_eq_false_iff_eq.2 (by omega))) ?_
 simp only [pS, pN, pA, pC, pZ]
 refine wl_nil (hK6 _ _ ?_)
 refine wp_cond_false rfl ?_
 refine wp_skip ?_
 refine hK2 _ _ ?_
 refine wp_seq_k (fun K7 hK7 => region_wl ?_)
 refine do_ rfl (.slice a l.length c) (ex_move _) ?_
 simp only [pS, pN, pA, pC, pZ]
 refine stGives S5 rfl (ex_fn (vs := #[(.slice a l.length c)]) (map1 rfl) rfl (ent_41 _ _)) (gives_of_own PrC.mono (roots_own _ _ _ l (S5).sat (hT.at S5.gr.below) hv ok)) ?_
 intro v13 w8 F10 S9 le11 R12
 obtain ⟨a14, c15, rfl, _⟩ := Sl.shape R12
 simp only [pS, pN, pA, pC, pZ]
 refine stGives S9 rfl (ex_fn (vs := #[(.slice a14 (rootsF l).length c15)]) (map1 rfl) rfl (ent_18 _ _)) (Root_spec _ _ _ (rootsF l) (S9).sat (hT.at S9.gr.below) R12 (rootsF_ok ok)) ?_
 intro v21 w16 F18 S17 le19 R20
 obtain ⟨x22, rfl, r23⟩ := R20
 obtain ⟨xa24, xc25, rfl, _⟩ := r23.shape
 have r23 : Bs _ (.slice xa24 (rootT (rootsF l)).length xc25) (rootT (rootsF l)) := r23
 simp only [pS, pN, pA, pC, pZ]
 refine do_ rfl (.slice xa24 (rootT (rootsF l)).length xc25) (ex_extract rfl rfl) ?_
 simp only [pS, pN, pA, pC, pZ]
 refine do_ rfl (.int .i64 0) (ex_extract rfl rfl) ?_
 simp only [pS, pN, pA, pC, pZ]
 refine do_ rfl (.slice xa24 (rootT (rootsF l)).length xc25) (ex_assign _) ?_
 simp only [pS, pN, pA, pC, pZ]
 refine do_ rfl (.int .i64 0) (ex_assign _) ?_
 simp only [pS, pN, pA, pC, pZ]
 refine wl_nil (hK7 _ _ ?_)
 refine wp_ret ?_
 (try simp only [Exit.then, Exit.inBlock, ↓reduceIte, Nat.reduceEqDiff])
 refine bodyPost_ret (v := (.tuple #[(.slice xa24 (rootT (rootsF l)).length xc25), (.int .i64 0)])) ?_ rfl ?_
 ·exact res_tt rfl rfl rfl
 ·exact ⟨_, _, rfl, S17.gr, _, rfl, r23⟩
end Go.Proofs.YtikklmjengkliaaDoor
namespace Go.Proofs.YtikklmjengkliaaDoor
open Go.RowKit
set_option maxRecDepth 100000
set_option linter.unusedVariables false
set_option linter.unusedSimpArgs false
theorem stGivesPrf {P : Program} {ops : Array Oper} {Q : Exit → Act → World → Prop} {a : Act} {rest : List Oper} {o : Oper} {kf : FuncId} {vs : Array Value} {w0 w : World} {F0 F : Fz} {L : List Blk} {M : List RowP} {p : Prf} (S : St w0 F0 w F L M) (hw : Region.wanted o (yielded ops a.tmps) = true)
    (hr : (execOp a.eval o).run P w = .ok (.enter kf vs) w) (hc : Calls P kf vs w (GivesPrf w F p))
    (h : ∀ v ka kc va vc w' F', St w0 F0 w' F' L (ownP 3 StpC StpC.mono 127 w0.heap.size v p.steps :: M) → Le F F' → Bs F' (.slice ka p.pair.1.length kc) p.pair.1 → Bs F' (.slice va p.pair.2.length vc) p.pair.2 → WL P ops Q rest (a.put o.dst (.tuple #[.agg #[.bool p.empty, v, .slice ka p.pair.1.length kc, .slice va p.pair.2.length vc], .int .i64 0])) w') : WL P ops Q (o :: rest) a w :=
  doC hw hr hc fun e w' ⟨v, ka, kc, va, vc, F', he, g, ho, h1, h2⟩ => ⟨_, he, h v ka kc va vc w' F' (S.addRow g ho) (g.le S.sat) h1 h2⟩
theorem prove_steps {n : Nat} {l : List Pr} (ok : TreeOk n l) (k : By) : StpsOk (proveT l k).steps ∧ (∀ s ∈ (proveT l k).steps, bitL k s.bit = s.right ∧ bitL (proveT l k).pair.1 s.bit = s.right) ∧ (proveT l k).steps.length ≤ l.length ∧ (2 ≤ l.length → 0 < (proveT l k).steps.length) ∧ (l ≠ [] → (proveT l k).empty = false ∧ (proveT l k).pair ∈ l) := by
  unfold proveT
  by_cases e : l = []
  · rw [if_pos e]; subst e; exact ⟨fun s hs => by simp at hs, fun s hs => by simp at hs, by simp, by simp, fun h => absurd rfl h⟩
  · rw [if_neg e]
    have h1 := List.length_pos_iff.2 e
    have hr := steps_rise l.length l k 0 ok.keys h1 (fun p _ q _ j hj => by omega)
    have hso : ∀ {B : Nat} {s : List Stp}, RiseS B s → StpsOk s := by
      intro B s
      induction s generalizing B with
      | nil => intro _ x hx; simp at hx
      | cons x s ih =>
        intro h y hy
        obtain ⟨_, h2, h3, h4⟩ := h
        rcases List.mem_cons.1 hy with rfl | hy
        · exact ⟨h2, h3⟩
        · exact ih h4 y hy
    refine ⟨hso hr, steps_way l.length l k ok.keys h1, by have := steps_len l.length l k ok.keys h1; simp only; omega, fun h2 => ?_, fun _ => ⟨rfl, steps_pair l.length l k ok.keys h1⟩⟩
    simp only
    match hl : l.length, h1 with
    | n + 1, _ => unfold stepsN; rw [if_neg (by omega)]; simp
theorem prove_ok {n : Nat} {l : List Pr} (ok : TreeOk n l) (hn : n ≤ 60) (k : By) : PrfOk (proveT l k) := by
  have h := prove_steps ok k
  by_cases e : l = []
  · subst e; exact .inl ⟨rfl, rfl, rfl⟩
  · obtain ⟨h1, h2⟩ := h.2.2.2.2 e
    exact .inr ⟨h1, (sub_ok ok (List.singleton_sublist.2 h2)).mono hn, h.1, by have := h.2.2.1; have := ok.len; omega⟩
theorem verifyIs_spec (F : Fz) (w : World) (v u z : Value) (r k : By) (p : Prf) {o : Option By} (hs : Sat w F) (hT : Tabs w) (hr : Bs F z r) (hu : Bs F u k) (hv : PrfV F v p) (hr32 : r.length = 32) (hk : 1 ≤ k.length ∧ k.length ≤ 16) (ok : PrfOk p) (hc : checkP k p = true) (hup : upT p = r) (ho : tellP k p = o) :
    Calls Tryd.prog 52 #[z, u, v] w (Gives w F (GetR o 0)) := ho ▸ verify_spec F w v u z r k p hs hT hr hu hv hr32 hk ok hc hup
theorem hl_two {P : Program} {Q : Exit → Act → World → Prop} {F : Fz} {fuel : Nat} {listed : Array Bool} {a : Act} {w : World} {l : List Oper} {o1 o2 : Oper} (i j : Nat) (hr : Region.ready .any l.toArray listed = [i, j]) (hi : l[i]? = some o1) (hj : l[j]? = some o2)
    (h1 : WL P l.toArray (Exit.then (fun a' w' => Sat w' F ∧ Go.wpAnyH P .any l.toArray Q (fun w => Sat w F) fuel (listed.setIfInBounds i true) a' w') Q) [o1] a w)
    (h2 : WL P l.toArray (Exit.then (fun a' w' => Sat w' F ∧ Go.wpAnyH P .any l.toArray Q (fun w => Sat w F) fuel (listed.setIfInBounds j true) a' w') Q) [o2] a w) : HL P l.toArray Q F (fuel + 1) listed a w := by
  refine ⟨Go.wpAnyH_all hr (by simp) fun k hk => ?_⟩
  have key : ∀ (m : Nat) (o : Oper), l[m]? = some o → WL P l.toArray (Exit.then (fun a' w' => Sat w' F ∧ Go.wpAnyH P .any l.toArray Q (fun w => Sat w F) fuel (listed.setIfInBounds m true) a' w') Q) [o] a w → wpOp P l.toArray Q m (fun a' w' => Sat w' F ∧ Go.wpAnyH P .any l.toArray Q (fun w => Sat w F) fuel (listed.setIfInBounds m true) a' w') a w := by
    intro m o hm h
    have h1 := h.out
    unfold wpList at h1
    unfold wpOp
    have hi' : l.toArray[m]? = some o := by simpa using hm
    simp only [hi']
    split
    · rename_i hw
      rw [if_pos hw] at h1
      rcases h1 with h1 | h1
      · left
        refine Oper.wp_mono (fun a' w' hk => ?_) (Oper.wp_exit h1)
        exact hk
      · exact .inr h1
    · rename_i hw
      rw [if_neg hw] at h1
      exact h1
  rcases (by simpa using hk : k = i ∨ k = j) with rfl | rfl
  · exact key _ _ hi h1
  · exact key _ _ hj h2
def PrvR (p q : Prf) (F : Fz) (u : Value) : Prop := ∃ x y, u = .tuple #[x, y, .int .i64 0] ∧ PrfV F x p ∧ PrfV F y q
theorem roots_get {l : Forest} (n : By) : getT (rootsF l) n = (getT l n).map rootT := by
  induction l with
  | nil => rfl
  | cons t l ih =>
    unfold rootsF at ih ⊢
    rw [List.map_cons, getT_cons, getT_cons, ih]
    split <;> rfl
set_option maxHeartbeats 8000000 in
theorem forestProve_spec (F : Fz) (w : World) (v u z : Value) (l : Forest) (n k : By) (hs : Sat w F) (hT : Tabs w) (hv : Tns F v l) (hn : Bs F u n) (hk : Bs F z k) (ok1 : ForestOk 60 l) (hnn : 1 ≤ n.length ∧ n.length ≤ 8) (hkk : 1 ≤ k.length ∧ k.length ≤ 16) :
    Calls Tryd.prog 21 #[v, u, z] w (Gives w F (PrvR (proveT (rootsF l) n) (proveT (treeF l n) k))) := by
 have hn0 := nameN_ok hnn.1 hnn.2
 have hl8 := ok1.len
 obtain ⟨a, c, rfl, hc1, hc2⟩ := Sl.shape hv
 obtain ⟨a2, c2, rfl, _⟩ := hn.shape
 obtain ⟨a3, c3, rfl, _⟩ := hk.shape
 have S := St.start hs
 go_enter Tryd.func21, Tryd.ntmps21
 refine wp_seq_k (fun K1 hK1 => region_wl ?_)
 refine stNew S (v := fun n => .pointer (some ⟨n, 0, none⟩)) rfl (ex_alloc (zero_49 _)) (fun n2 w3 S4 => ?_)
 simp only [pS, pN, pA, pC, pZ]
 have S4 : St w F w3 F [⟨n2, [(.bool false), (.slice none 0 0), (.slice none 0 0), (.slice none 0 0)], 49⟩] [] := S4
 refine stNew S4 (v := fun n => .pointer (some ⟨n, 0, none⟩)) rfl (ex_alloc (zero_49 _)) (fun n5 w6 S7 => ?_)
 simp only [pS, pN, pA, pC, pZ]
 have S7 : St w F w6 F [⟨n5, [(.bool false), (.slice none 0 0), (.slice none 0 0), (.slice none 0 0)], 49⟩, ⟨n2, [(.bool false), (.slice none 0 0), (.slice none 0 0), (.slice none 0 0)], 49⟩] [] := S7
 refine do_ rfl (.int .i64 0) (ex_assign _) ?_
 simp only [pS, pN, pA, pC, pZ]
 refine wl_nil (hK1 _ _ ?_)
 refine wp_seq_k (fun K8 hK8 => ?_)
 refine wp_seq_k (fun K9 hK9 => region_wl ?_)
 refine do_ rfl (.slice a l.length c) (ex_move _) ?_
 simp only [pS, pN, pA, pC, pZ]
 refine do_ rfl (.slice a2 n.length c2) (ex_move _) ?_
 simp only [pS, pN, pA, pC, pZ]
 refine stTells (v := (.int .i64 0)) S7 rfl (ex_fn (vs := #[(.slice a l.length c), (.slice a2 n.length c2)]) (map2 rfl rfl) rfl (ent_48 _ _)) (checkedOk_spec _ _ _ _ l n (S7).sat hv hn ok1 hn0) (fun w10 S11 => ?_)
 simp only [pS, pN, pA, pC, pZ]
 refine do_ rfl (.int .i64 0) (ex_assign _) ?_
 simp only [pS, pN, pA, pC, pZ]
 refine wl_nil (hK9 _ _ ?_)
 refine wp_seq_k (fun K12 hK12 => region_wl ?_)
 refine do_ rfl (.int .i64 0) (ex_move _) ?_
 simp only [pS, pN, pA, pC, pZ]
 refine do_ rfl (.bool false) (ex_neq (b := false) rfl rfl (by decide)) ?_
 simp only [pS, pN, pA, pC, pZ]
 refine wl_nil (hK12 _ _ ?_)
 refine wp_cond_false rfl ?_
 refine wp_skip ?_
 refine hK8 _ _ ?_
 refine wp_seq_k (fun K13 hK13 => region_wl ?_)
 refine do_ rfl (.slice a l.length c) (ex_move _) ?_
 simp only [pS, pN, pA, pC, pZ]
 refine do_ rfl (.slice a2 n.length c2) (ex_move _) ?_
 simp only [pS, pN, pA, pC, pZ]
 refine stTree S11 rfl (ex_fn (vs := #[(.slice a l.length c), (.slice a2 n.length c2)]) (map2 rfl rfl) rfl (ent_50 _ _)) (pairsT_spec _ _ _ _ l n (S11).sat hv hn ok1.rise (by omega)) ?_
 intro x14 w15 S16 hp17
 obtain ⟨a18, c19, rfl, _⟩ := Sl.shape hp17
 simp only [pS, pN, pA, pC, pZ]
 have S16 : St w F w15 F [⟨n5, [(.bool false), (.slice none 0 0), (.slice none 0 0), (.slice none 0 0)], 49⟩, ⟨n2, [(.bool false), (.slice none 0 0), (.slice none 0 0), (.slice none 0 0)], 49⟩] [] := S16
 refine do_ rfl (.slice a3 k.length c3) (ex_move _) ?_
 simp only [pS, pN, pA, pC, pZ]
 refine stGivesPrf S16 rfl (ex_fn (vs := #[(.slice a18 (treeF l n).length c19), (.slice a3 k.length c3)]) (map2 rfl rfl) rfl (ent_49 _ _)) (prove_spec _ _ _ _ (treeF l n) k (S16).sat (hT.at S16.gr.below) hp17 hk (treeF_ok ok1 n) hkk) ?_
 intro v20 ka21 kc22 va23 vc24 w25 F26 S27 le28 r29 r30
 simp only [pS, pN, pA, pC, pZ]
 have S27 : St w F w25 F26 [⟨n5, [(.bool false), (.slice none 0 0), (.slice none 0 0), (.slice none 0 0)], 49⟩, ⟨n2, [(.bool false), (.slice none 0 0), (.slice none 0 0), (.slice none 0 0)], 49⟩] [ownP 3 StpC StpC.mono 127 w.heap.size v20 ((proveT (treeF l n) k).steps)] := S27
 obtain ⟨a31, cap32, rfl, h33, h34⟩ := (S27.own (i := 0) rfl).shape
 unfold maxLen at h34
 obtain ⟨F35, S36, le37, hv38⟩ := St.freeze S27 (i := 0) rfl (Nat.le_refl _)
 have S36 : St w F w25 F35 [⟨n5, [(.bool false), (.slice none 0 0), (.slice none 0 0), (.slice none 0 0)], 49⟩, ⟨n2, [(.bool false), (.slice none 0 0), (.slice none 0 0), (.slice none 0 0)], 49⟩] [] := S36
 have hv38 : Stps _ (.slice a31 ((proveT (treeF l n) k).steps).length cap32) ((proveT (treeF l n) k).steps) := hv38
 refine do_ rfl (.tuple #[(.agg #[(.bool (proveT (treeF l n) k).empty), (.slice a31 ((proveT (treeF l n) k).steps).length cap32), (.slice ka21 (proveT (treeF l n) k).pair.1.length kc22), (.slice va23 (proveT (treeF l n) k).pair.2.length vc24)]), (.int .i64 0)]) (ex_move _) ?_
 simp only [pS, pN, pA, pC, pZ]
 refine do_ rfl (.agg #[(.bool (proveT (treeF l n) k).empty), (.slice a31 ((proveT (treeF l n) k).steps).length cap32), (.slice ka21 (proveT (treeF l n) k).pair.1.length kc22), (.slice va23 (proveT (treeF l n) k).pair.2.length vc24)]) (ex_extract rfl rfl) ?_
 simp only [pS, pN, pA, pC, pZ]
 refine do_ rfl (.int .i64 0) (ex_extract rfl rfl) ?_
 simp only [pS, pN, pA, pC, pZ]
 refine stStore (i := 0) (v := (.agg #[(.bool (proveT (treeF l n) k).empty), (.slice a31 ((proveT (treeF l n) k).steps).length cap32), (.slice ka21 (proveT (treeF l n) k).pair.1.length kc22), (.slice va23 (proveT (treeF l n) k).pair.2.length vc24)])) S36 rfl rfl rfl rfl (size_49) (allc4 rfl rfl rfl rfl) (Nat.le_of_ble_eq_true rfl) (fun w39 S40 => ?_)
 simp only [pS, pN, pA, pC, pZ]
 have S40 : St w F w39 F35 [⟨n5, [(.bool (proveT (treeF l n) k).empty), (.slice a31 ((proveT (treeF l n) k).steps).length cap32), (.slice ka21 (proveT (treeF l n) k).pair.1.length kc22), (.slice va23 (proveT (treeF l n) k).pair.2.length vc24)], 49⟩, ⟨n2, [(.bool false), (.slice none 0 0), (.slice none 0 0), (.slice none 0 0)], 49⟩] [] := S40
 refine do_ rfl (.int .i64 0) (ex_assign _) ?_
 simp only [pS, pN, pA, pC, pZ]
 refine wl_nil (hK13 _ _ ?_)
 refine wp_seq_k (fun K41 hK41 => ?_)
 refine wp_seq_k (fun K42 hK42 => region_wl ?_)
 refine do_ rfl (.int .i64 0) (ex_move _) ?_
 simp only [pS, pN, pA, pC, pZ]
 refine do_ rfl (.bool false) (ex_neq (b := false) rfl rfl (by decide)) ?_
 simp only [pS, pN, pA, pC, pZ]
 refine wl_nil (hK42 _ _ ?_)
 refine wp_cond_false rfl ?_
 refine wp_skip ?_
 refine hK41 _ _ ?_
 refine wp_seq_k (fun K43 hK43 => region_wl ?_)
 refine do_ rfl (.slice a l.length c) (ex_move _) ?_
 simp only [pS, pN, pA, pC, pZ]
 refine stGives S40 rfl (ex_fn (vs := #[(.slice a l.length c)]) (map1 rfl) rfl (ent_41 _ _)) (gives_of_own PrC.mono (roots_own _ _ _ l (S40).sat (hT.at S40.gr.below) (hv.mono (le28.trans le37)) ok1)) ?_
 intro v49 w44 F46 S45 le47 R48
 obtain ⟨a50, c51, rfl, _⟩ := Sl.shape R48
 simp only [pS, pN, pA, pC, pZ]
 refine do_ rfl (.slice a2 n.length c2) (ex_move _) ?_
 simp only [pS, pN, pA, pC, pZ]
 refine stGivesPrf S45 rfl (ex_fn (vs := #[(.slice a50 (rootsF l).length c51), (.slice a2 n.length c2)]) (map2 rfl rfl) rfl (ent_49 _ _)) (prove_spec _ _ _ _ (rootsF l) n (S45).sat (hT.at S45.gr.below) R48 (hn.mono ((le28.trans le37).trans le47)) (rootsF_ok ok1) ⟨hnn.1, by omega⟩) ?_
 intro v52 ka53 kc54 va55 vc56 w57 F58 S59 le60 r61 r62
 simp only [pS, pN, pA, pC, pZ]
 have S59 : St w F w57 F58 [⟨n5, [(.bool (proveT (treeF l n) k).empty), (.slice a31 ((proveT (treeF l n) k).steps).length cap32), (.slice ka21 (proveT (treeF l n) k).pair.1.length kc22), (.slice va23 (proveT (treeF l n) k).pair.2.length vc24)], 49⟩, ⟨n2, [(.bool false), (.slice none 0 0), (.slice none 0 0), (.slice none 0 0)], 49⟩] [ownP 3 StpC StpC.mono 127 w.heap.size v52 ((proveT (rootsF l) n).steps)] := S59
 obtain ⟨a63, cap64, rfl, h65, h66⟩ := (S59.own (i := 0) rfl).shape
 unfold maxLen at h66
 obtain ⟨F67, S68, le69, hv70⟩ := St.freeze S59 (i := 0) rfl (Nat.le_refl _)
 have S68 : St w F w57 F67 [⟨n5, [(.bool (proveT (treeF l n) k).empty), (.slice a31 ((proveT (treeF l n) k).steps).length cap32), (.slice ka21 (proveT (treeF l n) k).pair.1.length kc22), (.slice va23 (proveT (treeF l n) k).pair.2.length vc24)], 49⟩, ⟨n2, [(.bool false), (.slice none 0 0), (.slice none 0 0), (.slice none 0 0)], 49⟩] [] := S68
 have hv70 : Stps _ (.slice a63 ((proveT (rootsF l) n).steps).length cap64) ((proveT (rootsF l) n).steps) := hv70
 refine do_ rfl (.tuple #[(.agg #[(.bool (proveT (rootsF l) n).empty), (.slice a63 ((proveT (rootsF l) n).steps).length cap64), (.slice ka53 (proveT (rootsF l) n).pair.1.length kc54), (.slice va55 (proveT (rootsF l) n).pair.2.length vc56)]), (.int .i64 0)]) (ex_move _) ?_
 simp only [pS, pN, pA, pC, pZ]
 refine do_ rfl (.agg #[(.bool (proveT (rootsF l) n).empty), (.slice a63 ((proveT (rootsF l) n).steps).length cap64), (.slice ka53 (proveT (rootsF l) n).pair.1.length kc54), (.slice va55 (proveT (rootsF l) n).pair.2.length vc56)]) (ex_extract rfl rfl) ?_
 simp only [pS, pN, pA, pC, pZ]
 refine do_ rfl (.int .i64 0) (ex_extract rfl rfl) ?_
 simp only [pS, pN, pA, pC, pZ]
 refine stStore (i := 1) (v := (.agg #[(.bool (proveT (rootsF l) n).empty), (.slice a63 ((proveT (rootsF l) n).steps).length cap64), (.slice ka53 (proveT (rootsF l) n).pair.1.length kc54), (.slice va55 (proveT (rootsF l) n).pair.2.length vc56)])) S68 rfl rfl rfl rfl (size_49) (allc4 rfl rfl rfl rfl) (Nat.le_of_ble_eq_true rfl) (fun w71 S72 => ?_)
 simp only [pS, pN, pA, pC, pZ]
 have S72 : St w F w71 F67 [⟨n5, [(.bool (proveT (treeF l n) k).empty), (.slice a31 ((proveT (treeF l n) k).steps).length cap32), (.slice ka21 (proveT (treeF l n) k).pair.1.length kc22), (.slice va23 (proveT (treeF l n) k).pair.2.length vc24)], 49⟩, ⟨n2, [(.bool (proveT (rootsF l) n).empty), (.slice a63 ((proveT (rootsF l) n).steps).length cap64), (.slice ka53 (proveT (rootsF l) n).pair.1.length kc54), (.slice va55 (proveT (rootsF l) n).pair.2.length vc56)], 49⟩] [] := S72
 refine do_ rfl (.int .i64 0) (ex_assign _) ?_
 simp only [pS, pN, pA, pC, pZ]
 refine wl_nil (hK43 _ _ ?_)
 refine wp_seq_k (fun K73 hK73 => ?_)
 refine region_hl S72 (by kernel_rfl) (fun w75 S74 => ?_)
 refine hl_take 2 rfl (by kernel_rfl) (v := (.int .i64 0)) (fun _ _ _ h => h) S74.sat rfl (fun w76 hs77 => ex_move _) ?_
 simp only [pS, pN, pA, pC, pZ]
 refine hl_two 0 1 (by kernel_rfl) rfl rfl ?_ ?_
 ·refine do_ rfl (.agg #[(.bool (proveT (rootsF l) n).empty), (.slice a63 ((proveT (rootsF l) n).steps).length cap64), (.slice ka53 (proveT (rootsF l) n).pair.1.length kc54), (.slice va55 (proveT (rootsF l) n).pair.2.length vc56)]) (ex_load rfl (loadN (cs := [(.bool (proveT (rootsF l) n).empty), (.slice a63 ((proveT (rootsF l) n).steps).length cap64), (.slice ka53 (proveT (rootsF l) n).pair.1.length kc54), (.slice va55 (proveT (rootsF l) n).pair.2.length vc56)]) Tryd.underlying49 rfl (size_49) (St.range S74 (i := 1) rfl 0 [(.bool (proveT (rootsF l) n).empty), (.slice a63 ((proveT (rootsF l) n).steps).length cap64), (.slice ka53 (proveT (rootsF l) n).pair.1.length kc54), (.slice va55 (proveT (rootsF l) n).pair.2.length vc56)] (sub_range 0 rfl)))) ?_
  simp only [pS, pN, pA, pC, pZ]
  refine wl_nil (hl_back S74.sat ?_)
  refine hl_two 1 3 (by kernel_rfl) rfl rfl ?_ ?_
  ·refine do_ rfl (.agg #[(.bool (proveT (treeF l n) k).empty), (.slice a31 ((proveT (treeF l n) k).steps).length cap32), (.slice ka21 (proveT (treeF l n) k).pair.1.length kc22), (.slice va23 (proveT (treeF l n) k).pair.2.length vc24)]) (ex_load rfl (loadN (cs := [(.bool (proveT (treeF l n) k).empty), (.slice a31 ((proveT (treeF l n) k).steps).length cap32), (.slice ka21 (proveT (treeF l n) k).pair.1.length kc22), (.slice va23 (proveT (treeF l n) k).pair.2.length vc24)]) Tryd.underlying49 rfl (size_49) (St.range S74 (i := 0) rfl 0 [(.bool (proveT (treeF l n) k).empty), (.slice a31 ((proveT (treeF l n) k).steps).length cap32), (.slice ka21 (proveT (treeF l n) k).pair.1.length kc22), (.slice va23 (proveT (treeF l n) k).pair.2.length vc24)] (sub_range 0 rfl)))) ?_
   simp only [pS, pN, pA, pC, pZ]
   refine wl_nil (hl_back S74.sat ?_)
   refine hl_next 3 (by kernel_rfl) rfl ?_
   refine stStore (i := 1) (v := (.agg #[(.bool (proveT (rootsF l) n).empty), (.slice a63 ((proveT (rootsF l) n).steps).length cap64), (.slice ka53 (proveT (rootsF l) n).pair.1.length kc54), (.slice va55 (proveT (rootsF l) n).pair.2.length vc56)])) S74 rfl rfl rfl rfl (size_49) (allc4 rfl rfl rfl rfl) (Nat.le_of_ble_eq_true rfl) (fun w78 S79 => ?_)
   simp only [pS, pN, pA, pC, pZ]
   have S79 : St w F w78 F67 [⟨n5, [(.bool (proveT (treeF l n) k).empty), (.slice a31 ((proveT (treeF l n) k).steps).length cap32), (.slice ka21 (proveT (treeF l n) k).pair.1.length kc22), (.slice va23 (proveT (treeF l n) k).pair.2.length vc24)], 49⟩, ⟨n2, [(.bool (proveT (rootsF l) n).empty), (.slice a63 ((proveT (rootsF l) n).steps).length cap64), (.slice ka53 (proveT (rootsF l) n).pair.1.length kc54), (.slice va55 (proveT (rootsF l) n).pair.2.length vc56)], 49⟩] [] := S79
   refine wl_nil (hl_back S79.sat ?_)
   refine hl_next 4 (by kernel_rfl) rfl ?_
   refine stStore (i := 0) (v := (.agg #[(.bool (proveT (treeF l n) k).empty), (.slice a31 ((proveT (treeF l n) k).steps).length cap32), (.slice ka21 (proveT (treeF l n) k).pair.1.length kc22), (.slice va23 (proveT (treeF l n) k).pair.2.length vc24)])) S79 rfl rfl rfl rfl (size_49) (allc4 rfl rfl rfl rfl) (Nat.le_of_ble_eq_true rfl) (fun w80 S81 => ?_)
   simp only [pS, pN, pA, pC, pZ]
   have S81 : St w F w80 F67 [⟨n5, [(.bool (proveT (treeF l n) k).empty), (.slice a31 ((proveT (treeF l n) k).steps).length cap32), (.slice ka21 (proveT (treeF l n) k).pair.1.length kc22), (.slice va23 (proveT (treeF l n) k).pair.2.length vc24)], 49⟩, ⟨n2, [(.bool (proveT (rootsF l) n).empty), (.slice a63 ((proveT (rootsF l) n).steps).length cap64), (.slice ka53 (proveT (rootsF l) n).pair.1.length kc54), (.slice va55 (proveT (rootsF l) n).pair.2.length vc56)], 49⟩] [] := S81
   refine wl_nil (hl_back S81.sat ?_)
   refine hl_take 5 rfl (by kernel_rfl) (v := (.int .i64 0)) (fun _ _ _ h => h) S81.sat rfl (fun w82 hs83 => ex_assign _) ?_
   simp only [pS, pN, pA, pC, pZ]
   refine hl_done (by kernel_rfl) ?_
   refine hK73 _ _ ?_
   refine wp_ret ?_
   (try simp only [Exit.then, Exit.inBlock, ↓reduceIte, Nat.reduceEqDiff])
   refine bodyPost_ret (v := (.tuple #[(.agg #[(.bool (proveT (rootsF l) n).empty), (.slice a63 ((proveT (rootsF l) n).steps).length cap64), (.slice ka53 (proveT (rootsF l) n).pair.1.length kc54), (.slice va55 (proveT (rootsF l) n).pair.2.length vc56)]), (.agg #[(.bool (proveT (treeF l n) k).empty), (.slice a31 ((proveT (treeF l n) k).steps).length cap32), (.slice ka21 (proveT (treeF l n) k).pair.1.length kc22), (.slice va23 (proveT (treeF l n) k).pair.2.length vc24)]), (.int .i64 0)])) ?_ rfl ?_
   ·exact res_cct rfl ⟨_, rfl, loadN (cs := [(.bool (proveT (rootsF l) n).empty), (.slice a63 ((proveT (rootsF l) n).steps).length cap64), (.slice ka53 (proveT (rootsF l) n).pair.1.length kc54), (.slice va55 (proveT (rootsF l) n).pair.2.length vc56)]) Tryd.underlying49 rfl (size_49) (St.range S81 (i := 1) rfl 0 [(.bool (proveT (rootsF l) n).empty), (.slice a63 ((proveT (rootsF l) n).steps).length cap64), (.slice ka53 (proveT (rootsF l) n).pair.1.length kc54), (.slice va55 (proveT (rootsF l) n).pair.2.length vc56)] (sub_range 0 rfl))⟩ ⟨_, rfl, loadN (cs := [(.bool (proveT (treeF l n) k).empty), (.slice a31 ((proveT (treeF l n) k).steps).length cap32), (.slice ka21 (proveT (treeF l n) k).pair.1.length kc22), (.slice va23 (proveT (treeF l n) k).pair.2.length vc24)]) Tryd.underlying49 rfl (size_49) (St.range S81 (i := 0) rfl 0 [(.bool (proveT (treeF l n) k).empty), (.slice a31 ((proveT (treeF l n) k).steps).length cap32), (.slice ka21 (proveT (treeF l n) k).pair.1.length kc22), (.slice va23 (proveT (treeF l n) k).pair.2.length vc24)] (sub_range 0 rfl))⟩ rfl
   ·exact ⟨_, _, rfl, S81.gr, _, _, rfl, ⟨_, _, _, _, _, _, rfl, hv70, (r61.mono le69), (r62.mono le69)⟩, ⟨_, _, _, _, _, _, rfl, (hv38.mono ((le47.trans le60).trans le69)), (r29.mono (((le37.trans le47).trans le60).trans le69)), (r30.mono (((le37.trans le47).trans le60).trans le69))⟩⟩
  ·refine stStore (i := 1) (v := (.agg #[(.bool (proveT (rootsF l) n).empty), (.slice a63 ((proveT (rootsF l) n).steps).length cap64), (.slice ka53 (proveT (rootsF l) n).pair.1.length kc54), (.slice va55 (proveT (rootsF l) n).pair.2.length vc56)])) S74 rfl rfl rfl rfl (size_49) (allc4 rfl rfl rfl rfl) (Nat.le_of_ble_eq_true rfl) (fun w84 S85 => ?_)
   simp only [pS, pN, pA, pC, pZ]
   have S85 : St w F w84 F67 [⟨n5, [(.bool (proveT (treeF l n) k).empty), (.slice a31 ((proveT (treeF l n) k).steps).length cap32), (.slice ka21 (proveT (treeF l n) k).pair.1.length kc22), (.slice va23 (proveT (treeF l n) k).pair.2.length vc24)], 49⟩, ⟨n2, [(.bool (proveT (rootsF l) n).empty), (.slice a63 ((proveT (rootsF l) n).steps).length cap64), (.slice ka53 (proveT (rootsF l) n).pair.1.length kc54), (.slice va55 (proveT (rootsF l) n).pair.2.length vc56)], 49⟩] [] := S85
   refine wl_nil (hl_back S85.sat ?_)
   refine hl_next 1 (by kernel_rfl) rfl ?_
   refine do_ rfl (.agg #[(.bool (proveT (treeF l n) k).empty), (.slice a31 ((proveT (treeF l n) k).steps).length cap32), (.slice ka21 (proveT (treeF l n) k).pair.1.length kc22), (.slice va23 (proveT (treeF l n) k).pair.2.length vc24)]) (ex_load rfl (loadN (cs := [(.bool (proveT (treeF l n) k).empty), (.slice a31 ((proveT (treeF l n) k).steps).length cap32), (.slice ka21 (proveT (treeF l n) k).pair.1.length kc22), (.slice va23 (proveT (treeF l n) k).pair.2.length vc24)]) Tryd.underlying49 rfl (size_49) (St.range S85 (i := 0) rfl 0 [(.bool (proveT (treeF l n) k).empty), (.slice a31 ((proveT (treeF l n) k).steps).length cap32), (.slice ka21 (proveT (treeF l n) k).pair.1.length kc22), (.slice va23 (proveT (treeF l n) k).pair.2.length vc24)] (sub_range 0 rfl)))) ?_
   simp only [pS, pN, pA, pC, pZ]
   refine wl_nil (hl_back S85.sat ?_)
   refine hl_next 4 (by kernel_rfl) rfl ?_
   refine stStore (i := 0) (v := (.agg #[(.bool (proveT (treeF l n) k).empty), (.slice a31 ((proveT (treeF l n) k).steps).length cap32), (.slice ka21 (proveT (treeF l n) k).pair.1.length kc22), (.slice va23 (proveT (treeF l n) k).pair.2.length vc24)])) S85 rfl rfl rfl rfl (size_49) (allc4 rfl rfl rfl rfl) (Nat.le_of_ble_eq_true rfl) (fun w86 S87 => ?_)
   simp only [pS, pN, pA, pC, pZ]
   have S87 : St w F w86 F67 [⟨n5, [(.bool (proveT (treeF l n) k).empty), (.slice a31 ((proveT (treeF l n) k).steps).length cap32), (.slice ka21 (proveT (treeF l n) k).pair.1.length kc22), (.slice va23 (proveT (treeF l n) k).pair.2.length vc24)], 49⟩, ⟨n2, [(.bool (proveT (rootsF l) n).empty), (.slice a63 ((proveT (rootsF l) n).steps).length cap64), (.slice ka53 (proveT (rootsF l) n).pair.1.length kc54), (.slice va55 (proveT (rootsF l) n).pair.2.length vc56)], 49⟩] [] := S87
   refine wl_nil (hl_back S87.sat ?_)
   refine hl_take 5 rfl (by kernel_rfl) (v := (.int .i64 0)) (fun _ _ _ h => h) S87.sat rfl (fun w88 hs89 => ex_assign _) ?_
   simp only [pS, pN, pA, pC, pZ]
   refine hl_done (by kernel_rfl) ?_
   refine hK73 _ _ ?_
   refine wp_ret ?_
   (try simp only [Exit.then, Exit.inBlock, ↓reduceIte, Nat.reduceEqDiff])
   refine bodyPost_ret (v := (.tuple #[(.agg #[(.bool (proveT (rootsF l) n).empty), (.slice a63 ((proveT (rootsF l) n).steps).length cap64), (.slice ka53 (proveT (rootsF l) n).pair.1.length kc54), (.slice va55 (proveT (rootsF l) n).pair.2.length vc56)]), (.agg #[(.bool (proveT (treeF l n) k).empty), (.slice a31 ((proveT (treeF l n) k).steps).length cap32), (.slice ka21 (proveT (treeF l n) k).pair.1.length kc22), (.slice va23 (proveT (treeF l n) k).pair.2.length vc24)]), (.int .i64 0)])) ?_ rfl ?_
   ·exact res_cct rfl ⟨_, rfl, loadN (cs := [(.bool (proveT (rootsF l) n).empty), (.slice a63 ((proveT (rootsF l) n).steps).length cap64), (.slice ka53 (proveT (rootsF l) n).pair.1.length kc54), (.slice va55 (proveT (rootsF l) n).pair.2.length vc56)]) Tryd.underlying49 rfl (size_49) (St.range S87 (i := 1) rfl 0 [(.bool (proveT (rootsF l) n).empty), (.slice a63 ((proveT (rootsF l) n).steps).length cap64), (.slice ka53 (proveT (rootsF l) n).pair.1.length kc54), (.slice va55 (proveT (rootsF l) n).pair.2.length vc56)] (sub_range 0 rfl))⟩ ⟨_, rfl, loadN (cs := [(.bool (proveT (treeF l n) k).empty), (.slice a31 ((proveT (treeF l n) k).steps).length cap32), (.slice ka21 (proveT (treeF l n) k).pair.1.length kc22), (.slice va23 (proveT (treeF l n) k).pair.2.length vc24)]) Tryd.underlying49 rfl (size_49) (St.range S87 (i := 0) rfl 0 [(.bool (proveT (treeF l n) k).empty), (.slice a31 ((proveT (treeF l n) k).steps).length cap32), (.slice ka21 (proveT (treeF l n) k).pair.1.length kc22), (.slice va23 (proveT (treeF l n) k).pair.2.length vc24)] (sub_range 0 rfl))⟩ rfl
   ·exact ⟨_, _, rfl, S87.gr, _, _, rfl, ⟨_, _, _, _, _, _, rfl, hv70, (r61.mono le69), (r62.mono le69)⟩, ⟨_, _, _, _, _, _, rfl, (hv38.mono ((le47.trans le60).trans le69)), (r29.mono (((le37.trans le47).trans le60).trans le69)), (r30.mono (((le37.trans le47).trans le60).trans le69))⟩⟩
 ·refine do_ rfl (.agg #[(.bool (proveT (treeF l n) k).empty), (.slice a31 ((proveT (treeF l n) k).steps).length cap32), (.slice ka21 (proveT (treeF l n) k).pair.1.length kc22), (.slice va23 (proveT (treeF l n) k).pair.2.length vc24)]) (ex_load rfl (loadN (cs := [(.bool (proveT (treeF l n) k).empty), (.slice a31 ((proveT (treeF l n) k).steps).length cap32), (.slice ka21 (proveT (treeF l n) k).pair.1.length kc22), (.slice va23 (proveT (treeF l n) k).pair.2.length vc24)]) Tryd.underlying49 rfl (size_49) (St.range S74 (i := 0) rfl 0 [(.bool (proveT (treeF l n) k).empty), (.slice a31 ((proveT (treeF l n) k).steps).length cap32), (.slice ka21 (proveT (treeF l n) k).pair.1.length kc22), (.slice va23 (proveT (treeF l n) k).pair.2.length vc24)] (sub_range 0 rfl)))) ?_
  simp only [pS, pN, pA, pC, pZ]
  refine wl_nil (hl_back S74.sat ?_)
  refine hl_next 0 (by kernel_rfl) rfl ?_
  refine do_ rfl (.agg #[(.bool (proveT (rootsF l) n).empty), (.slice a63 ((proveT (rootsF l) n).steps).length cap64), (.slice ka53 (proveT (rootsF l) n).pair.1.length kc54), (.slice va55 (proveT (rootsF l) n).pair.2.length vc56)]) (ex_load rfl (loadN (cs := [(.bool (proveT (rootsF l) n).empty), (.slice a63 ((proveT (rootsF l) n).steps).length cap64), (.slice ka53 (proveT (rootsF l) n).pair.1.length kc54), (.slice va55 (proveT (rootsF l) n).pair.2.length vc56)]) Tryd.underlying49 rfl (size_49) (St.range S74 (i := 1) rfl 0 [(.bool (proveT (rootsF l) n).empty), (.slice a63 ((proveT (rootsF l) n).steps).length cap64), (.slice ka53 (proveT (rootsF l) n).pair.1.length kc54), (.slice va55 (proveT (rootsF l) n).pair.2.length vc56)] (sub_range 0 rfl)))) ?_
  simp only [pS, pN, pA, pC, pZ]
  refine wl_nil (hl_back S74.sat ?_)
  refine hl_next 3 (by kernel_rfl) rfl ?_
  refine stStore (i := 1) (v := (.agg #[(.bool (proveT (rootsF l) n).empty), (.slice a63 ((proveT (rootsF l) n).steps).length cap64), (.slice ka53 (proveT (rootsF l) n).pair.1.length kc54), (.slice va55 (proveT (rootsF l) n).pair.2.length vc56)])) S74 rfl rfl rfl rfl (size_49) (allc4 rfl rfl rfl rfl) (Nat.le_of_ble_eq_true rfl) (fun w90 S91 => ?_)
  simp only [pS, pN, pA, pC, pZ]
  have S91 : St w F w90 F67 [⟨n5, [(.bool (proveT (treeF l n) k).empty), (.slice a31 ((proveT (treeF l n) k).steps).length cap32), (.slice ka21 (proveT (treeF l n) k).pair.1.length kc22), (.slice va23 (proveT (treeF l n) k).pair.2.length vc24)], 49⟩, ⟨n2, [(.bool (proveT (rootsF l) n).empty), (.slice a63 ((proveT (rootsF l) n).steps).length cap64), (.slice ka53 (proveT (rootsF l) n).pair.1.length kc54), (.slice va55 (proveT (rootsF l) n).pair.2.length vc56)], 49⟩] [] := S91
  refine wl_nil (hl_back S91.sat ?_)
  refine hl_next 4 (by kernel_rfl) rfl ?_
  refine stStore (i := 0) (v := (.agg #[(.bool (proveT (treeF l n) k).empty), (.slice a31 ((proveT (treeF l n) k).steps).length cap32), (.slice ka21 (proveT (treeF l n) k).pair.1.length kc22), (.slice va23 (proveT (treeF l n) k).pair.2.length vc24)])) S91 rfl rfl rfl rfl (size_49) (allc4 rfl rfl rfl rfl) (Nat.le_of_ble_eq_true rfl) (fun w92 S93 => ?_)
  simp only [pS, pN, pA, pC, pZ]
  have S93 : St w F w92 F67 [⟨n5, [(.bool (proveT (treeF l n) k).empty), (.slice a31 ((proveT (treeF l n) k).steps).length cap32), (.slice ka21 (proveT (treeF l n) k).pair.1.length kc22), (.slice va23 (proveT (treeF l n) k).pair.2.length vc24)], 49⟩, ⟨n2, [(.bool (proveT (rootsF l) n).empty), (.slice a63 ((proveT (rootsF l) n).steps).length cap64), (.slice ka53 (proveT (rootsF l) n).pair.1.length kc54), (.slice va55 (proveT (rootsF l) n).pair.2.length vc56)], 49⟩] [] := S93
  refine wl_nil (hl_back S93.sat ?_)
  refine hl_take 5 rfl (by kernel_rfl) (v := (.int .i64 0)) (fun _ _ _ h => h) S93.sat rfl (fun w94 hs95 => ex_assign _) ?_
  simp only [pS, pN, pA, pC, pZ]
  refine hl_done (by kernel_rfl) ?_
  refine hK73 _ _ ?_
  refine wp_ret ?_
  (try simp only [Exit.then, Exit.inBlock, ↓reduceIte, Nat.reduceEqDiff])
  refine bodyPost_ret (v := (.tuple #[(.agg #[(.bool (proveT (rootsF l) n).empty), (.slice a63 ((proveT (rootsF l) n).steps).length cap64), (.slice ka53 (proveT (rootsF l) n).pair.1.length kc54), (.slice va55 (proveT (rootsF l) n).pair.2.length vc56)]), (.agg #[(.bool (proveT (treeF l n) k).empty), (.slice a31 ((proveT (treeF l n) k).steps).length cap32), (.slice ka21 (proveT (treeF l n) k).pair.1.length kc22), (.slice va23 (proveT (treeF l n) k).pair.2.length vc24)]), (.int .i64 0)])) ?_ rfl ?_
  ·exact res_cct rfl ⟨_, rfl, loadN (cs := [(.bool (proveT (rootsF l) n).empty), (.slice a63 ((proveT (rootsF l) n).steps).length cap64), (.slice ka53 (proveT (rootsF l) n).pair.1.length kc54), (.slice va55 (proveT (rootsF l) n).pair.2.length vc56)]) Tryd.underlying49 rfl (size_49) (St.range S93 (i := 1) rfl 0 [(.bool (proveT (rootsF l) n).empty), (.slice a63 ((proveT (rootsF l) n).steps).length cap64), (.slice ka53 (proveT (rootsF l) n).pair.1.length kc54), (.slice va55 (proveT (rootsF l) n).pair.2.length vc56)] (sub_range 0 rfl))⟩ ⟨_, rfl, loadN (cs := [(.bool (proveT (treeF l n) k).empty), (.slice a31 ((proveT (treeF l n) k).steps).length cap32), (.slice ka21 (proveT (treeF l n) k).pair.1.length kc22), (.slice va23 (proveT (treeF l n) k).pair.2.length vc24)]) Tryd.underlying49 rfl (size_49) (St.range S93 (i := 0) rfl 0 [(.bool (proveT (treeF l n) k).empty), (.slice a31 ((proveT (treeF l n) k).steps).length cap32), (.slice ka21 (proveT (treeF l n) k).pair.1.length kc22), (.slice va23 (proveT (treeF l n) k).pair.2.length vc24)] (sub_range 0 rfl))⟩ rfl
  ·exact ⟨_, _, rfl, S93.gr, _, _, rfl, ⟨_, _, _, _, _, _, rfl, hv70, (r61.mono le69), (r62.mono le69)⟩, ⟨_, _, _, _, _, _, rfl, (hv38.mono ((le47.trans le60).trans le69)), (r29.mono (((le37.trans le47).trans le60).trans le69)), (r30.mono (((le37.trans le47).trans le60).trans le69))⟩⟩
theorem nameZero_spec {w : World} {a : Option Addr} {n : By} {c : Nat} (hn0 : nameN n.length = 0) : Calls Tryd.prog 51 #[.slice a n.length c] w (Tells w (.int .i64 0)) := by
  have := tells_same (name_len w a n.length c)
  rwa [hn0] at this
set_option maxHeartbeats 8000000 in
theorem forestVerifySome_spec (F : Fz) (w : World) (z v u y1 y2 : Value) (r n k x : By) (p q : Prf) (hs : Sat w F) (hT : Tabs w) (hr : Bs F z r) (hn : Bs F v n) (hk : Bs F u k) (hv1 : PrfV F y1 p) (hv2 : PrfV F y2 q) (hr32 : r.length = 32) (hnn : 1 ≤ n.length ∧ n.length ≤ 8) (hkk : 1 ≤ k.length ∧ k.length ≤ 16)
    (okp : PrfOk p) (hcp : checkP n p = true) (hup : upT p = r) (okq : PrfOk q) (hcq : checkP k q = true) (ho : tellP n p = some x) (hx32 : x.length = 32) (huq : upT q = x) :
    Calls Tryd.prog 22 #[z, v, u, y1, y2] w (Gives w F (GetR (tellP k q) 0)) := by
 have hn0 := nameN_ok hnn.1 hnn.2
 obtain ⟨ra, rc, rfl, _⟩ := hr.shape
 obtain ⟨a2, c2, rfl, _⟩ := hn.shape
 obtain ⟨a3, c3, rfl, _⟩ := hk.shape
 obtain ⟨sp, tp, up, vp, xp, yp, rfl, h1, h2, h3⟩ := hv1
 obtain ⟨sq, tq, uq, vq, xq, yq, rfl, h4, h5, h6⟩ := hv2
 have S := St.start hs
 go_enter Tryd.func22, Tryd.ntmps22
 refine wp_seq_k (fun K1 hK1 => region_wl ?_)
 refine stNew S (v := fun n => .pointer (some ⟨n, 0, none⟩)) rfl (ex_box (v := (.agg #[(.bool p.empty), (.slice sp p.steps.length tp), (.slice up p.pair.1.length vp), (.slice xp p.pair.2.length yp)])) rfl) (fun n2 w3 S4 => ?_)
 simp only [pS, pN, pA, pC, pZ]
 have S4 : St w F w3 F [⟨n2, [(.bool p.empty), (.slice sp p.steps.length tp), (.slice up p.pair.1.length vp), (.slice xp p.pair.2.length yp)], 49⟩] [] := S4
 refine stNew S4 (v := fun n => .pointer (some ⟨n, 0, none⟩)) rfl (ex_box (v := (.agg #[(.bool q.empty), (.slice sq q.steps.length tq), (.slice uq q.pair.1.length vq), (.slice xq q.pair.2.length yq)])) rfl) (fun n5 w6 S7 => ?_)
 simp only [pS, pN, pA, pC, pZ]
 have S7 : St w F w6 F [⟨n5, [(.bool q.empty), (.slice sq q.steps.length tq), (.slice uq q.pair.1.length vq), (.slice xq q.pair.2.length yq)], 49⟩, ⟨n2, [(.bool p.empty), (.slice sp p.steps.length tp), (.slice up p.pair.1.length vp), (.slice xp p.pair.2.length yp)], 49⟩] [] := S7
 refine stNew S7 (v := fun n => .pointer (some ⟨n, 0, none⟩)) rfl (ex_alloc (zero_53 _)) (fun n8 w9 S10 => ?_)
 simp only [pS, pN, pA, pC, pZ]
 have S10 : St w F w9 F [⟨n8, [(.bool false), (.slice none 0 0)], 53⟩, ⟨n5, [(.bool q.empty), (.slice sq q.steps.length tq), (.slice uq q.pair.1.length vq), (.slice xq q.pair.2.length yq)], 49⟩, ⟨n2, [(.bool p.empty), (.slice sp p.steps.length tp), (.slice up p.pair.1.length vp), (.slice xp p.pair.2.length yp)], 49⟩] [] := S10
 refine do_ rfl (.int .i64 0) (ex_assign _) ?_
 simp only [pS, pN, pA, pC, pZ]
 refine wl_nil (hK1 _ _ ?_)
 refine wp_seq_k (fun K11 hK11 => ?_)
 refine wp_seq_k (fun K12 hK12 => region_wl ?_)
 refine do_ rfl (.slice a2 n.length c2) (ex_move _) ?_
 simp only [pS, pN, pA, pC, pZ]
 refine stTells (v := (.int .i64 0)) S10 rfl (ex_fn (vs := #[(.slice a2 n.length c2)]) (map1 rfl) rfl (ent_51 _ _)) (nameZero_spec hn0) (fun w13 S14 => ?_)
 simp only [pS, pN, pA, pC, pZ]
 refine do_ rfl (.int .i64 0) (ex_assign _) ?_
 simp only [pS, pN, pA, pC, pZ]
 refine wl_nil (hK12 _ _ ?_)
 refine wp_seq_k (fun K15 hK15 => region_wl ?_)
 refine do_ rfl (.int .i64 0) (ex_move _) ?_
 simp only [pS, pN, pA, pC, pZ]
 refine do_ rfl (.bool false) (ex_neq (b := false) rfl rfl (by decide)) ?_
 simp only [pS, pN, pA, pC, pZ]
 refine wl_nil (hK15 _ _ ?_)
 refine wp_cond_false rfl ?_
 refine wp_skip ?_
 refine hK11 _ _ ?_
 refine wp_seq_k (fun K16 hK16 => region_wl ?_)
 refine do_ rfl (.slice ra r.length rc) (ex_move _) ?_
 simp only [pS, pN, pA, pC, pZ]
 refine do_ rfl (.slice a2 n.length c2) (ex_move _) ?_
 simp only [pS, pN, pA, pC, pZ]
 refine do_ rfl (.agg #[(.bool p.empty), (.slice sp p.steps.length tp), (.slice up p.pair.1.length vp), (.slice xp p.pair.2.length yp)]) (ex_load rfl (loadN (cs := [(.bool p.empty), (.slice sp p.steps.length tp), (.slice up p.pair.1.length vp), (.slice xp p.pair.2.length yp)]) Tryd.underlying49 rfl (size_49) (St.range S14 (i := 2) rfl 0 [(.bool p.empty), (.slice sp p.steps.length tp), (.slice up p.pair.1.length vp), (.slice xp p.pair.2.length yp)] (sub_range 0 rfl)))) ?_
 simp only [pS, pN, pA, pC, pZ]
 refine stGives S14 rfl (ex_fn (vs := #[(.slice ra r.length rc), (.slice a2 n.length c2), (.agg #[(.bool p.empty), (.slice sp p.steps.length tp), (.slice up p.pair.1.length vp), (.slice xp p.pair.2.length yp)])]) (map3 rfl rfl rfl) rfl (ent_52 _ _)) (verifyIs_spec _ _ _ _ _ r n p (o := some x) (S14).sat (hT.at S14.gr.below) hr hn ⟨_, _, _, _, _, _, rfl, h1, h2, h3⟩ hr32 ⟨hnn.1, by omega⟩ okp hcp hup ho) ?_
 intro v22 w17 F19 S18 le20 R21
 obtain ⟨_, rfl, R21⟩ := R21
 obtain ⟨a23, c24, rfl, r25⟩ := R21
 have r25 : Bs _ (.slice a23 x.length c24) x := r25
 simp only [pS, pN, pA, pC, pZ]
 refine do_ rfl (.tuple #[(.agg #[(.bool true), (.slice a23 x.length c24)]), (.int .i64 0)]) (ex_move _) ?_
 simp only [pS, pN, pA, pC, pZ]
 refine do_ rfl (.agg #[(.bool true), (.slice a23 x.length c24)]) (ex_extract rfl rfl) ?_
 simp only [pS, pN, pA, pC, pZ]
 refine do_ rfl (.int .i64 0) (ex_extract rfl rfl) ?_
 simp only [pS, pN, pA, pC, pZ]
 refine stNew S18 (v := fun n => .pointer (some ⟨n, 0, none⟩)) rfl (ex_alloc (zero_53 _)) (fun n26 w27 S28 => ?_)
 simp only [pS, pN, pA, pC, pZ]
 have S28 : St w F w27 F19 [⟨n26, [(.bool false), (.slice none 0 0)], 53⟩, ⟨n8, [(.bool false), (.slice none 0 0)], 53⟩, ⟨n5, [(.bool q.empty), (.slice sq q.steps.length tq), (.slice uq q.pair.1.length vq), (.slice xq q.pair.2.length yq)], 49⟩, ⟨n2, [(.bool p.empty), (.slice sp p.steps.length tp), (.slice up p.pair.1.length vp), (.slice xp p.pair.2.length yp)], 49⟩] [] := S28
 refine stStore (i := 0) (v := (.agg #[(.bool true), (.slice a23 x.length c24)])) S28 rfl rfl rfl rfl (size_53) (allc2 rfl rfl) (Nat.le_of_ble_eq_true rfl) (fun w29 S30 => ?_)
 simp only [pS, pN, pA, pC, pZ]
 have S30 : St w F w29 F19 [⟨n26, [(.bool true), (.slice a23 x.length c24)], 53⟩, ⟨n8, [(.bool false), (.slice none 0 0)], 53⟩, ⟨n5, [(.bool q.empty), (.slice sq q.steps.length tq), (.slice uq q.pair.1.length vq), (.slice xq q.pair.2.length yq)], 49⟩, ⟨n2, [(.bool p.empty), (.slice sp p.steps.length tp), (.slice up p.pair.1.length vp), (.slice xp p.pair.2.length yp)], 49⟩] [] := S30
 refine do_ rfl (.int .i64 0) (ex_assign _) ?_
 simp only [pS, pN, pA, pC, pZ]
 refine wl_nil (hK16 _ _ ?_)
 refine wp_seq_k (fun K31 hK31 => ?_)
 refine wp_seq_k (fun K32 hK32 => region_wl ?_)
 refine do_ rfl (.int .i64 0) (ex_move _) ?_
 simp only [pS, pN, pA, pC, pZ]
 refine do_ rfl (.bool false) (ex_neq (b := false) rfl rfl (by decide)) ?_
 simp only [pS, pN, pA, pC, pZ]
 refine wl_nil (hK32 _ _ ?_)
 refine wp_cond_false rfl ?_
 refine wp_skip ?_
 refine hK31 _ _ ?_
 refine wp_seq_k (fun K33 hK33 => ?_)
 refine wp_seq_k (fun K34 hK34 => region_wl ?_)
 refine do_ rfl (.pointer (some ⟨n26, 0, none⟩)) (ex_field (q := ⟨n26, 0, none⟩) rfl (fa_53_0 _ _)) ?_
 simp only [pS, pN, pA, pC, pZ]
 refine do_ rfl (.bool true) (ex_load rfl (load1 (nagg_4 _) (St.cell S30 (i := 0) rfl rfl))) ?_
 simp only [pS, pN, pA, pC, pZ]
 refine do_ rfl (.bool false) (ex_not (b := true) rfl rfl) ?_
 simp only [pS, pN, pA, pC, pZ]
 refine wl_nil (hK34 _ _ ?_)
 refine wp_cond_false rfl ?_
 refine wp_skip ?_
 refine hK33 _ _ ?_
 refine wp_seq_k (fun K35 hK35 => region_wl ?_)
 refine do_ rfl (.pointer (some ⟨n26, 1, none⟩)) (ex_field (q := ⟨n26, 1, none⟩) rfl (fa_53_1 _ _)) ?_
 simp only [pS, pN, pA, pC, pZ]
 refine do_ rfl (.slice a23 x.length c24) (ex_load rfl (load1 (nagg_23 _) (St.cell S30 (i := 0) rfl rfl))) ?_
 simp only [pS, pN, pA, pC, pZ]
 refine do_ rfl (.slice a3 k.length c3) (ex_move _) ?_
 simp only [pS, pN, pA, pC, pZ]
 refine do_ rfl (.agg #[(.bool q.empty), (.slice sq q.steps.length tq), (.slice uq q.pair.1.length vq), (.slice xq q.pair.2.length yq)]) (ex_load rfl (loadN (cs := [(.bool q.empty), (.slice sq q.steps.length tq), (.slice uq q.pair.1.length vq), (.slice xq q.pair.2.length yq)]) Tryd.underlying49 rfl (size_49) (St.range S30 (i := 2) rfl 0 [(.bool q.empty), (.slice sq q.steps.length tq), (.slice uq q.pair.1.length vq), (.slice xq q.pair.2.length yq)] (sub_range 0 rfl)))) ?_
 simp only [pS, pN, pA, pC, pZ]
 refine stGives S30 rfl (ex_fn (vs := #[(.slice a23 x.length c24), (.slice a3 k.length c3), (.agg #[(.bool q.empty), (.slice sq q.steps.length tq), (.slice uq q.pair.1.length vq), (.slice xq q.pair.2.length yq)])]) (map3 rfl rfl rfl) rfl (ent_52 _ _)) (verifyIs_spec _ _ _ _ _ x k q (o := tellP k q) (S30).sat (hT.at S30.gr.below) r25 (hk.mono le20) ⟨_, _, _, _, _, _, rfl, (h4.mono le20), (h5.mono le20), (h6.mono le20)⟩ hx32 hkk okq hcq huq rfl) ?_
 intro v41 w36 F38 S37 le39 R40
 obtain ⟨x42, rfl, R40⟩ := R40
 obtain ⟨a43, c44, rfl, r45⟩ := R40
 simp only [pS, pN, pA, pC, pZ]
 refine do_ rfl (.agg #[(.bool (tellP k q).isSome), (.slice a43 ((tellP k q).getD []).length c44)]) (ex_extract rfl rfl) ?_
 simp only [pS, pN, pA, pC, pZ]
 refine do_ rfl (.int .i64 0) (ex_extract rfl rfl) ?_
 simp only [pS, pN, pA, pC, pZ]
 refine stStore (i := 1) (v := (.agg #[(.bool (tellP k q).isSome), (.slice a43 ((tellP k q).getD []).length c44)])) S37 rfl rfl rfl rfl (size_53) (allc2 rfl rfl) (Nat.le_of_ble_eq_true rfl) (fun w46 S47 => ?_)
 simp only [pS, pN, pA, pC, pZ]
 have S47 : St w F w46 F38 [⟨n26, [(.bool true), (.slice a23 x.length c24)], 53⟩, ⟨n8, [(.bool (tellP k q).isSome), (.slice a43 ((tellP k q).getD []).length c44)], 53⟩, ⟨n5, [(.bool q.empty), (.slice sq q.steps.length tq), (.slice uq q.pair.1.length vq), (.slice xq q.pair.2.length yq)], 49⟩, ⟨n2, [(.bool p.empty), (.slice sp p.steps.length tp), (.slice up p.pair.1.length vp), (.slice xp p.pair.2.length yp)], 49⟩] [] := S47
 refine do_ rfl (.int .i64 0) (ex_assign _) ?_
 simp only [pS, pN, pA, pC, pZ]
 refine wl_nil (hK35 _ _ ?_)
 refine wp_ret ?_
 (try simp only [Exit.then, Exit.inBlock, ↓reduceIte, Nat.reduceEqDiff])
 refine bodyPost_ret (v := (.tuple #[(.agg #[(.bool (tellP k q).isSome), (.slice a43 ((tellP k q).getD []).length c44)]), (.int .i64 0)])) ?_ rfl ?_
 ·exact res_ct rfl ⟨_, rfl, loadN (cs := [(.bool (tellP k q).isSome), (.slice a43 ((tellP k q).getD []).length c44)]) Tryd.underlying53 rfl (size_53) (St.range S47 (i := 1) rfl 0 [(.bool (tellP k q).isSome), (.slice a43 ((tellP k q).getD []).length c44)] (sub_range 0 rfl))⟩ rfl
 ·exact ⟨_, _, rfl, S47.gr, _, rfl, _, _, rfl, r45⟩
set_option maxHeartbeats 8000000 in
theorem forestVerifyNone_spec (F : Fz) (w : World) (z v u y1 y2 : Value) (r n k : By) (p q : Prf) (hs : Sat w F) (hT : Tabs w) (hr : Bs F z r) (hn : Bs F v n) (hk : Bs F u k) (hv1 : PrfV F y1 p) (hv2 : PrfV F y2 q) (hr32 : r.length = 32) (hnn : 1 ≤ n.length ∧ n.length ≤ 8) (hkk : 1 ≤ k.length ∧ k.length ≤ 16)
    (okp : PrfOk p) (hcp : checkP n p = true) (hup : upT p = r) (okq : PrfOk q) (hcq : checkP k q = true) (ho : tellP n p = none) (huq : upT q = rootT []) :
    Calls Tryd.prog 22 #[z, v, u, y1, y2] w (Gives w F (GetR (tellP k q) 0)) := by
 have hn0 := nameN_ok hnn.1 hnn.2
 obtain ⟨ra, rc, rfl, _⟩ := hr.shape
 obtain ⟨a2, c2, rfl, _⟩ := hn.shape
 obtain ⟨a3, c3, rfl, _⟩ := hk.shape
 obtain ⟨sp, tp, up, vp, xp, yp, rfl, h1, h2, h3⟩ := hv1
 obtain ⟨sq, tq, uq, vq, xq, yq, rfl, h4, h5, h6⟩ := hv2
 have S := St.start hs
 go_enter Tryd.func22, Tryd.ntmps22
 refine wp_seq_k (fun K1 hK1 => region_wl ?_)
 refine stNew S (v := fun n => .pointer (some ⟨n, 0, none⟩)) rfl (ex_box (v := (.agg #[(.bool p.empty), (.slice sp p.steps.length tp), (.slice up p.pair.1.length vp), (.slice xp p.pair.2.length yp)])) rfl) (fun n2 w3 S4 => ?_)
 simp only [pS, pN, pA, pC, pZ]
 have S4 : St w F w3 F [⟨n2, [(.bool p.empty), (.slice sp p.steps.length tp), (.slice up p.pair.1.length vp), (.slice xp p.pair.2.length yp)], 49⟩] [] := S4
 refine stNew S4 (v := fun n => .pointer (some ⟨n, 0, none⟩)) rfl (ex_box (v := (.agg #[(.bool q.empty), (.slice sq q.steps.length tq), (.slice uq q.pair.1.length vq), (.slice xq q.pair.2.length yq)])) rfl) (fun n5 w6 S7 => ?_)
 simp only [pS, pN, pA, pC, pZ]
 have S7 : St w F w6 F [⟨n5, [(.bool q.empty), (.slice sq q.steps.length tq), (.slice uq q.pair.1.length vq), (.slice xq q.pair.2.length yq)], 49⟩, ⟨n2, [(.bool p.empty), (.slice sp p.steps.length tp), (.slice up p.pair.1.length vp), (.slice xp p.pair.2.length yp)], 49⟩] [] := S7
 refine stNew S7 (v := fun n => .pointer (some ⟨n, 0, none⟩)) rfl (ex_alloc (zero_53 _)) (fun n8 w9 S10 => ?_)
 simp only [pS, pN, pA, pC, pZ]
 have S10 : St w F w9 F [⟨n8, [(.bool false), (.slice none 0 0)], 53⟩, ⟨n5, [(.bool q.empty), (.slice sq q.steps.length tq), (.slice uq q.pair.1.length vq), (.slice xq q.pair.2.length yq)], 49⟩, ⟨n2, [(.bool p.empty), (.slice sp p.steps.length tp), (.slice up p.pair.1.length vp), (.slice xp p.pair.2.length yp)], 49⟩] [] := S10
 refine do_ rfl (.int .i64 0) (ex_assign _) ?_
 simp only [pS, pN, pA, pC, pZ]
 refine wl_nil (hK1 _ _ ?_)
 refine wp_seq_k (fun K11 hK11 => ?_)
 refine wp_seq_k (fun K12 hK12 => region_wl ?_)
 refine do_ rfl (.slice a2 n.length c2) (ex_move _) ?_
 simp only [pS, pN, pA, pC, pZ]
 refine stTells (v := (.int .i64 0)) S10 rfl (ex_fn (vs := #[(.slice a2 n.length c2)]) (map1 rfl) rfl (ent_51 _ _)) (nameZero_spec hn0) (fun w13 S14 => ?_)
 simp only [pS, pN, pA, pC, pZ]
 refine do_ rfl (.int .i64 0) (ex_assign _) ?_
 simp only [pS, pN, pA, pC, pZ]
 refine wl_nil (hK12 _ _ ?_)
 refine wp_seq_k (fun K15 hK15 => region_wl ?_)
 refine do_ rfl (.int .i64 0) (ex_move _) ?_
 simp only [pS, pN, pA, pC, pZ]
 refine do_ rfl (.bool false) (ex_neq (b := false) rfl rfl (by decide)) ?_
 simp only [pS, pN, pA, pC, pZ]
 refine wl_nil (hK15 _ _ ?_)
 refine wp_cond_false rfl ?_
 refine wp_skip ?_
 refine hK11 _ _ ?_
 refine wp_seq_k (fun K16 hK16 => region_wl ?_)
 refine do_ rfl (.slice ra r.length rc) (ex_move _) ?_
 simp only [pS, pN, pA, pC, pZ]
 refine do_ rfl (.slice a2 n.length c2) (ex_move _) ?_
 simp only [pS, pN, pA, pC, pZ]
 refine do_ rfl (.agg #[(.bool p.empty), (.slice sp p.steps.length tp), (.slice up p.pair.1.length vp), (.slice xp p.pair.2.length yp)]) (ex_load rfl (loadN (cs := [(.bool p.empty), (.slice sp p.steps.length tp), (.slice up p.pair.1.length vp), (.slice xp p.pair.2.length yp)]) Tryd.underlying49 rfl (size_49) (St.range S14 (i := 2) rfl 0 [(.bool p.empty), (.slice sp p.steps.length tp), (.slice up p.pair.1.length vp), (.slice xp p.pair.2.length yp)] (sub_range 0 rfl)))) ?_
 simp only [pS, pN, pA, pC, pZ]
 refine stGives S14 rfl (ex_fn (vs := #[(.slice ra r.length rc), (.slice a2 n.length c2), (.agg #[(.bool p.empty), (.slice sp p.steps.length tp), (.slice up p.pair.1.length vp), (.slice xp p.pair.2.length yp)])]) (map3 rfl rfl rfl) rfl (ent_52 _ _)) (verifyIs_spec _ _ _ _ _ r n p (o := none) (S14).sat (hT.at S14.gr.below) hr hn ⟨_, _, _, _, _, _, rfl, h1, h2, h3⟩ hr32 ⟨hnn.1, by omega⟩ okp hcp hup ho) ?_
 intro v22 w17 F19 S18 le20 R21
 obtain ⟨_, rfl, R21⟩ := R21
 obtain ⟨a23, c24, rfl, r25⟩ := R21
 have r25 : Bs _ (.slice a23 ([] : By).length c24) ([] : By) := r25
 simp only [pS, pN, pA, pC, pZ]
 refine do_ rfl (.tuple #[(.agg #[(.bool false), (.slice a23 ([] : By).length c24)]), (.int .i64 0)]) (ex_move _) ?_
 simp only [pS, pN, pA, pC, pZ]
 refine do_ rfl (.agg #[(.bool false), (.slice a23 ([] : By).length c24)]) (ex_extract rfl rfl) ?_
 simp only [pS, pN, pA, pC, pZ]
 refine do_ rfl (.int .i64 0) (ex_extract rfl rfl) ?_
 simp only [pS, pN, pA, pC, pZ]
 refine stNew S18 (v := fun n => .pointer (some ⟨n, 0, none⟩)) rfl (ex_alloc (zero_53 _)) (fun n26 w27 S28 => ?_)
 simp only [pS, pN, pA, pC, pZ]
 have S28 : St w F w27 F19 [⟨n26, [(.bool false), (.slice none 0 0)], 53⟩, ⟨n8, [(.bool false), (.slice none 0 0)], 53⟩, ⟨n5, [(.bool q.empty), (.slice sq q.steps.length tq), (.slice uq q.pair.1.length vq), (.slice xq q.pair.2.length yq)], 49⟩, ⟨n2, [(.bool p.empty), (.slice sp p.steps.length tp), (.slice up p.pair.1.length vp), (.slice xp p.pair.2.length yp)], 49⟩] [] := S28
 refine stStore (i := 0) (v := (.agg #[(.bool false), (.slice a23 ([] : By).length c24)])) S28 rfl rfl rfl rfl (size_53) (allc2 rfl rfl) (Nat.le_of_ble_eq_true rfl) (fun w29 S30 => ?_)
 simp only [pS, pN, pA, pC, pZ]
 have S30 : St w F w29 F19 [⟨n26, [(.bool false), (.slice a23 ([] : By).length c24)], 53⟩, ⟨n8, [(.bool false), (.slice none 0 0)], 53⟩, ⟨n5, [(.bool q.empty), (.slice sq q.steps.length tq), (.slice uq q.pair.1.length vq), (.slice xq q.pair.2.length yq)], 49⟩, ⟨n2, [(.bool p.empty), (.slice sp p.steps.length tp), (.slice up p.pair.1.length vp), (.slice xp p.pair.2.length yp)], 49⟩] [] := S30
 refine do_ rfl (.int .i64 0) (ex_assign _) ?_
 simp only [pS, pN, pA, pC, pZ]
 refine wl_nil (hK16 _ _ ?_)
 refine wp_seq_k (fun K31 hK31 => ?_)
 refine wp_seq_k (fun K32 hK32 => region_wl ?_)
 refine do_ rfl (.int .i64 0) (ex_move _) ?_
 simp only [pS, pN, pA, pC, pZ]
 refine do_ rfl (.bool false) (ex_neq (b := false) rfl rfl (by decide)) ?_
 simp only [pS, pN, pA, pC, pZ]
 refine wl_nil (hK32 _ _ ?_)
 refine wp_cond_false rfl ?_
 refine wp_skip ?_
 refine hK31 _ _ ?_
 refine wp_seq_k (fun K33 hK33 => ?_)
 refine wp_seq_k (fun K34 hK34 => region_wl ?_)
 refine do_ rfl (.pointer (some ⟨n26, 0, none⟩)) (ex_field (q := ⟨n26, 0, none⟩) rfl (fa_53_0 _ _)) ?_
 simp only [pS, pN, pA, pC, pZ]
 refine do_ rfl (.bool false) (ex_load rfl (load1 (nagg_4 _) (St.cell S30 (i := 0) rfl rfl))) ?_
 simp only [pS, pN, pA, pC, pZ]
 refine do_ rfl (.bool true) (ex_not (b := false) rfl rfl) ?_
 simp only [pS, pN, pA, pC, pZ]
 refine wl_nil (hK34 _ _ ?_)
 refine wp_cond_true rfl ?_
 refine region_wl ?_
 refine stGives S30 rfl (ex_fn (vs := #[(.slice none 0 0)]) (map1 rfl) rfl (ent_18 _ _)) (Root_spec _ _ _ ([] : List Pr) (S30).sat (hT.at S30.gr.below) (Sl.nil _ _ _) (TreeOk.nil 60)) ?_
 intro v40 w35 F37 S36 le38 R39
 obtain ⟨x41, rfl, r42⟩ := R39
 obtain ⟨xa43, xc44, rfl, _⟩ := r42.shape
 have r42 : Bs _ (.slice xa43 (rootT ([] : List Pr)).length xc44) (rootT ([] : List Pr)) := r42
 simp only [pS, pN, pA, pC, pZ]
 refine do_ rfl (.tuple #[(.slice xa43 (rootT ([] : List Pr)).length xc44), (.int .i64 0)]) (ex_move _) ?_
 simp only [pS, pN, pA, pC, pZ]
 refine do_ rfl (.slice xa43 (rootT ([] : List Pr)).length xc44) (ex_extract rfl rfl) ?_
 simp only [pS, pN, pA, pC, pZ]
 refine do_ rfl (.int .i64 0) (ex_extract rfl rfl) ?_
 simp only [pS, pN, pA, pC, pZ]
 refine do_ rfl (.pointer (some ⟨n26, 1, none⟩)) (ex_field (q := ⟨n26, 1, none⟩) rfl (fa_53_1 _ _)) ?_
 simp only [pS, pN, pA, pC, pZ]
 refine stStore (i := 0) (v := (.slice xa43 (rootT ([] : List Pr)).length xc44)) S36 rfl rfl rfl rfl (size_23) (allc1 rfl) (Nat.le_of_ble_eq_true rfl) (fun w45 S46 => ?_)
 simp only [pS, pN, pA, pC, pZ]
 have S46 : St w F w45 F37 [⟨n26, [(.bool false), (.slice xa43 (rootT ([] : List Pr)).length xc44)], 53⟩, ⟨n8, [(.bool false), (.slice none 0 0)], 53⟩, ⟨n5, [(.bool q.empty), (.slice sq q.steps.length tq), (.slice uq q.pair.1.length vq), (.slice xq q.pair.2.length yq)], 49⟩, ⟨n2, [(.bool p.empty), (.slice sp p.steps.length tp), (.slice up p.pair.1.length vp), (.slice xp p.pair.2.length yp)], 49⟩] [] := S46
 refine wl_nil (hK33 _ _ ?_)
 refine wp_seq_k (fun K47 hK47 => region_wl ?_)
 refine do_ rfl (.pointer (some ⟨n26, 1, none⟩)) (ex_field (q := ⟨n26, 1, none⟩) rfl (fa_53_1 _ _)) ?_
 simp only [pS, pN, pA, pC, pZ]
 refine do_ rfl (.slice xa43 (rootT ([] : List Pr)).length xc44) (ex_load rfl (load1 (nagg_23 _) (St.cell S46 (i := 0) rfl rfl))) ?_
 simp only [pS, pN, pA, pC, pZ]
 refine do_ rfl (.slice a3 k.length c3) (ex_move _) ?_
 simp only [pS, pN, pA, pC, pZ]
 refine do_ rfl (.agg #[(.bool q.empty), (.slice sq q.steps.length tq), (.slice uq q.pair.1.length vq), (.slice xq q.pair.2.length yq)]) (ex_load rfl (loadN (cs := [(.bool q.empty), (.slice sq q.steps.length tq), (.slice uq q.pair.1.length vq), (.slice xq q.pair.2.length yq)]) Tryd.underlying49 rfl (size_49) (St.range S46 (i := 2) rfl 0 [(.bool q.empty), (.slice sq q.steps.length tq), (.slice uq q.pair.1.length vq), (.slice xq q.pair.2.length yq)] (sub_range 0 rfl)))) ?_
 simp only [pS, pN, pA, pC, pZ]
 refine stGives S46 rfl (ex_fn (vs := #[(.slice xa43 (rootT ([] : List Pr)).length xc44), (.slice a3 k.length c3), (.agg #[(.bool q.empty), (.slice sq q.steps.length tq), (.slice uq q.pair.1.length vq), (.slice xq q.pair.2.length yq)])]) (map3 rfl rfl rfl) rfl (ent_52 _ _)) (verifyIs_spec _ _ _ _ _ (rootT ([] : List Pr)) k q (o := tellP k q) (S46).sat (hT.at S46.gr.below) r42 (hk.mono (le20.trans le38)) ⟨_, _, _, _, _, _, rfl, (h4.mono (le20.trans le38)), (h5.mono (le20.trans le38)), (h6.mono (le20.trans le38))⟩ (rootT_len _) hkk okq hcq huq rfl) ?_
 intro v53 w48 F50 S49 le51 R52
 obtain ⟨x54, rfl, R52⟩ := R52
 obtain ⟨a55, c56, rfl, r57⟩ := R52
 simp only [pS, pN, pA, pC, pZ]
 refine do_ rfl (.agg #[(.bool (tellP k q).isSome), (.slice a55 ((tellP k q).getD []).length c56)]) (ex_extract rfl rfl) ?_
 simp only [pS, pN, pA, pC, pZ]
 refine do_ rfl (.int .i64 0) (ex_extract rfl rfl) ?_
 simp only [pS, pN, pA, pC, pZ]
 refine stStore (i := 1) (v := (.agg #[(.bool (tellP k q).isSome), (.slice a55 ((tellP k q).getD []).length c56)])) S49 rfl rfl rfl rfl (size_53) (allc2 rfl rfl) (Nat.le_of_ble_eq_true rfl) (fun w58 S59 => ?_)
 simp only [pS, pN, pA, pC, pZ]
 have S59 : St w F w58 F50 [⟨n26, [(.bool false), (.slice xa43 (rootT ([] : List Pr)).length xc44)], 53⟩, ⟨n8, [(.bool (tellP k q).isSome), (.slice a55 ((tellP k q).getD []).length c56)], 53⟩, ⟨n5, [(.bool q.empty), (.slice sq q.steps.length tq), (.slice uq q.pair.1.length vq), (.slice xq q.pair.2.length yq)], 49⟩, ⟨n2, [(.bool p.empty), (.slice sp p.steps.length tp), (.slice up p.pair.1.length vp), (.slice xp p.pair.2.length yp)], 49⟩] [] := S59
 refine do_ rfl (.int .i64 0) (ex_assign _) ?_
 simp only [pS, pN, pA, pC, pZ]
 refine wl_nil (hK47 _ _ ?_)
 refine wp_ret ?_
 (try simp only [Exit.then, Exit.inBlock, ↓reduceIte, Nat.reduceEqDiff])
 refine bodyPost_ret (v := (.tuple #[(.agg #[(.bool (tellP k q).isSome), (.slice a55 ((tellP k q).getD []).length c56)]), (.int .i64 0)])) ?_ rfl ?_
 ·exact res_ct rfl ⟨_, rfl, loadN (cs := [(.bool (tellP k q).isSome), (.slice a55 ((tellP k q).getD []).length c56)]) Tryd.underlying53 rfl (size_53) (St.range S59 (i := 1) rfl 0 [(.bool (tellP k q).isSome), (.slice a55 ((tellP k q).getD []).length c56)] (sub_range 0 rfl))⟩ rfl
 ·exact ⟨_, _, rfl, S59.gr, _, rfl, _, _, rfl, r57⟩
theorem forestVerify_spec (F : Fz) (w : World) (z v u y1 y2 : Value) (l : Forest) (n k : By) (hs : Sat w F) (hT : Tabs w) (hr : Bs F z (rootF l)) (hn : Bs F v n) (hk : Bs F u k) (hv1 : PrfV F y1 (proveT (rootsF l) n)) (hv2 : PrfV F y2 (proveT (treeF l n) k)) (ok1 : ForestOk 60 l) (hnn : 1 ≤ n.length ∧ n.length ≤ 8) (hkk : 1 ≤ k.length ∧ k.length ≤ 16) :
    Calls Tryd.prog 22 #[z, v, u, y1, y2] w (Gives w F (GetR (getF l n k) 0)) := by
  have k1 := rootsF_ok ok1
  have k2 := treeF_ok ok1 n
  have ht := prove_tells k1 n n (prove_check k1 n)
  have hu := prove_up k2 k
  have hg : tellP k (proveT (treeF l n) k) = getF l n k := prove_tells k2 k k (prove_check k2 k)
  rw [← hg]
  rw [roots_get] at ht
  cases h : getT l n with
  | none =>
    rw [h] at ht
    have e : treeF l n = [] := by unfold treeF; rw [h]; rfl
    refine forestVerifyNone_spec F w z v u y1 y2 (rootF l) n k _ _ hs hT hr hn hk hv1 hv2 (rootF_len l) hnn hkk (prove_ok k1 (Nat.le_refl _) n) (prove_check k1 n) (prove_up k1 n) (prove_ok k2 (Nat.le_refl _) k) (prove_check k2 k) ht ?_
    rw [hu, e]
  | some t =>
    rw [h] at ht
    have e : treeF l n = t := by unfold treeF; rw [h]; rfl
    refine forestVerifySome_spec F w z v u y1 y2 (rootF l) n k (rootT t) _ _ hs hT hr hn hk hv1 hv2 (rootF_len l) hnn hkk (prove_ok k1 (Nat.le_refl _) n) (prove_check k1 n) (prove_up k1 n) (prove_ok k2 (Nat.le_refl _) k) (prove_check k2 k) ht (rootT_len t) ?_
    rw [hu, e]
end Go.Proofs.YtikklmjengkliaaDoor
