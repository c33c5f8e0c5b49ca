/- Rules, plain laws and walks: RT1 RT2 RP1 RP2 -/
import Derived.Test.YtikklmjengkliaaDoorCB8
import Derived.Test.YtikklmjengkliaaDoorCB1
import Derived.Test.YtikklmjengkliaaDoorCB3
import Derived.Test.YtikklmjengkliaaDoorCB5
import Derived.Test.YtikklmjengkliaaDoorCB2
import Derived.Test.YtikklmjengkliaaDoorCB4
namespace Go.Proofs.YtikklmjengkliaaDoor
open Go.RowKit
set_option maxRecDepth 100000
set_option linter.unusedVariables false
set_option linter.unusedSimpArgs false
theorem bs_app {F : Fz} {v : Value} {l m : By} (h : Bs F v l) (e : l = m) : Bs F v m := e ▸ h
set_option maxHeartbeats 8000000 in
theorem leaf_spec (F : Fz) (w : World) (v : Value) (p : Pr) (hs : Sat w F) (hT : Tabs w) (hv : Pr2V F v p) (hk : p.1.length ≤ 1000) (hx : p.2.length ≤ 1000) :
    Calls Tryd.prog 73 #[v] w (Gives w F fun F' u => Bs F' u (leafT p)) := by
 obtain ⟨x0, y0, x1, y1, rfl, h0, h1⟩ := hv
 have S := St.start hs
 go_enter Tryd.func73, Tryd.ntmps73
 refine wp_seq_k (fun K1 hK1 => region_wl ?_)
 refine stNew S (v := fun n => .pointer (some ⟨n, 0, none⟩)) rfl (ex_box (v := (.agg #[(.slice x0 p.1.length y0), (.slice x1 p.2.length y1)])) rfl) (fun n2 w3 S4 => ?_)
 simp only [pS, pN, pA, pC, pZ]
 have S4 : St w F w3 F [⟨n2, [(.slice x0 p.1.length y0), (.slice x1 p.2.length y1)], 34⟩] [] := S4
 refine do_ rfl (.slice none 0 0) (ex_assign _) ?_
 simp only [pS, pN, pA, pC, pZ]
 refine wl_nil (hK1 _ _ ?_)
 refine wp_seq_k (fun K5 hK5 => region_wl ?_)
 refine do_ rfl (.pointer (some ⟨n2, 0, none⟩)) (ex_field (q := ⟨n2, 0, none⟩) rfl (fa_34_0 _ _)) ?_
 simp only [pS, pN, pA, pC, pZ]
 refine do_ rfl (.slice x0 p.1.length y0) (ex_load rfl (load1 (nagg_23 _) (St.cell S4 (i := 0) rfl rfl))) ?_
 simp only [pS, pN, pA, pC, pZ]
 refine do_ rfl (.pointer (some ⟨n2, 1, none⟩)) (ex_field (q := ⟨n2, 1, none⟩) rfl (fa_34_1 _ _)) ?_
 simp only [pS, pN, pA, pC, pZ]
 refine do_ rfl (.slice x1 p.2.length y1) (ex_load rfl (load1 (nagg_23 _) (St.cell S4 (i := 0) rfl rfl))) ?_
 simp only [pS, pN, pA, pC, pZ]
 refine stNew S4 (v := fun n => .slice (some ⟨n, 0, none⟩) 2 2) rfl (ex_lit (ps := #[(0, (.slice x0 p.1.length y0)), (1, (.slice x1 p.2.length y1))]) (cells := #[(.slice x0 p.1.length y0), (.slice x1 p.2.length y1)]) (E := 23) (bmap2 rfl rfl) (fun w => by kernel_rfl)) (fun n6 w7 S8 => ?_)
 simp only [pS, pN, pA, pC, pZ]
 have S8 : St w F w7 F [⟨n6, [(.slice x0 p.1.length y0), (.slice x1 p.2.length y1)], 23⟩, ⟨n2, [(.slice x0 p.1.length y0), (.slice x1 p.2.length y1)], 34⟩] [] := S8
 obtain ⟨S9, le10, hc11⟩ := St.freezeBlk S8 (i := 0) rfl
 have r13 : Lss _ (.slice (some ⟨n6, 0, none⟩) 2 2) ([p.1, p.2] : List By) := sl_of_block (R := LsC) (l := ([p.1, p.2] : List By)) (el := [[(.slice x0 p.1.length y0)], [(.slice x1 p.2.length y1)]]) hc11 rfl ⟨⟨_, rfl, (h0.mono le10)⟩, ⟨_, rfl, (h1.mono le10)⟩, trivial⟩ (by simp) (by unfold maxLen; simp)
 generalize addF F w7 n6 = F12 at *
 have S9 : St w F w7 F12 [⟨n2, [(.slice x0 p.1.length y0), (.slice x1 p.2.length y1)], 34⟩] [] := S9
 refine stGives S9 rfl (ex_fn (vs := #[(.int .u8 1), (.slice (some ⟨n6, 0, none⟩) 2 2)]) (map2 rfl rfl) rfl (ent_43 _ _)) (Parts_spec _ _ _ 1 [p.1, p.2] (S9).sat (hT.at S9.gr.below) r13 (by simp [partB_len]; omega)) ?_
 intro v19 w14 F16 S15 le17 R18
 obtain ⟨x20, rfl, r21⟩ := R18
 obtain ⟨xa22, xc23, rfl, _⟩ := r21.shape
 have r21 : Bs _ (.slice xa22 (leafT p).length xc23) (leafT p) := r21
 simp only [pS, pN, pA, pC, pZ]
 refine do_ rfl (.tuple #[(.slice xa22 (leafT p).length xc23), (.int .i64 0)]) (ex_move _) ?_
 simp only [pS, pN, pA, pC, pZ]
 refine do_ rfl (.slice xa22 (leafT p).length xc23) (ex_extract rfl rfl) ?_
 simp only [pS, pN, pA, pC, pZ]
 refine do_ rfl (.int .i64 0) (ex_extract rfl rfl) ?_
 simp only [pS, pN, pA, pC, pZ]
 refine do_ rfl (.slice xa22 (leafT p).length xc23) (ex_assign _) ?_
 simp only [pS, pN, pA, pC, pZ]
 refine do_ rfl (.int .i64 0) (ex_assign _) ?_
 simp only [pS, pN, pA, pC, pZ]
 refine wl_nil (hK5 _ _ ?_)
 refine wp_seq_k (fun K24 hK24 => region_wl ?_)
 refine do_ rfl (.slice xa22 (leafT p).length xc23) (ex_move _) ?_
 simp only [pS, pN, pA, pC, pZ]
 refine do_ rfl (.slice xa22 (leafT p).length xc23) (ex_assign _) ?_
 simp only [pS, pN, pA, pC, pZ]
 refine wl_nil (hK24 _ _ ?_)
 refine wp_ret ?_
 (try simp only [Exit.then, Exit.inBlock, ↓reduceIte, Nat.reduceEqDiff])
 refine bodyPost_ret (v := (.slice xa22 (leafT p).length xc23)) ?_ rfl ?_
 ·exact res_t rfl rfl
 ·exact ⟨_, _, rfl, S15.gr, r21⟩
set_option maxHeartbeats 8000000 in
theorem fork_spec (F : Fz) (w : World) (v u : Value) (bit : Nat) (a b : By) (hs : Sat w F) (hT : Tabs w) (h0 : Bs F v a) (h1 : Bs F u b) (hk : a.length ≤ 1000) (hx : b.length ≤ 1000) :
    Calls Tryd.prog 75 #[.int .i64 (bit : Nat), v, u] w (Gives w F fun F' u => Bs F' u (forkT bit a b)) := by
 obtain ⟨x0, y0, rfl, _⟩ := h0.shape
 obtain ⟨x1, y1, rfl, _⟩ := h1.shape
 have S := St.start hs
 go_enter Tryd.func75, Tryd.ntmps75
 refine wp_seq_k (fun K1 hK1 => region_wl ?_)
 refine do_ rfl (.slice none 0 0) (ex_assign _) ?_
 simp only [pS, pN, pA, pC, pZ]
 refine wl_nil (hK1 _ _ ?_)
 refine wp_seq_k (fun K2 hK2 => region_wl ?_)
 refine do_ rfl (.int .i64 ((bit : Nat) : Int)) (ex_move _) ?_
 simp only [pS, pN, pA, pC, pZ]
 refine do_ rfl (bv (b8 bit)) (ex_convert (v := (.int .i64 ((bit : Nat) : Int))) rfl (conv_b8 bit _)) ?_
 simp only [pS, pN, pA, pC, pZ]
 refine stNew S (v := fun n => .slice (some ⟨n, 0, none⟩) 1 1) rfl (ex_lit (ps := #[(0, (bv (b8 bit)))]) (cells := #[(bv (b8 bit))]) (E := 5) (bmap1 rfl) (fun w => by kernel_rfl)) (fun n3 w4 S5 => ?_)
 simp only [pS, pN, pA, pC, pZ]
 have S5 : St w F w4 F [⟨n3, [(bv (b8 bit))], 5⟩] [] := S5
 refine do_ rfl (.slice x0 a.length y0) (ex_move _) ?_
 simp only [pS, pN, pA, pC, pZ]
 refine do_ rfl (.slice x1 b.length y1) (ex_move _) ?_
 simp only [pS, pN, pA, pC, pZ]
 refine stNew S5 (v := fun n => .slice (some ⟨n, 0, none⟩) 3 3) rfl (ex_lit (ps := #[(0, (.slice (some ⟨n3, 0, none⟩) 1 1)), (1, (.slice x0 a.length y0)), (2, (.slice x1 b.length y1))]) (cells := #[(.slice (some ⟨n3, 0, none⟩) 1 1), (.slice x0 a.length y0), (.slice x1 b.length y1)]) (E := 23) (bmap3 rfl rfl rfl) (fun w => by kernel_rfl)) (fun n6 w7 S8 => ?_)
 simp only [pS, pN, pA, pC, pZ]
 have S8 : St w F w7 F [⟨n6, [(.slice (some ⟨n3, 0, none⟩) 1 1), (.slice x0 a.length y0), (.slice x1 b.length y1)], 23⟩, ⟨n3, [(bv (b8 bit))], 5⟩] [] := S8
 obtain ⟨S9, le10, hc11⟩ := St.freezeBlk S8 (i := 1) rfl
 have r13 : Bs _ (.slice (some ⟨n3, 0, none⟩) 1 1) ([(b8 bit)] : By) := bs_of_block (l := ([(b8 bit)] : By)) hc11 rfl (by unfold maxLen; simp)
 generalize addF F w7 n3 = F12 at *
 have S9 : St w F w7 F12 [⟨n6, [(.slice (some ⟨n3, 0, none⟩) 1 1), (.slice x0 a.length y0), (.slice x1 b.length y1)], 23⟩] [] := S9
 obtain ⟨S14, le15, hc16⟩ := St.freezeBlk S9 (i := 0) rfl
 have r18 : Lss _ (.slice (some ⟨n6, 0, none⟩) 3 3) ([([(b8 bit)] : By), a, b] : List By) := sl_of_block (R := LsC) (l := ([([(b8 bit)] : By), a, b] : List By)) (el := [[(.slice (some ⟨n3, 0, none⟩) 1 1)], [(.slice x0 a.length y0)], [(.slice x1 b.length y1)]]) hc16 rfl ⟨⟨_, rfl, (r13.mono le15)⟩, ⟨_, rfl, ((h0.mono le10).mono le15)⟩, ⟨_, rfl, ((h1.mono le10).mono le15)⟩, trivial⟩ (by simp) (by unfold maxLen; simp)
 generalize addF F12 w7 n6 = F17 at *
 have S14 : St w F w7 F17 [] [] := S14
 refine stGives S14 rfl (ex_fn (vs := #[(.int .u8 2), (.slice (some ⟨n6, 0, none⟩) 3 3)]) (map2 rfl rfl) rfl (ent_43 _ _)) (Parts_spec _ _ _ 2 [([(b8 bit)] : By), a, b] (S14).sat (hT.at S14.gr.below) r18 (by simp [partB_len]; omega)) ?_
 intro v24 w19 F21 S20 le22 R23
 obtain ⟨x25, rfl, r26⟩ := R23
 obtain ⟨xa27, xc28, rfl, _⟩ := r26.shape
 have r26 : Bs _ (.slice xa27 (forkT bit a b).length xc28) (forkT bit a b) := r26
 simp only [pS, pN, pA, pC, pZ]
 refine do_ rfl (.tuple #[(.slice xa27 (forkT bit a b).length xc28), (.int .i64 0)]) (ex_move _) ?_
 simp only [pS, pN, pA, pC, pZ]
 refine do_ rfl (.slice xa27 (forkT bit a b).length xc28) (ex_extract rfl rfl) ?_
 simp only [pS, pN, pA, pC, pZ]
 refine do_ rfl (.int .i64 0) (ex_extract rfl rfl) ?_
 simp only [pS, pN, pA, pC, pZ]
 refine do_ rfl (.slice xa27 (forkT bit a b).length xc28) (ex_assign _) ?_
 simp only [pS, pN, pA, pC, pZ]
 refine do_ rfl (.int .i64 0) (ex_assign _) ?_
 simp only [pS, pN, pA, pC, pZ]
 refine wl_nil (hK2 _ _ ?_)
 refine wp_seq_k (fun K29 hK29 => region_wl ?_)
 refine do_ rfl (.slice xa27 (forkT bit a b).length xc28) (ex_move _) ?_
 simp only [pS, pN, pA, pC, pZ]
 refine do_ rfl (.slice xa27 (forkT bit a b).length xc28) (ex_assign _) ?_
 simp only [pS, pN, pA, pC, pZ]
 refine wl_nil (hK29 _ _ ?_)
 refine wp_ret ?_
 (try simp only [Exit.then, Exit.inBlock, ↓reduceIte, Nat.reduceEqDiff])
 refine bodyPost_ret (v := (.slice xa27 (forkT bit a b).length xc28)) ?_ rfl ?_
 ·exact res_t rfl rfl
 ·exact ⟨_, _, rfl, S20.gr, r26⟩
theorem low_step {l : List Pr} {bit n : Nat} {p : Pr} (hlo : ∀ (i : Nat) (h : i < l.length), i < n → bitL l[i].1 bit = false) (hp : l[n]? = some p) (hb : bitL p.1 bit = false) : ∀ (i : Nat) (h : i < l.length), i < n + 1 → bitL l[i].1 bit = false := by
  intro i h hi
  by_cases e : i = n
  · subst e; obtain ⟨_, e⟩ := List.getElem?_eq_some_iff.1 hp; rw [e]; exact hb
  · exact hlo i h (by omega)
theorem part_at {F : Fz} {w : World} {v u : Value} {a b : By} {n : Nat} (hs : Sat w F) (hv : Bs F v a) (hu : Bs F u b) (h : partL a b = n) (ha : 1 ≤ a.length ∧ a.length ≤ 16) (hb : 1 ≤ b.length ∧ b.length ≤ 16) :
    Calls Tryd.prog 96 #[v, u] w fun e w' => e = .returned (.tuple #[.int .i64 (n : Nat), .int .i64 0]) ∧ w' = w := by
  have := part_spec F w v u a b hs hv hu ha.1 ha.2 hb.1 hb.2
  rwa [h] at this
set_option maxHeartbeats 8000000 in
theorem parted_spec (F : Fz) (w : World) (v : Value) (l : List Pr) (hs : Sat w F) (hv : Prs F v l) (hk : KeysOk l) (h2 : 2 ≤ l.length) (h60 : l.length ≤ 60) :
    Calls Tryd.prog 74 #[v] w (Tells w (.tuple #[.int .i64 (bitT l : Nat), .int .i64 (leftN (bitT l) l : Nat)])) := by
 obtain ⟨a, c, rfl, hc1, hc2⟩ := Sl.shape hv
 unfold maxLen at hc2
 have S := St.start hs
 go_enter Tryd.func74, Tryd.ntmps74
 refine wp_seq_k (fun K1 hK1 => region_wl ?_)
 refine do_ rfl (.int .i64 0) (ex_assign _) ?_
 simp only [pS, pN, pA, pC, pZ]
 refine do_ rfl (.int .i64 0) (ex_assign _) ?_
 simp only [pS, pN, pA, pC, pZ]
 refine wl_nil (hK1 _ _ ?_)
 refine wp_seq_k (fun K2 hK2 => ?_)
 obtain ⟨p0, hp0⟩ : ∃ p, l[0]? = some p := ⟨l[0], List.getElem?_eq_getElem (by omega)⟩
 obtain ⟨p1, hp1⟩ : ∃ p, l[l.length - 1]? = some p := ⟨l[l.length - 1], List.getElem?_eq_getElem (by omega)⟩
 have hq0 := hk.key p0 (List.mem_of_getElem? hp0)
 have hq1 := hk.key p1 (List.mem_of_getElem? hp1)
 obtain ⟨hb1, hpb, _, _⟩ := bitT_spec hk h2
 rw [(List.getElem?_eq_some_iff.1 hp0).2, (List.getElem?_eq_some_iff.1 hp1).2] at hpb
 obtain ⟨b3, o4, ha5, xa7, xc8, xa11, xc12, c6, c10, r9, r13⟩ := Prs.get hv hp0
 obtain ⟨b14, o15, ha16, xa18, xc19, xa22, xc23, c17, c21, r20, r24⟩ := Prs.get hv hp1
 have hq_ := ha5.symm.trans ha16; injection hq_ with hq_; injection hq_ with hq1_ hq2_; subst hq1_; subst hq2_
 refine region_gw F 16 [(11, .is (.tuple #[(.int .i64 (((bitT l) : Nat) : Int)), (.int .i64 0)]))] (by kernel_rfl) (by kernel_rfl) ?_
 simp only [List.take_succ_cons, List.take_zero]
 refine gw_pure rfl rfl (.slice a l.length c) (fun w25 hCw25 => pureAt_of (ex_move _)) ?_
 simp only [pS, pN, pA, pC, pZ]
 refine gw_pure rfl rfl (.pointer (some ⟨b3, o4 + 0 * 2, none⟩)) (fun w25 hCw25 => pureAt_of (ex_at (i := 0) (sz := 2) Tryd.underlying26 (sizeof_34 _) rfl ha5 rfl (by omega) rfl)) ?_
 simp only [pS, pN, pA, pC, pZ]
 refine gw_pure rfl rfl (.pointer (some ⟨b3, o4 + 0 * 2, none⟩)) (fun w25 hCw25 => pureAt_of (ex_field (q := ⟨b3, o4 + 0 * 2, none⟩) rfl (fa_34_0 _ _))) ?_
 simp only [pS, pN, pA, pC, pZ]
 refine gw_pure rfl rfl (.slice xa7 p0.1.length xc8) (fun w25 hCw25 => pureAt_of (ex_load rfl (load1 (nagg_23 _) (St.fz (St.tells S hCw25) c6)))) ?_
 simp only [pS, pN, pA, pC, pZ]
 refine gw_pure rfl rfl (.slice a l.length c) (fun w25 hCw25 => pureAt_of (ex_move _)) ?_
 simp only [pS, pN, pA, pC, pZ]
 refine gw_pure rfl rfl (.slice a l.length c) (fun w25 hCw25 => pureAt_of (ex_move _)) ?_
 simp only [pS, pN, pA, pC, pZ]
 refine gw_pure rfl rfl (.int .i64 ((l.length : Nat) : Int)) (fun w25 hCw25 => pureAt_of (ex_len Tryd.underlying26 rfl)) ?_
 simp only [pS, pN, pA, pC, pZ]
 refine gw_pure rfl rfl (.int .i64 (((l.length - 1) : Nat) : Int)) (fun w25 hCw25 => pureAt_of (ex_sub (m := ((l.length : Nat) : Int)) (n := (1 : Int)) (r := (((l.length - 1) : Nat) : Int)) rfl rfl (by omega) (by omega) (by omega))) ?_
 simp only [pS, pN, pA, pC, pZ]
 refine gw_pure rfl rfl (.pointer (some ⟨b3, o4 + (l.length - 1) * 2, none⟩)) (fun w25 hCw25 => pureAt_of (ex_at (i := (l.length - 1)) (sz := 2) Tryd.underlying26 (sizeof_34 _) rfl ha5 rfl (by omega) rfl)) ?_
 simp only [pS, pN, pA, pC, pZ]
 refine gw_pure rfl rfl (.pointer (some ⟨b3, o4 + (l.length - 1) * 2, none⟩)) (fun w25 hCw25 => pureAt_of (ex_field (q := ⟨b3, o4 + (l.length - 1) * 2, none⟩) rfl (fa_34_0 _ _))) ?_
 simp only [pS, pN, pA, pC, pZ]
 refine gw_pure rfl rfl (.slice xa18 p1.1.length xc19) (fun w25 hCw25 => pureAt_of (ex_load rfl (load1 (nagg_23 _) (St.fz (St.tells S hCw25) c17)))) ?_
 simp only [pS, pN, pA, pC, pZ]
 refine gw_const rfl rfl (v := (.tuple #[(.int .i64 (((bitT l) : Nat) : Int)), (.int .i64 0)])) (fun w25 hCw25 _ => does_call (ex_fn (vs := #[(.slice xa7 p0.1.length xc8), (.slice xa18 p1.1.length xc19)]) (map2 rfl rfl) rfl (ent_96 _ _)) (call_tells (tells_same (part_at ((St.tells S hCw25)).sat r9 r20 hpb hq0 hq1)))) ?_
 simp only [pS, pN, pA, pC, pZ]
 refine gw_pure rfl rfl (.tuple #[(.int .i64 (((bitT l) : Nat) : Int)), (.int .i64 0)]) (fun w25 hCw25 => pureAt_of (ex_move _)) ?_
 simp only [pS, pN, pA, pC, pZ]
 refine gw_pure rfl rfl (.int .i64 (((bitT l) : Nat) : Int)) (fun w25 hCw25 => pureAt_of (ex_extract rfl rfl)) ?_
 simp only [pS, pN, pA, pC, pZ]
 refine gw_pure rfl rfl (.int .i64 0) (fun w25 hCw25 => pureAt_of (ex_extract rfl rfl)) ?_
 simp only [pS, pN, pA, pC, pZ]
 refine gw_pure rfl rfl (.int .i64 (((bitT l) : Nat) : Int)) (fun w25 hCw25 => pureAt_of (ex_assign _)) ?_
 simp only [pS, pN, pA, pC, pZ]
 refine gw_nil ?_
 intro w26 hC28 hF29
 clear hF29
 have S27 := St.tells S hC28
 simp only [List.drop_succ_cons, List.drop_zero]
 refine do_ rfl (.int .i64 0) (ex_assign _) ?_
 simp only [pS, pN, pA, pC, pZ]
 refine wl_nil (hK2 _ _ ?_)
 refine wp_seq_k (fun K30 hK30 => region_wl ?_)
 refine do_ rfl (.int .i64 0) (ex_assign _) ?_
 simp only [pS, pN, pA, pC, pZ]
 refine wl_nil (hK30 _ _ ?_)
 refine wp_seq_k (fun K31 hK31 => ?_)
 refine wp_block ?_
 refine wp_loop_g (fun mm aa w33 => ∃ (n : Nat) (u32 : Nat → Value), mm = l.length - n ∧ u32 = slots aa ∧ aa = ⟨#[(.slice a l.length c), undef, (.int .i64 0), (.int .i64 0), (.int .i64 (((bitT l) : Nat) : Int)), (.int .i64 0), (.int .i64 ((n : Nat) : Int)), (u32 7), (u32 8), (.tuple #[(.int .i64 (((bitT l) : Nat) : Int)), (.int .i64 0)]), (.slice a l.length c), (.pointer (some ⟨b3, o4 + 0 * 2, none⟩)), (.pointer (some ⟨b3, o4 + 0 * 2, none⟩)), (.slice xa7 p0.1.length xc8), (.slice a l.length c), (.slice a l.length c), (.int .i64 ((l.length : Nat) : Int)), (.int .i64 (((l.length - 1) : Nat) : Int)), (.pointer (some ⟨b3, o4 + (l.length - 1) * 2, none⟩)), (.pointer (some ⟨b3, o4 + (l.length - 1) * 2, none⟩)), (.slice xa18 p1.1.length xc19), (.tuple #[(.int .i64 (((bitT l) : Nat) : Int)), (.int .i64 0)]), (.int .i64 (((bitT l) : Nat) : Int)), (.int .i64 0), (u32 24), (u32 25), (u32 26), (u32 27), (u32 28), (u32 29), (u32 30), (u32 31), (u32 32), (u32 33), (u32 34), (u32 35), (u32 36), (u32 37), (u32 38), (u32 39), (u32 40), undef, undef], []⟩ ∧ St w F w33 F [] [] ∧ (n ≤ l.length) ∧ (∀ (i : Nat) (h : i < l.length), i < n → bitL l[i].1 (bitT l) = false)) _ ⟨0, _, rfl, rfl, rfl, S27, (by omega), (fun i _ h => by omega)⟩ ?_
 rintro m34 a35 w36 ⟨n, u32, rfl, -, rfl, S37, hn, hlo⟩ K39 hK39
 refine wp_seq_k (fun K40 hK40 => ?_)
 refine wp_seq_k (fun K41 hK41 => region_wl ?_)
 refine do_ rfl (.int .i64 ((n : Nat) : Int)) (ex_move _) ?_
 simp only [pS, pN, pA, pC, pZ]
 refine do_ rfl (.slice a l.length c) (ex_move _) ?_
 simp only [pS, pN, pA, pC, pZ]
 refine do_ rfl (.int .i64 ((l.length : Nat) : Int)) (ex_len Tryd.underlying26 rfl) ?_
 simp only [pS, pN, pA, pC, pZ]
 by_cases hc27 : n < l.length
 ·refine do_ rfl (.bool true) (ex_lss (m := ((n : Nat) : Int)) (n := ((l.length : Nat) : Int)) (b := true) rfl rfl (decide_eq_true (by omega))) ?_
  simp only [pS, pN, pA, pC, pZ]
  refine wl_nil (hK41 _ _ ?_)
  refine wp_cond_true rfl ?_
  refine wp_skip ?_
  refine hK40 _ _ ?_
  refine wp_block ?_
  refine wp_seq_k (fun K42 hK42 => ?_)
  refine wp_seq_k (fun K43 hK43 => ?_)
  obtain ⟨p, hp⟩ : ∃ p, l[n]? = some p := ⟨l[n], List.getElem?_eq_getElem hc27⟩
  have hpp := hk.key p (List.mem_of_getElem? hp)
  obtain ⟨b44, o45, ha46, xa48, xc49, xa52, xc53, c47, c51, r50, r54⟩ := Prs.get hv hp
  refine region_wl ?_
  refine do_ rfl (.slice a l.length c) (ex_move _) ?_
  simp only [pS, pN, pA, pC, pZ]
  refine do_ rfl (.int .i64 ((n : Nat) : Int)) (ex_move _) ?_
  simp only [pS, pN, pA, pC, pZ]
  refine do_ rfl (.pointer (some ⟨b44, o45 + n * 2, none⟩)) (ex_at (i := n) (sz := 2) Tryd.underlying26 (sizeof_34 _) rfl ha46 rfl (by omega) rfl) ?_
  simp only [pS, pN, pA, pC, pZ]
  refine do_ rfl (.pointer (some ⟨b44, o45 + n * 2, none⟩)) (ex_field (q := ⟨b44, o45 + n * 2, none⟩) rfl (fa_34_0 _ _)) ?_
  simp only [pS, pN, pA, pC, pZ]
  refine do_ rfl (.slice xa48 p.1.length xc49) (ex_load rfl (load1 (nagg_23 _) (St.fz S37 c47))) ?_
  simp only [pS, pN, pA, pC, pZ]
  refine do_ rfl (.int .i64 (((bitT l) : Nat) : Int)) (ex_move _) ?_
  simp only [pS, pN, pA, pC, pZ]
  refine stTells (v := (.tuple #[(.bool (bitL p.1 (bitT l))), (.int .i64 0)])) S37 rfl (ex_fn (vs := #[(.slice xa48 p.1.length xc49), (.int .i64 (((bitT l) : Nat) : Int))]) (map2 rfl rfl) rfl (ent_77 _ _)) (tells_same (bitE_spec _ _ _ p.1 _ (S37).sat r50 hpp.1 hpp.2 (by omega) (by omega))) (fun w55 S56 => ?_)
  simp only [pS, pN, pA, pC, pZ]
  refine do_ rfl (.tuple #[(.bool (bitL p.1 (bitT l))), (.int .i64 0)]) (ex_move _) ?_
  simp only [pS, pN, pA, pC, pZ]
  refine do_ rfl (.bool (bitL p.1 (bitT l))) (ex_extract rfl rfl) ?_
  simp only [pS, pN, pA, pC, pZ]
  refine do_ rfl (.int .i64 0) (ex_extract rfl rfl) ?_
  simp only [pS, pN, pA, pC, pZ]
  refine do_ rfl (.bool (bitL p.1 (bitT l))) (ex_assign _) ?_
  simp only [pS, pN, pA, pC, pZ]
  refine do_ rfl (.int .i64 0) (ex_assign _) ?_
  simp only [pS, pN, pA, pC, pZ]
  refine wl_nil (hK43 _ _ ?_)
  refine wp_seq_k (fun K57 hK57 => region_wl ?_)
  refine do_ rfl (.bool (bitL p.1 (bitT l))) (ex_move _) ?_
  simp only [pS, pN, pA, pC, pZ]
  refine wl_nil (hK57 _ _ ?_)
  refine wp_cond_split rfl (fun hc58 => ?_) (fun hc58 => ?_)
  ·refine wp_exit ?_
   refine hK31 _ _ ?_
   refine wp_seq_k (fun K59 hK59 => region_wl ?_)
   refine do_ rfl (.int .i64 (((bitT l) : Nat) : Int)) (ex_move _) ?_
   simp only [pS, pN, pA, pC, pZ]
   refine do_ rfl (.int .i64 ((n : Nat) : Int)) (ex_move _) ?_
   simp only [pS, pN, pA, pC, pZ]
   refine do_ rfl (.int .i64 (((bitT l) : Nat) : Int)) (ex_assign _) ?_
   simp only [pS, pN, pA, pC, pZ]
   refine do_ rfl (.int .i64 ((n : Nat) : Int)) (ex_assign _) ?_
   simp only [pS, pN, pA, pC, pZ]
   refine wl_nil (hK59 _ _ ?_)
   refine wp_ret ?_
   (try simp only [Exit.then, Exit.inBlock, ↓reduceIte, Nat.reduceEqDiff])
   refine bodyPost_ret (v := (.tuple #[(.int .i64 (((bitT l) : Nat) : Int)), (.int .i64 ((n : Nat) : Int))])) ?_ rfl ?_
   ·exact res_tt rfl rfl rfl
   ·obtain rfl : leftN (bitT l) l = n := leftN_unique hn hlo (fun h => by obtain ⟨_, e⟩ := List.getElem?_eq_some_iff.1 hp; rw [e]; exact hc58)
    exact ⟨rfl, S56.gr.below⟩
  ·refine wp_skip ?_
   refine hK42 _ _ ?_
   refine region_wl ?_
   refine do_ rfl (.int .i64 ((n : Nat) : Int)) (ex_move _) ?_
   simp only [pS, pN, pA, pC, pZ]
   refine do_ rfl (.int .i64 (((n + 1) : Nat) : Int)) (ex_add (m := ((n : Nat) : Int)) (n := (1 : Int)) (r := (((n + 1) : Nat) : Int)) rfl rfl (by omega) (by omega) (by omega)) ?_
   simp only [pS, pN, pA, pC, pZ]
   refine do_ rfl (.int .i64 (((n + 1) : Nat) : Int)) (ex_assign _) ?_
   simp only [pS, pN, pA, pC, pZ]
   refine wl_nil ?_
   exact hK39 _ _ _ (by omega) ⟨(n + 1), _, rfl, rfl, rfl, S56, (by omega), (low_step hlo hp hc58)⟩
 ·refine do_ rfl (.bool false) (ex_lss (m := ((n : Nat) : Int)) (n := ((l.length : Nat) : Int)) (b := false) rfl rfl (decide_eq_false (by omega))) ?_
  simp only [pS, pN, pA, pC, pZ]
  refine wl_nil (hK41 _ _ ?_)
  refine wp_cond_false rfl ?_
  refine wp_exit ?_
  refine hK31 _ _ ?_
  refine wp_seq_k (fun K60 hK60 => region_wl ?_)
  refine do_ rfl (.int .i64 (((bitT l) : Nat) : Int)) (ex_move _) ?_
  simp only [pS, pN, pA, pC, pZ]
  refine do_ rfl (.int .i64 ((n : Nat) : Int)) (ex_move _) ?_
  simp only [pS, pN, pA, pC, pZ]
  refine do_ rfl (.int .i64 (((bitT l) : Nat) : Int)) (ex_assign _) ?_
  simp only [pS, pN, pA, pC, pZ]
  refine do_ rfl (.int .i64 ((n : Nat) : Int)) (ex_assign _) ?_
  simp only [pS, pN, pA, pC, pZ]
  refine wl_nil (hK60 _ _ ?_)
  refine wp_ret ?_
  (try simp only [Exit.then, Exit.inBlock, ↓reduceIte, Nat.reduceEqDiff])
  refine bodyPost_ret (v := (.tuple #[(.int .i64 (((bitT l) : Nat) : Int)), (.int .i64 ((n : Nat) : Int))])) ?_ rfl ?_
  ·exact res_tt rfl rfl rfl
  ·obtain rfl : leftN (bitT l) l = n := leftN_unique hn hlo (fun h => by omega)
   exact ⟨rfl, S37.gr.below⟩
end Go.Proofs.YtikklmjengkliaaDoor
namespace Go.Proofs.YtikklmjengkliaaDoor
open Go.RowKit
set_option maxRecDepth 100000
set_option linter.unusedVariables false
set_option linter.unusedSimpArgs false
theorem take_keys {l : List Pr} (h : KeysOk l) (n : Nat) : KeysOk (l.take n) := h.sub (List.take_sublist _ _)
theorem drop_keys {l : List Pr} (h : KeysOk l) (n : Nat) : KeysOk (l.drop n) := h.sub (List.drop_sublist _ _)
set_option maxHeartbeats 8000000 in
theorem root_step (m : Nat) (ih : ∀ (F : Fz) (w : World) (v : Value) (l : List Pr), Sat w F → Tabs w → Prs F v l → KeysOk l → 1 ≤ l.length → l.length ≤ 60 → l.length ≤ m → (∀ p ∈ l, p.2.length ≤ 32) →
      Calls Tryd.prog 44 #[v] w (Gives w F fun F' u => Bs F' u (rootT l)))
    (F : Fz) (w : World) (v : Value) (l : List Pr) (hs : Sat w F) (hT : Tabs w) (hv : Prs F v l) (hk : KeysOk l) (h1 : 1 ≤ l.length) (h60 : l.length ≤ 60) (hm : l.length ≤ m + 1) (hx : ∀ p ∈ l, p.2.length ≤ 32) :
    Calls Tryd.prog 44 #[v] w (Gives w F fun F' u => Bs F' u (rootT l)) := by
 obtain ⟨a, c, rfl, hc1, hc2⟩ := Sl.shape hv
 unfold maxLen at hc2
 have S := St.start hs
 go_enter Tryd.func44, Tryd.ntmps44
 refine wp_seq_k (fun K1 hK1 => region_wl ?_)
 refine do_ rfl (.slice none 0 0) (ex_assign _) ?_
 simp only [pS, pN, pA, pC, pZ]
 refine wl_nil (hK1 _ _ ?_)
 refine wp_seq_k (fun K2 hK2 => ?_)
 refine wp_seq_k (fun K3 hK3 => region_wl ?_)
 refine do_ rfl (.slice a l.length c) (ex_move _) ?_
 simp only [pS, pN, pA, pC, pZ]
 refine do_ rfl (.int .i64 ((l.length : Nat) : Int)) (ex_len Tryd.underlying26 rfl) ?_
 simp only [pS, pN, pA, pC, pZ]
 by_cases hc7 : l.length = 1
 ·refine do_ rfl (.bool true) (ex_eql (m := ((l.length : Nat) : Int)) (n := (1 : Int)) (b := true) rfl rfl (beq_iff_eq.2 (by omega))) ?_
  simp only [pS, pN, pA, pC, pZ]
  refine wl_nil (hK3 _ _ ?_)
  refine wp_cond_true rfl ?_
  refine wp_seq_k (fun K4 hK4 => ?_)
  obtain ⟨p, hp⟩ : ∃ p, l[0]? = some p := ⟨l[0], List.getElem?_eq_getElem (by omega)⟩
  have hp1 := (hk.key p (List.mem_of_getElem? hp)).2
  have hp2 := hx p (List.mem_of_getElem? hp)
  have hone : l = [p] := by obtain ⟨q, rfl⟩ := List.length_eq_one_iff.1 (show l.length = 1 by omega); simp at hp; rw [hp]
  obtain ⟨b5, o6, ha7, xa9, xc10, xa13, xc14, c8, c12, r11, r15⟩ := Prs.get hv hp
  refine region_wl ?_
  refine do_ rfl (.slice a l.length c) (ex_move _) ?_
  simp only [pS, pN, pA, pC, pZ]
  refine do_ rfl (.pointer (some ⟨b5, o6 + 0 * 2, none⟩)) (ex_at (i := 0) (sz := 2) Tryd.underlying26 (sizeof_34 _) rfl ha7 rfl (by omega) rfl) ?_
  simp only [pS, pN, pA, pC, pZ]
  refine do_ rfl (.agg #[(.slice xa9 p.1.length xc10), (.slice xa13 p.2.length xc14)]) (ex_load rfl (loadN (cs := [(.slice xa9 p.1.length xc10), (.slice xa13 p.2.length xc14)]) Tryd.underlying34 rfl (size_34) (range2 (St.fz S c8) (St.fz S c12)))) ?_
  simp only [pS, pN, pA, pC, pZ]
  refine stGives S rfl (ex_fn (vs := #[(.agg #[(.slice xa9 p.1.length xc10), (.slice xa13 p.2.length xc14)])]) (map1 rfl) rfl (ent_73 _ _)) (leaf_spec _ _ _ p (S).sat (hT.at S.gr.below) ⟨_, _, _, _, rfl, r11, r15⟩ (by omega) (by omega)) ?_
  intro v21 w16 F18 S17 le19 R20
  obtain ⟨xa22, xc23, rfl, _⟩ := R20.shape
  simp only [pS, pN, pA, pC, pZ]
  refine do_ rfl (.slice xa22 (leafT p).length xc23) (ex_assign _) ?_
  simp only [pS, pN, pA, pC, pZ]
  refine wl_nil (hK4 _ _ ?_)
  refine wp_ret ?_
  (try simp only [Exit.then, Exit.inBlock, ↓reduceIte, Nat.reduceEqDiff])
  refine bodyPost_ret (v := (.slice xa22 (leafT p).length xc23)) ?_ rfl ?_
  ·exact res_t rfl rfl
  ·exact ⟨_, _, rfl, S17.gr, bs_app R20 (by rw [hone]; exact (rootT_one p).symm)⟩
 ·refine do_ rfl (.bool false) (ex_eql (m := ((l.length : Nat) : Int)) (n := (1 : Int)) (b := false) rfl rfl (beq_eq_false_iff_ne.2 (by omega))) ?_
  simp only [pS, pN, pA, pC, pZ]
  refine wl_nil (hK3 _ _ ?_)
  refine wp_cond_false rfl ?_
  refine wp_skip ?_
  refine hK2 _ _ ?_
  refine wp_seq_k (fun K24 hK24 => ?_)
  have hl2 : 2 ≤ l.length := by omega
  obtain ⟨hn1, hn2⟩ := leftN_spec hk hl2
  have hb1 := (bitT_spec hk hl2).1
  refine region_wl ?_
  refine do_ rfl (.slice a l.length c) (ex_move _) ?_
  simp only [pS, pN, pA, pC, pZ]
  refine stTells (v := (.tuple #[(.int .i64 (((bitT l) : Nat) : Int)), (.int .i64 (((leftN (bitT l) l) : Nat) : Int))])) S rfl (ex_fn (vs := #[(.slice a l.length c)]) (map1 rfl) rfl (ent_74 _ _)) (parted_spec _ _ _ l (S).sat hv hk hl2 h60) (fun w25 S26 => ?_)
  simp only [pS, pN, pA, pC, pZ]
  refine do_ rfl (.tuple #[(.int .i64 (((bitT l) : Nat) : Int)), (.int .i64 (((leftN (bitT l) l) : Nat) : Int))]) (ex_move _) ?_
  simp only [pS, pN, pA, pC, pZ]
  refine do_ rfl (.int .i64 (((bitT l) : Nat) : Int)) (ex_extract rfl rfl) ?_
  simp only [pS, pN, pA, pC, pZ]
  refine do_ rfl (.int .i64 (((leftN (bitT l) l) : Nat) : Int)) (ex_extract rfl rfl) ?_
  simp only [pS, pN, pA, pC, pZ]
  refine do_ rfl (.int .i64 (((bitT l) : Nat) : Int)) (ex_assign _) ?_
  simp only [pS, pN, pA, pC, pZ]
  refine do_ rfl (.int .i64 (((leftN (bitT l) l) : Nat) : Int)) (ex_assign _) ?_
  simp only [pS, pN, pA, pC, pZ]
  refine wl_nil (hK24 _ _ ?_)
  refine wp_seq_k (fun K27 hK27 => ?_)
  have hfl : Prs _ (.slice a (leftN (bitT l) l) c) (l.take (leftN (bitT l) l)) := Sl.takeN hv (by omega)
  have hfr : Prs _ (.slice (if c = (leftN (bitT l) l) then a else a.map (·.add ((leftN (bitT l) l) * 2))) (l.length - (leftN (bitT l) l)) (c - (leftN (bitT l) l))) (l.drop (leftN (bitT l) l)) := Sl.dropD (by decide) hv (by omega)
  refine region_hl S26 (by kernel_rfl) (fun w29 S28 => ?_)
  refine hl_take 0 rfl (by kernel_rfl) (v := (.int .i64 (((bitT l) : Nat) : Int))) (fun _ _ _ h => h) S28.sat rfl (fun w30 hs31 => ex_move _) ?_
  simp only [pS, pN, pA, pC, pZ]
  refine hl_take 1 rfl (by kernel_rfl) (v := (.slice a l.length c)) (fun _ _ _ h => h) S28.sat rfl (fun w32 hs33 => ex_move _) ?_
  simp only [pS, pN, pA, pC, pZ]
  refine hl_take 2 rfl (by kernel_rfl) (v := (.int .i64 (((leftN (bitT l) l) : Nat) : Int))) (fun _ _ _ h => h) S28.sat rfl (fun w34 hs35 => ex_move _) ?_
  simp only [pS, pN, pA, pC, pZ]
  refine hl_take 3 rfl (by kernel_rfl) (v := (.slice a (leftN (bitT l) l) c)) (fun _ _ _ h => h) S28.sat rfl (fun w36 hs37 => ex_slice (l := 0) (h := (leftN (bitT l) l)) (sz := 2) Tryd.underlying26 rfl (sizeof_34 _) (.inl ⟨rfl, rfl⟩) (.inr ⟨_, rfl, rfl⟩) (by omega) (by omega) (slice_zero)) ?_
  simp only [pS, pN, pA, pC, pZ]
  refine hl_take 5 rfl (by kernel_rfl) (v := (.slice a l.length c)) (fun _ _ _ h => h) S28.sat rfl (fun w38 hs39 => ex_move _) ?_
  simp only [pS, pN, pA, pC, pZ]
  refine hl_take 6 rfl (by kernel_rfl) (v := (.int .i64 (((leftN (bitT l) l) : Nat) : Int))) (fun _ _ _ h => h) S28.sat rfl (fun w40 hs41 => ex_move _) ?_
  simp only [pS, pN, pA, pC, pZ]
  refine hl_take 7 rfl (by kernel_rfl) (v := (.slice (if c = (leftN (bitT l) l) then a else a.map (·.add ((leftN (bitT l) l) * 2))) (l.length - (leftN (bitT l) l)) (c - (leftN (bitT l) l)))) (fun _ _ _ h => h) S28.sat rfl (fun w42 hs43 => ex_slice (l := (leftN (bitT l) l)) (h := l.length) (sz := 2) Tryd.underlying26 rfl (sizeof_34 _) (.inr ⟨_, rfl, rfl⟩) (.inl ⟨rfl, rfl⟩) (by omega) (by omega) (rfl)) ?_
  simp only [pS, pN, pA, pC, pZ]
  refine hl_next 4 (by kernel_rfl) rfl ?_
  refine stGives S28 rfl (ex_fn (vs := #[(.slice a (leftN (bitT l) l) c)]) (map1 rfl) rfl (ent_44 _ _)) (ih _ _ _ (l.take (leftN (bitT l) l)) (S28).sat (hT.at S28.gr.below) hfl (take_keys hk _) (by rw [List.length_take]; omega) (by rw [List.length_take]; omega) (by rw [List.length_take]; omega) (fun q hq => hx q (List.mem_of_mem_take hq))) ?_
  intro v49 w44 F46 S45 le47 R48
  obtain ⟨xa50, xc51, rfl, _⟩ := R48.shape
  simp only [pS, pN, pA, pC, pZ]
  refine wl_nil (hl_back (Sat.le S45.sat le47) ?_)
  refine hl_next 8 (by kernel_rfl) rfl ?_
  refine stGives S45 rfl (ex_fn (vs := #[(.slice (if c = (leftN (bitT l) l) then a else a.map (·.add ((leftN (bitT l) l) * 2))) (l.length - (leftN (bitT l) l)) (c - (leftN (bitT l) l)))]) (map1 rfl) rfl (ent_44 _ _)) (ih _ _ _ (l.drop (leftN (bitT l) l)) (S45).sat (hT.at S45.gr.below) (hfr.mono le47) (drop_keys hk _) (by rw [List.length_drop]; omega) (by rw [List.length_drop]; omega) (by rw [List.length_drop]; omega) (fun q hq => hx q (List.mem_of_mem_drop hq))) ?_
  intro v57 w52 F54 S53 le55 R56
  obtain ⟨xa58, xc59, rfl, _⟩ := R56.shape
  simp only [pS, pN, pA, pC, pZ]
  refine wl_nil (hl_back (Sat.le S53.sat (le47.trans le55)) ?_)
  refine hl_next 9 (by kernel_rfl) rfl ?_
  refine stGives S53 rfl (ex_fn (vs := #[(.int .i64 (((bitT l) : Nat) : Int)), (.slice xa50 (rootT (l.take (leftN (bitT l) l))).length xc51), (.slice xa58 (rootT (l.drop (leftN (bitT l) l))).length xc59)]) (map3 rfl rfl rfl) rfl (ent_75 _ _)) (fork_spec _ _ _ _ (bitT l) (rootT (l.take (leftN (bitT l) l))) (rootT (l.drop (leftN (bitT l) l))) (S53).sat (hT.at S53.gr.below) (R48.mono le55) R56 (by rw [rootT_len]; omega) (by rw [rootT_len]; omega)) ?_
  intro v65 w60 F62 S61 le63 R64
  obtain ⟨xa66, xc67, rfl, _⟩ := R64.shape
  simp only [pS, pN, pA, pC, pZ]
  refine wl_nil (hl_back (Sat.le S61.sat ((le47.trans le55).trans le63)) ?_)
  refine hl_take 10 rfl (by kernel_rfl) (v := (.slice xa66 (forkT (bitT l) (rootT (l.take (leftN (bitT l) l))) (rootT (l.drop (leftN (bitT l) l)))).length xc67)) (fun _ _ _ h => h) (Sat.le S61.sat ((le47.trans le55).trans le63)) rfl (fun w68 hs69 => ex_assign _) ?_
  simp only [pS, pN, pA, pC, pZ]
  refine hl_done (by kernel_rfl) ?_
  refine hK27 _ _ ?_
  refine wp_ret ?_
  (try simp only [Exit.then, Exit.inBlock, ↓reduceIte, Nat.reduceEqDiff])
  refine bodyPost_ret (v := (.slice xa66 (forkT (bitT l) (rootT (l.take (leftN (bitT l) l))) (rootT (l.drop (leftN (bitT l) l)))).length xc67)) ?_ rfl ?_
  ·exact res_t rfl rfl
  ·exact ⟨_, _, rfl, S61.gr, bs_app R64 (rootT_fork hk hl2).symm⟩
theorem root_spec (m : Nat) : ∀ (F : Fz) (w : World) (v : Value) (l : List Pr), Sat w F → Tabs w → Prs F v l → KeysOk l → 1 ≤ l.length → l.length ≤ 60 → l.length ≤ m → (∀ p ∈ l, p.2.length ≤ 32) →
      Calls Tryd.prog 44 #[v] w (Gives w F fun F' u => Bs F' u (rootT l)) := by
  induction m with
  | zero => intro F w v l _ _ _ _ h1 _ hm; omega
  | succ m ih => intro F w v l hs hT hv hk h1 h60 hm hx; exact root_step m ih F w v l hs hT hv hk h1 h60 hm hx
set_option maxHeartbeats 8000000 in
theorem RootOk_at (F : Fz) (w : World) (v : Value) (l : List Pr) (hs : Sat w F) (hT : Tabs w) (hv : Prs F v l) (ok : TreeOk 60 l) (hz : 1 ≤ l.length) :
    Calls Tryd.prog 18 #[v] w (Gives w F (SumR (rootT l) 0)) := by
 obtain ⟨a, c, rfl, hc1, hc2⟩ := Sl.shape hv
 unfold maxLen at hc2
 have S := St.start hs
 go_enter Tryd.func18, Tryd.ntmps18
 refine wp_seq_k (fun K1 hK1 => region_wl ?_)
 refine do_ rfl (.slice none 0 0) (ex_assign _) ?_
 simp only [pS, pN, pA, pC, pZ]
 refine do_ rfl (.int .i64 0) (ex_assign _) ?_
 simp only [pS, pN, pA, pC, pZ]
 refine wl_nil (hK1 _ _ ?_)
 refine wp_seq_k (fun K2 hK2 => ?_)
 refine wp_seq_k (fun K3 hK3 => region_wl ?_)
 refine do_ rfl (.slice a l.length c) (ex_move _) ?_
 simp only [pS, pN, pA, pC, pZ]
 refine stTells (v := (.int .i64 0)) S rfl (ex_fn (vs := #[(.slice a l.length c)]) (map1 rfl) rfl (ent_42 _ _)) (treeCheckOk_spec _ _ _ l (S).sat hv ok) (fun w4 S5 => ?_)
 simp only [pS, pN, pA, pC, pZ]
 refine do_ rfl (.int .i64 0) (ex_assign _) ?_
 simp only [pS, pN, pA, pC, pZ]
 refine wl_nil (hK3 _ _ ?_)
 refine wp_seq_k (fun K6 hK6 => region_wl ?_)
 refine do_ rfl (.int .i64 0) (ex_move _) ?_
 simp only [pS, pN, pA, pC, pZ]
 refine do_ rfl (.bool false) (ex_neq (m := (0 : Int)) (n := (0 : Int)) (b := false) rfl rfl (bne_eq_false_iff_eq.2 (by omega))) ?_
 simp only [pS, pN, pA, pC, pZ]
 refine wl_nil (hK6 _ _ ?_)
 refine wp_cond_false rfl ?_
 refine wp_skip ?_
 refine hK2 _ _ ?_
 refine wp_seq_k (fun K7 hK7 => ?_)
 refine wp_seq_k (fun K8 hK8 => region_wl ?_)
 refine do_ rfl (.slice a l.length c) (ex_move _) ?_
 simp only [pS, pN, pA, pC, pZ]
 refine do_ rfl (.int .i64 ((l.length : Nat) : Int)) (ex_len Tryd.underlying26 rfl) ?_
 simp only [pS, pN, pA, pC, pZ]
 refine do_ rfl (.bool false) (ex_eql (m := ((l.length : Nat) : Int)) (n := (0 : Int)) (b := false) rfl rfl (beq_eq_false_iff_ne.2 (by omega))) ?_
 simp only [pS, pN, pA, pC, pZ]
 refine wl_nil (hK8 _ _ ?_)
 refine wp_cond_false rfl ?_
 refine wp_skip ?_
 refine hK7 _ _ ?_
 refine wp_seq_k (fun K9 hK9 => region_wl ?_)
 refine do_ rfl (.slice a l.length c) (ex_move _) ?_
 simp only [pS, pN, pA, pC, pZ]
 refine stGives S5 rfl (ex_fn (vs := #[(.slice a l.length c)]) (map1 rfl) rfl (ent_44 _ _)) (root_spec l.length _ _ _ l (S5).sat (hT.at S5.gr.below) hv ok.keys (by omega) ok.len (Nat.le_refl _) (fun p hp => (ok.ok p hp).2.2)) ?_
 intro v15 w10 F12 S11 le13 R14
 obtain ⟨xa16, xc17, rfl, _⟩ := R14.shape
 simp only [pS, pN, pA, pC, pZ]
 refine do_ rfl (.slice xa16 (rootT l).length xc17) (ex_assign _) ?_
 simp only [pS, pN, pA, pC, pZ]
 refine do_ rfl (.int .i64 0) (ex_assign _) ?_
 simp only [pS, pN, pA, pC, pZ]
 refine wl_nil (hK9 _ _ ?_)
 refine wp_ret ?_
 (try simp only [Exit.then, Exit.inBlock, ↓reduceIte, Nat.reduceEqDiff])
 refine bodyPost_ret (v := (.tuple #[(.slice xa16 (rootT l).length xc17), (.int .i64 0)])) ?_ rfl ?_
 ·exact res_tt rfl rfl rfl
 ·exact ⟨_, _, rfl, S11.gr, _, rfl, R14⟩
set_option maxHeartbeats 8000000 in
theorem RootNil_at (F : Fz) (w : World) (v : Value) (l : List Pr) (hs : Sat w F) (hT : Tabs w) (hv : Prs F v l) (ok : TreeOk 60 l) (hz : l.length = 0) :
    Calls Tryd.prog 18 #[v] w (Gives w F (SumR (rootT l) 0)) := by
 obtain ⟨a, c, rfl, hc1, hc2⟩ := Sl.shape hv
 unfold maxLen at hc2
 have S := St.start hs
 go_enter Tryd.func18, Tryd.ntmps18
 refine wp_seq_k (fun K1 hK1 => region_wl ?_)
 refine do_ rfl (.slice none 0 0) (ex_assign _) ?_
 simp only [pS, pN, pA, pC, pZ]
 refine do_ rfl (.int .i64 0) (ex_assign _) ?_
 simp only [pS, pN, pA, pC, pZ]
 refine wl_nil (hK1 _ _ ?_)
 refine wp_seq_k (fun K2 hK2 => ?_)
 refine wp_seq_k (fun K3 hK3 => region_wl ?_)
 refine do_ rfl (.slice a l.length c) (ex_move _) ?_
 simp only [pS, pN, pA, pC, pZ]
 refine stTells (v := (.int .i64 0)) S rfl (ex_fn (vs := #[(.slice a l.length c)]) (map1 rfl) rfl (ent_42 _ _)) (treeCheckOk_spec _ _ _ l (S).sat hv ok) (fun w4 S5 => ?_)
 simp only [pS, pN, pA, pC, pZ]
 refine do_ rfl (.int .i64 0) (ex_assign _) ?_
 simp only [pS, pN, pA, pC, pZ]
 refine wl_nil (hK3 _ _ ?_)
 refine wp_seq_k (fun K6 hK6 => region_wl ?_)
 refine do_ rfl (.int .i64 0) (ex_move _) ?_
 simp only [pS, pN, pA, pC, pZ]
 refine do_ rfl (.bool false) (ex_neq (m := (0 : Int)) (n := (0 : Int)) (b := false) rfl rfl (bne_eq_false_iff_eq.2 (by omega))) ?_
 simp only [pS, pN, pA, pC, pZ]
 refine wl_nil (hK6 _ _ ?_)
 refine wp_cond_false rfl ?_
 refine wp_skip ?_
 refine hK2 _ _ ?_
 refine wp_seq_k (fun K7 hK7 => ?_)
 refine wp_seq_k (fun K8 hK8 => region_wl ?_)
 refine do_ rfl (.slice a l.length c) (ex_move _) ?_
 simp only [pS, pN, pA, pC, pZ]
 refine do_ rfl (.int .i64 ((l.length : Nat) : Int)) (ex_len Tryd.underlying26 rfl) ?_
 simp only [pS, pN, pA, pC, pZ]
 refine do_ rfl (.bool true) (ex_eql (m := ((l.length : Nat) : Int)) (n := (0 : Int)) (b := true) rfl rfl (beq_iff_eq.2 (by omega))) ?_
 simp only [pS, pN, pA, pC, pZ]
 refine wl_nil (hK8 _ _ ?_)
 refine wp_cond_true rfl ?_
 refine wp_seq_k (fun K9 hK9 => region_wl ?_)
 refine stGives S5 rfl (ex_fn (vs := #[(.int .u8 0), (.slice none 0 0)]) (map2 rfl rfl) rfl (ent_43 _ _)) (Parts_spec _ _ _ 0 [] (S5).sat (hT.at S5.gr.below) (Sl.nil 1 LsC _) (by simp)) ?_
 intro v15 w10 F12 S11 le13 R14
 obtain ⟨x16, rfl, r17⟩ := R14
 obtain ⟨xa18, xc19, rfl, _⟩ := r17.shape
 have r17 : Bs _ (.slice xa18 (rootT ([] : List Pr)).length xc19) (rootT ([] : List Pr)) := r17
 simp only [pS, pN, pA, pC, pZ]
 refine do_ rfl (.slice xa18 (rootT ([] : List Pr)).length xc19) (ex_extract rfl rfl) ?_
 simp only [pS, pN, pA, pC, pZ]
 refine do_ rfl (.int .i64 0) (ex_extract rfl rfl) ?_
 simp only [pS, pN, pA, pC, pZ]
 refine do_ rfl (.slice xa18 (rootT ([] : List Pr)).length xc19) (ex_assign _) ?_
 simp only [pS, pN, pA, pC, pZ]
 refine do_ rfl (.int .i64 0) (ex_assign _) ?_
 simp only [pS, pN, pA, pC, pZ]
 refine wl_nil (hK9 _ _ ?_)
 refine wp_ret ?_
 (try simp only [Exit.then, Exit.inBlock, ↓reduceIte, Nat.reduceEqDiff])
 refine bodyPost_ret (v := (.tuple #[(.slice xa18 (rootT ([] : List Pr)).length xc19), (.int .i64 0)])) ?_ rfl ?_
 ·exact res_tt rfl rfl rfl
 ·exact ⟨_, _, rfl, S11.gr, _, rfl, bs_app r17 (by rw [List.eq_nil_of_length_eq_zero hz])⟩
theorem Root_spec (F : Fz) (w : World) (v : Value) (l : List Pr) (hs : Sat w F) (hT : Tabs w) (hv : Prs F v l) (ok : TreeOk 60 l) :
    Calls Tryd.prog 18 #[v] w (Gives w F (SumR (rootT l) 0)) := by
  rcases Nat.eq_zero_or_pos l.length with h | h
  · exact RootNil_at F w v l hs hT hv ok h
  · exact RootOk_at F w v l hs hT hv ok h
end Go.Proofs.YtikklmjengkliaaDoor
namespace Go.Proofs.YtikklmjengkliaaDoor
open Go.RowKit
set_option maxRecDepth 100000
set_option linter.unusedVariables false
set_option linter.unusedSimpArgs false
/-- A proof by value. -/
def PrfV (F : Fz) (v : Value) (p : Prf) : Prop := ∃ a c ka kc va vc, v = .agg #[.bool p.empty, .slice a p.steps.length c, .slice ka p.pair.1.length kc, .slice va p.pair.2.length vc] ∧ Stps F (.slice a p.steps.length c) p.steps ∧ Bs F (.slice ka p.pair.1.length kc) p.pair.1 ∧ Bs F (.slice va p.pair.2.length vc) p.pair.2
/-- .. whose steps are a row of the call's own. -/
def GivesPrf (w : World) (F : Fz) (p : Prf) (e : Ending) (w' : World) : Prop := ∃ v ka kc va vc F', e = .returned (.tuple #[.agg #[.bool p.empty, v, .slice ka p.pair.1.length kc, .slice va p.pair.2.length vc], .int .i64 0]) ∧ Gr w F w' F' ∧ Own 3 StpC 127 w.heap.size w' F' v p.steps ∧ Bs F' (.slice ka p.pair.1.length kc) p.pair.1 ∧ Bs F' (.slice va p.pair.2.length vc) p.pair.2
set_option maxHeartbeats 8000000 in
theorem ownP_spec (F : Fz) (w : World) (v : Value) (p : Pr) (hs : Sat w F) (hv : Pr2V F v p) (hk : p.1.length ≤ 100000) (hx : p.2.length ≤ 100000) :
    Calls Tryd.prog 78 #[v] w (Gives w F fun F' u => Pr2V F' u p) := by
 obtain ⟨x0, y0, x1, y1, rfl, h0, h1⟩ := hv
 have S := St.start hs
 go_enter Tryd.func78, Tryd.ntmps78
 refine wp_seq_k (fun K1 hK1 => region_wl ?_)
 refine stNew S (v := fun n => .pointer (some ⟨n, 0, none⟩)) rfl (ex_box (v := (.agg #[(.slice x0 p.1.length y0), (.slice x1 p.2.length y1)])) rfl) (fun n2 w3 S4 => ?_)
 simp only [pS, pN, pA, pC, pZ]
 have S4 : St w F w3 F [⟨n2, [(.slice x0 p.1.length y0), (.slice x1 p.2.length y1)], 34⟩] [] := S4
 refine stNew S4 (v := fun n => .pointer (some ⟨n, 0, none⟩)) rfl (ex_alloc (zero_34 _)) (fun n5 w6 S7 => ?_)
 simp only [pS, pN, pA, pC, pZ]
 have S7 : St w F w6 F [⟨n5, [(.slice none 0 0), (.slice none 0 0)], 34⟩, ⟨n2, [(.slice x0 p.1.length y0), (.slice x1 p.2.length y1)], 34⟩] [] := S7
 refine wl_nil (hK1 _ _ ?_)
 refine wp_seq_k (fun K8 hK8 => ?_)
 refine region_gw F 5 [(2, .made (fun F' u => Bs F' u p.1))] (by kernel_rfl) (by kernel_rfl) ?_
 simp only [List.take_succ_cons, List.take_zero]
 refine gw_pure rfl rfl (.pointer (some ⟨n2, 0, none⟩)) (fun w9 hCw9 => pureAt_of (ex_field (q := ⟨n2, 0, none⟩) rfl (fa_34_0 _ _))) ?_
 simp only [pS, pN, pA, pC, pZ]
 refine gw_pure rfl rfl (.slice x0 p.1.length y0) (fun w9 hCw9 => pureAt_of (ex_load rfl (load1 (nagg_23 _) (St.cell (St.tells S7 hCw9) (i := 1) rfl rfl)))) ?_
 simp only [pS, pN, pA, pC, pZ]
 refine gw_rel rfl rfl (fun w9 hCw9 hF => does_call (ex_fn (vs := #[(.slice x0 p.1.length y0)]) (map1 rfl) rfl (ent_64 _ _)) (call_made S7.sat hCw9 (clone_spec _ _ _ p.1 ((St.tells S7 hCw9)).sat h0 (by omega)))) (fun v10 => ?_)
 simp only [pS, pN, pA, pC, pZ]
 refine gw_pure rfl rfl (.pointer (some ⟨n2, 1, none⟩)) (fun w9 hCw9 => pureAt_of (ex_field (q := ⟨n2, 1, none⟩) rfl (fa_34_1 _ _))) ?_
 simp only [pS, pN, pA, pC, pZ]
 refine gw_pure rfl rfl (.slice x1 p.2.length y1) (fun w9 hCw9 => pureAt_of (ex_load rfl (load1 (nagg_23 _) (St.cell (St.tells S7 hCw9) (i := 1) rfl rfl)))) ?_
 simp only [pS, pN, pA, pC, pZ]
 refine gw_nil ?_
 intro w11 hC13 hF14
 obtain ⟨F15, g16, R17⟩ := hF14.get 2 rfl rfl
 have S12 := St.gives S7 g16
 have le19 : Le _ _ := g16.le S7.sat
 have R20 := R17
 generalize F15 = F18 at *
 obtain ⟨xa21, xc22, rfl, _⟩ := R20.shape
 clear hF14
 simp only [List.drop_succ_cons, List.drop_zero]
 refine stGives S12 rfl (ex_fn (vs := #[(.slice x1 p.2.length y1)]) (map1 rfl) rfl (ent_64 _ _)) (clone_spec _ _ _ p.2 (S12).sat (h1.mono le19) (by omega)) ?_
 intro v28 w23 F25 S24 le26 R27
 obtain ⟨xa29, xc30, rfl, _⟩ := R27.shape
 simp only [pS, pN, pA, pC, pZ]
 refine do_ rfl (.agg #[(.slice xa21 p.1.length xc22), (.slice xa29 p.2.length xc30)]) (ex_build (ps := #[(0, (.slice xa21 p.1.length xc22)), (1, (.slice xa29 p.2.length xc30))]) (bmap2 rfl rfl) (by kernel_rfl)) ?_
 simp only [pS, pN, pA, pC, pZ]
 refine stStore (i := 0) (v := (.agg #[(.slice xa21 p.1.length xc22), (.slice xa29 p.2.length xc30)])) S24 rfl rfl rfl rfl (size_34) (allc2 rfl rfl) (Nat.le_of_ble_eq_true rfl) (fun w31 S32 => ?_)
 simp only [pS, pN, pA, pC, pZ]
 have S32 : St w F w31 F25 [⟨n5, [(.slice xa21 p.1.length xc22), (.slice xa29 p.2.length xc30)], 34⟩, ⟨n2, [(.slice x0 p.1.length y0), (.slice x1 p.2.length y1)], 34⟩] [] := S32
 refine wl_nil (hK8 _ _ ?_)
 refine wp_ret ?_
 (try simp only [Exit.then, Exit.inBlock, ↓reduceIte, Nat.reduceEqDiff])
 refine bodyPost_ret (v := (.agg #[(.slice xa21 p.1.length xc22), (.slice xa29 p.2.length xc30)])) ?_ rfl ?_
 ·exact res_c rfl ⟨_, rfl, loadN (cs := [(.slice xa21 p.1.length xc22), (.slice xa29 p.2.length xc30)]) Tryd.underlying34 rfl (size_34) (St.range S32 (i := 0) rfl 0 [(.slice xa21 p.1.length xc22), (.slice xa29 p.2.length xc30)] (sub_range 0 rfl))⟩
 ·exact ⟨_, _, rfl, S32.gr, ⟨_, _, _, _, rfl, (R20.mono le26), R27⟩⟩
set_option maxHeartbeats 8000000 in
theorem partedBit_spec (F : Fz) (w : World) (v : Value) (p : Pr) (b n : Nat) (hs : Sat w F) (hv : Pr2V F v p) (hb : cellF F b 0 = some (.int .i64 (n : Nat))) (hn : n < 145) (hk : 1 ≤ p.1.length ∧ p.1.length ≤ 16) :
    Calls Tryd.prog 98 #[v, .pointer (some ⟨b, 0, none⟩)] w (Tells w (.bool (bitL p.1 n))) := by
 obtain ⟨x0, y0, x1, y1, rfl, h0, h1⟩ := hv
 have S := St.start hs
 go_enter Tryd.func98, Tryd.ntmps98
 refine wp_seq_k (fun K1 hK1 => region_wl ?_)
 refine stNew S (v := fun n => .pointer (some ⟨n, 0, none⟩)) rfl (ex_box (v := (.agg #[(.slice x0 p.1.length y0), (.slice x1 p.2.length y1)])) rfl) (fun n2 w3 S4 => ?_)
 simp only [pS, pN, pA, pC, pZ]
 have S4 : St w F w3 F [⟨n2, [(.slice x0 p.1.length y0), (.slice x1 p.2.length y1)], 34⟩] [] := S4
 refine do_ rfl (.bool false) (ex_assign _) ?_
 simp only [pS, pN, pA, pC, pZ]
 refine wl_nil (hK1 _ _ ?_)
 refine wp_seq_k (fun K5 hK5 => region_wl ?_)
 refine do_ rfl (.pointer (some ⟨n2, 0, none⟩)) (ex_field (q := ⟨n2, 0, none⟩) rfl (fa_34_0 _ _)) ?_
 simp only [pS, pN, pA, pC, pZ]
 refine do_ rfl (.slice x0 p.1.length y0) (ex_load rfl (load1 (nagg_23 _) (St.cell S4 (i := 0) rfl rfl))) ?_
 simp only [pS, pN, pA, pC, pZ]
 refine do_ rfl (.int .i64 ((n : Nat) : Int)) (ex_load rfl (load1 (nagg_3 _) (St.fz S4 hb))) ?_
 simp only [pS, pN, pA, pC, pZ]
 refine stTells (v := (.tuple #[(.bool (bitL p.1 n)), (.int .i64 0)])) S4 rfl (ex_fn (vs := #[(.slice x0 p.1.length y0), (.int .i64 ((n : Nat) : Int))]) (map2 rfl rfl) rfl (ent_77 _ _)) (tells_same (bitE_spec _ _ _ p.1 _ (S4).sat h0 hk.1 hk.2 (by omega) (by omega))) (fun w6 S7 => ?_)
 simp only [pS, pN, pA, pC, pZ]
 refine do_ rfl (.tuple #[(.bool (bitL p.1 n)), (.int .i64 0)]) (ex_move _) ?_
 simp only [pS, pN, pA, pC, pZ]
 refine do_ rfl (.bool (bitL p.1 n)) (ex_extract rfl rfl) ?_
 simp only [pS, pN, pA, pC, pZ]
 refine do_ rfl (.int .i64 0) (ex_extract rfl rfl) ?_
 simp only [pS, pN, pA, pC, pZ]
 refine do_ rfl (.bool (bitL p.1 n)) (ex_assign _) ?_
 simp only [pS, pN, pA, pC, pZ]
 refine do_ rfl (.int .i64 0) (ex_assign _) ?_
 simp only [pS, pN, pA, pC, pZ]
 refine wl_nil (hK5 _ _ ?_)
 refine wp_seq_k (fun K8 hK8 => region_wl ?_)
 refine do_ rfl (.bool (bitL p.1 n)) (ex_move _) ?_
 simp only [pS, pN, pA, pC, pZ]
 refine do_ rfl (.bool (bitL p.1 n)) (ex_assign _) ?_
 simp only [pS, pN, pA, pC, pZ]
 refine wl_nil (hK8 _ _ ?_)
 refine wp_ret ?_
 (try simp only [Exit.then, Exit.inBlock, ↓reduceIte, Nat.reduceEqDiff])
 refine bodyPost_ret (v := (.bool (bitL p.1 n))) ?_ rfl ?_
 ·exact res_t rfl rfl
 ·exact ⟨rfl, S7.gr.below⟩
set_option maxHeartbeats 8000000 in
theorem partedIdx_spec (F : Fz) (w : World) (v : Value) (l : List Pr) (b : Nat) (hs : Sat w F) (hv : Prs F v l) (hb : cellF F b 0 = some (.int .i64 (bitT l : Nat))) (hk : KeysOk l) (h2 : 2 ≤ l.length) (h60 : l.length ≤ 60) :
    Calls Tryd.prog 97 #[v, .func (.func 98) #[] #[.pointer (some ⟨b, 0, none⟩)]] w (Tells w (.int .i64 (leftN (bitT l) l : Nat))) := by
 obtain ⟨a, c, rfl, hc1, hc2⟩ := Sl.shape hv
 unfold maxLen at hc2
 have S := St.start hs
 go_enter Tryd.func97, Tryd.ntmps97
 refine wp_seq_k (fun K1 hK1 => region_wl ?_)
 refine do_ rfl (.int .i64 0) (ex_assign _) ?_
 simp only [pS, pN, pA, pC, pZ]
 refine wl_nil (hK1 _ _ ?_)
 refine wp_seq_k (fun K2 hK2 => ?_)
 refine wp_seq_k (fun K3 hK3 => region_wl ?_)
 refine do_ rfl (.slice a l.length c) (ex_move _) ?_
 simp only [pS, pN, pA, pC, pZ]
 refine do_ rfl (.int .i64 ((l.length : Nat) : Int)) (ex_len Tryd.underlying26 rfl) ?_
 simp only [pS, pN, pA, pC, pZ]
 refine do_ rfl (.int .i64 0) (ex_move _) ?_
 simp only [pS, pN, pA, pC, pZ]
 refine wl_nil (hK3 _ _ ?_)
 refine wp_block ?_
 refine wp_loop_g (fun mm aa w5 => ∃ (k : Nat) (u4 : Nat → Value), mm = l.length - k ∧ u4 = slots aa ∧ aa = ⟨#[(.slice a l.length c), (.func (.func 98) #[] #[(.pointer (some ⟨b, 0, none⟩))]), undef, undef, (u4 4), (u4 5), (.slice a l.length c), (.int .i64 ((l.length : Nat) : Int)), (.int .i64 ((k : Nat) : Int)), (u4 9), (u4 10), (u4 11), (u4 12), (u4 13), (u4 14), (u4 15), (u4 16), (u4 17), (u4 18)], []⟩ ∧ St w F w5 F [] [] ∧ (k ≤ l.length) ∧ (∀ (i : Nat) (h : i < l.length), i < k → bitL l[i].1 (bitT l) = false)) _ ⟨0, _, rfl, rfl, rfl, S, (by omega), (fun i _ h => by omega)⟩ ?_
 rintro m6 a7 w8 ⟨k, u4, rfl, -, rfl, S9, hkl, hlo⟩ K11 hK11
 refine wp_seq_k (fun K12 hK12 => region_wl ?_)
 by_cases hc9 : k < l.length
 ·refine do_ rfl (.bool true) (ex_lss (m := ((k : Nat) : Int)) (n := ((l.length : Nat) : Int)) (b := true) rfl rfl (decide_eq_true (by omega))) ?_
  simp only [pS, pN, pA, pC, pZ]
  refine wl_nil (hK12 _ _ ?_)
  refine wp_seq_k (fun K13 hK13 => ?_)
  refine wp_cond_true rfl ?_
  refine wp_skip ?_
  refine hK13 _ _ ?_
  refine wp_seq_k (fun K14 hK14 => ?_)
  refine wp_block ?_
  refine wp_seq_k (fun K15 hK15 => region_wl ?_)
  refine do_ rfl (.int .i64 ((k : Nat) : Int)) (ex_move _) ?_
  simp only [pS, pN, pA, pC, pZ]
  refine do_ rfl (.int .i64 ((k : Nat) : Int)) (ex_assign _) ?_
  simp only [pS, pN, pA, pC, pZ]
  refine wl_nil (hK15 _ _ ?_)
  refine wp_seq_k (fun K16 hK16 => ?_)
  obtain ⟨p, hp⟩ : ∃ p, l[k]? = some p := ⟨l[k], List.getElem?_eq_getElem hc9⟩
  have hpp := hk.key p (List.mem_of_getElem? hp)
  obtain ⟨b17, o18, ha19, xa21, xc22, xa25, xc26, c20, c24, r23, r27⟩ := Prs.get hv hp
  refine region_wl ?_
  refine do_ rfl (.func (.func 98) #[] #[(.pointer (some ⟨b, 0, none⟩))]) (ex_move _) ?_
  simp only [pS, pN, pA, pC, pZ]
  refine do_ rfl (.slice a l.length c) (ex_move _) ?_
  simp only [pS, pN, pA, pC, pZ]
  refine do_ rfl (.int .i64 ((k : Nat) : Int)) (ex_move _) ?_
  simp only [pS, pN, pA, pC, pZ]
  refine do_ rfl (.pointer (some ⟨b17, o18 + k * 2, none⟩)) (ex_at (i := k) (sz := 2) Tryd.underlying26 (sizeof_34 _) rfl ha19 rfl (by omega) rfl) ?_
  simp only [pS, pN, pA, pC, pZ]
  refine do_ rfl (.agg #[(.slice xa21 p.1.length xc22), (.slice xa25 p.2.length xc26)]) (ex_load rfl (loadN (cs := [(.slice xa21 p.1.length xc22), (.slice xa25 p.2.length xc26)]) Tryd.underlying34 rfl (size_34) (range2 (St.fz S9 c20) (St.fz S9 c24)))) ?_
  simp only [pS, pN, pA, pC, pZ]
  refine stTells (v := (.bool (bitL p.1 (bitT l)))) S9 rfl (ex_fv (fs := #[]) (cs := #[(.pointer (some ⟨b, 0, none⟩))]) (vs := #[(.agg #[(.slice xa21 p.1.length xc22), (.slice xa25 p.2.length xc26)]), (.pointer (some ⟨b, 0, none⟩))]) rfl (vmap (fs := #[]) (cs := #[(.pointer (some ⟨b, 0, none⟩))]) (xs := #[(.agg #[(.slice xa21 p.1.length xc22), (.slice xa25 p.2.length xc26)])]) (map1 rfl) (by simp)) (ent_98 _ _)) (partedBit_spec _ _ _ p b (bitT l) (S9).sat ⟨_, _, _, _, rfl, r23, r27⟩ hb (bitT_spec hk h2).1 hpp) (fun w28 S29 => ?_)
  simp only [pS, pN, pA, pC, pZ]
  refine wl_nil (hK16 _ _ ?_)
  refine wp_cond_split rfl (fun hc30 => ?_) (fun hc30 => ?_)
  ·refine wp_seq_k (fun K31 hK31 => region_wl ?_)
   refine do_ rfl (.int .i64 ((k : Nat) : Int)) (ex_move _) ?_
   simp only [pS, pN, pA, pC, pZ]
   refine do_ rfl (.int .i64 ((k : Nat) : Int)) (ex_assign _) ?_
   simp only [pS, pN, pA, pC, pZ]
   refine wl_nil (hK31 _ _ ?_)
   refine wp_ret ?_
   (try simp only [Exit.then, Exit.inBlock, ↓reduceIte, Nat.reduceEqDiff])
   refine bodyPost_ret (v := (.int .i64 ((k : Nat) : Int))) ?_ rfl ?_
   ·exact res_t rfl rfl
   ·obtain rfl : (leftN (bitT l) l) = k := leftN_unique (by omega) hlo (fun h => by obtain ⟨_, e⟩ := List.getElem?_eq_some_iff.1 hp; rw [e]; exact hc30)
    exact ⟨rfl, S29.gr.below⟩
  ·refine wp_skip ?_
   refine hK14 _ _ ?_
   refine region_wl ?_
   refine do_ rfl (.int .i64 (((k + 1) : Nat) : Int)) (ex_add (m := ((k : Nat) : Int)) (n := (1 : Int)) (r := (((k + 1) : Nat) : Int)) rfl rfl (by omega) (by omega) (by omega)) ?_
   simp only [pS, pN, pA, pC, pZ]
   refine do_ rfl (.int .i64 (((k + 1) : Nat) : Int)) (ex_move _) ?_
   simp only [pS, pN, pA, pC, pZ]
   refine wl_nil ?_
   exact hK11 _ _ _ (by omega) ⟨(k + 1), _, rfl, rfl, rfl, S29, (by omega), (low_step hlo hp hc30)⟩
 ·refine do_ rfl (.bool false) (ex_lss (m := ((k : Nat) : Int)) (n := ((l.length : Nat) : Int)) (b := false) rfl rfl (decide_eq_false (by omega))) ?_
  simp only [pS, pN, pA, pC, pZ]
  refine wl_nil (hK12 _ _ ?_)
  refine wp_seq_k (fun K32 hK32 => ?_)
  refine wp_cond_false rfl ?_
  refine wp_exit ?_
  refine hK2 _ _ ?_
  refine wp_seq_k (fun K33 hK33 => region_wl ?_)
  refine do_ rfl (.int .i64 (-1)) (ex_assign _) ?_
  simp only [pS, pN, pA, pC, pZ]
  refine wl_nil (hK33 _ _ ?_)
  refine wp_ret ?_
  (try simp only [Exit.then, Exit.inBlock, ↓reduceIte, Nat.reduceEqDiff])
  refine bodyPost_ret (v := (.int .i64 (-1))) ?_ rfl ?_
  ·exact res_t rfl rfl
  ·have := leftN_unique (n := k) (by omega) hlo (fun h => by omega)
   have := (leftN_spec hk h2).2
   omega
theorem ex_makeFuncP {P : Program} {ρ : Operand → Value} {w : World} {d : Option Tmp} {t : TypeId} {pos : String} {after : Array Edge} {guard : Option (Nat × Bool)} {k : FuncId} {x : Operand} {v : Value} (hx : ρ x = v) : (execOp ρ ⟨d, .makeFunc (.func k) #[] #[x], t, pos, after, guard⟩).run P w = .ok (.value (.func (.func k) #[] #[v])) w := by
  subst hx
  simp [execOp, Instr.makeFunc]
set_option maxHeartbeats 8000000 in
theorem partedP_spec (F : Fz) (w : World) (a : Option Addr) (c : Nat) (l : List Pr) (hs : Sat w F) (hv : Prs F (.slice a l.length c) l) (hk : KeysOk l) (h2 : 2 ≤ l.length) (h60 : l.length ≤ 60) :
    Calls Tryd.prog 76 #[.slice a l.length c] w (Tells w (.tuple #[.int .i64 (bitT l : Nat), .slice a (leftN (bitT l) l) c, .slice (if c = (leftN (bitT l) l) then a else a.map (·.add ((leftN (bitT l) l) * 2))) (l.length - (leftN (bitT l) l)) (c - (leftN (bitT l) l))])) := by
 obtain ⟨_, _, e0, hc1, hc2⟩ := Sl.shape hv
 unfold maxLen at hc2
 injection e0 with _ _ e0
 subst e0
 have S := St.start hs
 go_enter Tryd.func76, Tryd.ntmps76
 refine wp_seq_k (fun K1 hK1 => region_wl ?_)
 refine stNew S (v := fun n => .pointer (some ⟨n, 0, none⟩)) rfl (ex_alloc (zero_3 _)) (fun n2 w3 S4 => ?_)
 simp only [pS, pN, pA, pC, pZ]
 have S4 : St w F w3 F [⟨n2, [(.int .i64 0)], 3⟩] [] := S4
 refine do_ rfl (.slice none 0 0) (ex_assign _) ?_
 simp only [pS, pN, pA, pC, pZ]
 refine do_ rfl (.slice none 0 0) (ex_assign _) ?_
 simp only [pS, pN, pA, pC, pZ]
 refine wl_nil (hK1 _ _ ?_)
 refine wp_seq_k (fun K5 hK5 => ?_)
 obtain ⟨p0, hp0⟩ : ∃ p, l[0]? = some p := ⟨l[0], List.getElem?_eq_getElem (by omega)⟩
 obtain ⟨p1, hp1⟩ : ∃ p, l[l.length - 1]? = some p := ⟨l[l.length - 1], List.getElem?_eq_getElem (by omega)⟩
 have hq0 := hk.key p0 (List.mem_of_getElem? hp0)
 have hq1 := hk.key p1 (List.mem_of_getElem? hp1)
 obtain ⟨hb1, hpb, _, _⟩ := bitT_spec hk h2
 rw [(List.getElem?_eq_some_iff.1 hp0).2, (List.getElem?_eq_some_iff.1 hp1).2] at hpb
 have hnl := leftN_le (bitT l) l
 obtain ⟨b6, o7, ha8, xa10, xc11, xa14, xc15, c9, c13, r12, r16⟩ := Prs.get hv hp0
 obtain ⟨b17, o18, ha19, xa21, xc22, xa25, xc26, c20, c24, r23, r27⟩ := Prs.get hv hp1
 have hq_ := ha8.symm.trans ha19; injection hq_ with hq_; injection hq_ with hq1_ hq2_; subst hq1_; subst hq2_
 refine region_late F [0, 1, 2, 3, 4, 5, 6, 7, 8, 9, 10, 11, 12, 13] 14 15 [] [(11, .is (.tuple #[(.int .i64 (((bitT l) : Nat) : Int)), (.int .i64 0)])), (14, .is (.int .i64 0))] (by kernel_rfl) (by kernel_rfl) rfl rfl rfl rfl ?_
 simp only [opsAt, List.getElem?_cons_succ, List.getElem?_cons_zero, List.map_cons, List.map_nil]
 refine gp_pure rfl rfl (.slice a l.length c) (fun w28 hCw28 => pureAt_of (ex_move _)) ?_
 simp only [pS, pN, pA, pC, pZ]
 refine gp_pure rfl rfl (.pointer (some ⟨b6, o7 + 0 * 2, none⟩)) (fun w28 hCw28 => pureAt_of (ex_at (i := 0) (sz := 2) Tryd.underlying26 (sizeof_34 _) rfl ha8 rfl (by omega) rfl)) ?_
 simp only [pS, pN, pA, pC, pZ]
 refine gp_pure rfl rfl (.pointer (some ⟨b6, o7 + 0 * 2, none⟩)) (fun w28 hCw28 => pureAt_of (ex_field (q := ⟨b6, o7 + 0 * 2, none⟩) rfl (fa_34_0 _ _))) ?_
 simp only [pS, pN, pA, pC, pZ]
 refine gp_pure rfl rfl (.slice xa10 p0.1.length xc11) (fun w28 hCw28 => pureAt_of (ex_load rfl (load1 (nagg_23 _) (St.fz (St.tells S4 hCw28) c9)))) ?_
 simp only [pS, pN, pA, pC, pZ]
 refine gp_pure rfl rfl (.slice a l.length c) (fun w28 hCw28 => pureAt_of (ex_move _)) ?_
 simp only [pS, pN, pA, pC, pZ]
 refine gp_pure rfl rfl (.slice a l.length c) (fun w28 hCw28 => pureAt_of (ex_move _)) ?_
 simp only [pS, pN, pA, pC, pZ]
 refine gp_pure rfl rfl (.int .i64 ((l.length : Nat) : Int)) (fun w28 hCw28 => pureAt_of (ex_len Tryd.underlying26 rfl)) ?_
 simp only [pS, pN, pA, pC, pZ]
 refine gp_pure rfl rfl (.int .i64 (((l.length - 1) : Nat) : Int)) (fun w28 hCw28 => pureAt_of (ex_sub (m := ((l.length : Nat) : Int)) (n := (1 : Int)) (r := (((l.length - 1) : Nat) : Int)) rfl rfl (by omega) (by omega) (by omega))) ?_
 simp only [pS, pN, pA, pC, pZ]
 refine gp_pure rfl rfl (.pointer (some ⟨b6, o7 + (l.length - 1) * 2, none⟩)) (fun w28 hCw28 => pureAt_of (ex_at (i := (l.length - 1)) (sz := 2) Tryd.underlying26 (sizeof_34 _) rfl ha8 rfl (by omega) rfl)) ?_
 simp only [pS, pN, pA, pC, pZ]
 refine gp_pure rfl rfl (.pointer (some ⟨b6, o7 + (l.length - 1) * 2, none⟩)) (fun w28 hCw28 => pureAt_of (ex_field (q := ⟨b6, o7 + (l.length - 1) * 2, none⟩) rfl (fa_34_0 _ _))) ?_
 simp only [pS, pN, pA, pC, pZ]
 refine gp_pure rfl rfl (.slice xa21 p1.1.length xc22) (fun w28 hCw28 => pureAt_of (ex_load rfl (load1 (nagg_23 _) (St.fz (St.tells S4 hCw28) c20)))) ?_
 simp only [pS, pN, pA, pC, pZ]
 refine gp_const rfl rfl (v := (.tuple #[(.int .i64 (((bitT l) : Nat) : Int)), (.int .i64 0)])) (fun w28 hCw28 _ => does_call (ex_fn (vs := #[(.slice xa10 p0.1.length xc11), (.slice xa21 p1.1.length xc22)]) (map2 rfl rfl) rfl (ent_96 _ _)) (call_tells (tells_same (part_at ((St.tells S4 hCw28)).sat r12 r23 hpb hq0 hq1)))) ?_
 simp only [pS, pN, pA, pC, pZ]
 refine gp_pure rfl rfl (.tuple #[(.int .i64 (((bitT l) : Nat) : Int)), (.int .i64 0)]) (fun w28 hCw28 => pureAt_of (ex_move _)) ?_
 simp only [pS, pN, pA, pC, pZ]
 refine gp_pure rfl rfl (.int .i64 (((bitT l) : Nat) : Int)) (fun w28 hCw28 => pureAt_of (ex_extract rfl rfl)) ?_
 simp only [pS, pN, pA, pC, pZ]
 refine gp_nil (late_ rfl rfl (v := (.int .i64 0)) (fun w28 hCw28 hF_ => ?_) ?_)
 ·exact fun w1 => pureAt_of (ex_extract rfl rfl)
 intro w32 hC34 hF35
 clear hF35
 have S33 := St.tells S4 hC34
 simp only [pS, pN, pA, pC, pZ]
 refine stLate (i := 0) (v := (.int .i64 (((bitT l) : Nat) : Int))) S33 rfl rfl rfl (size_3) (allc1 rfl) (Nat.le_of_ble_eq_true rfl) (fun w36 S37 => ?_)
 have S37 : St w F w36 F [⟨n2, [(.int .i64 (((bitT l) : Nat) : Int))], 3⟩] [] := S37
 refine wl_nil (hK5 _ _ ?_)
 refine wp_seq_k (fun K38 hK38 => region_wl ?_)
 refine do_ rfl (.slice a l.length c) (ex_move _) ?_
 simp only [pS, pN, pA, pC, pZ]
 refine do_ rfl (.func (.func 98) #[] #[(.pointer (some ⟨n2, 0, none⟩))]) (ex_makeFuncP rfl) ?_
 simp only [pS, pN, pA, pC, pZ]
 obtain ⟨S39, le40, hc41⟩ := St.freezeBlk S37 (i := 0) rfl
 refine stTells (v := (.int .i64 (((leftN (bitT l) l) : Nat) : Int))) S37 rfl (ex_fn (vs := #[(.slice a l.length c), (.func (.func 98) #[] #[(.pointer (some ⟨n2, 0, none⟩))])]) (map2 rfl rfl) rfl (ent_97 _ _)) (partedIdx_spec _ _ _ l _ (S39).sat (hv.mono le40) (hc41 0 _ rfl) hk h2 h60) (fun w42 S43 => ?_)
 simp only [pS, pN, pA, pC, pZ]
 refine do_ rfl (.int .i64 (((leftN (bitT l) l) : Nat) : Int)) (ex_assign _) ?_
 simp only [pS, pN, pA, pC, pZ]
 refine wl_nil (hK38 _ _ ?_)
 refine wp_seq_k (fun K44 hK44 => ?_)
 refine region_hl S43 (by kernel_rfl) (fun w46 S45 => ?_)
 refine hl_take 1 rfl (by kernel_rfl) (v := (.slice a l.length c)) (fun _ _ _ h => h) S45.sat rfl (fun w47 hs48 => ex_move _) ?_
 simp only [pS, pN, pA, pC, pZ]
 refine hl_take 2 rfl (by kernel_rfl) (v := (.int .i64 (((leftN (bitT l) l) : Nat) : Int))) (fun _ _ _ h => h) S45.sat rfl (fun w49 hs50 => ex_move _) ?_
 simp only [pS, pN, pA, pC, pZ]
 refine hl_take 3 rfl (by kernel_rfl) (v := (.slice a (leftN (bitT l) l) c)) (fun _ _ _ h => h) S45.sat rfl (fun w51 hs52 => ex_slice (l := 0) (h := (leftN (bitT l) l)) (sz := 2) Tryd.underlying26 rfl (sizeof_34 _) (.inl ⟨rfl, rfl⟩) (.inr ⟨_, rfl, rfl⟩) (by omega) (by omega) (slice_zero)) ?_
 simp only [pS, pN, pA, pC, pZ]
 refine hl_take 4 rfl (by kernel_rfl) (v := (.slice a l.length c)) (fun _ _ _ h => h) S45.sat rfl (fun w53 hs54 => ex_move _) ?_
 simp only [pS, pN, pA, pC, pZ]
 refine hl_take 5 rfl (by kernel_rfl) (v := (.int .i64 (((leftN (bitT l) l) : Nat) : Int))) (fun _ _ _ h => h) S45.sat rfl (fun w55 hs56 => ex_move _) ?_
 simp only [pS, pN, pA, pC, pZ]
 refine hl_take 6 rfl (by kernel_rfl) (v := (.slice (if c = (leftN (bitT l) l) then a else a.map (·.add ((leftN (bitT l) l) * 2))) (l.length - (leftN (bitT l) l)) (c - (leftN (bitT l) l)))) (fun _ _ _ h => h) S45.sat rfl (fun w57 hs58 => ex_slice (l := (leftN (bitT l) l)) (h := l.length) (sz := 2) Tryd.underlying26 rfl (sizeof_34 _) (.inr ⟨_, rfl, rfl⟩) (.inl ⟨rfl, rfl⟩) (by omega) (by omega) (rfl)) ?_
 simp only [pS, pN, pA, pC, pZ]
 refine hl_next 0 (by kernel_rfl) rfl ?_
 refine do_ rfl (.int .i64 (((bitT l) : Nat) : Int)) (ex_load rfl (load1 (nagg_3 _) (St.cell S45 (i := 0) rfl rfl))) ?_
 simp only [pS, pN, pA, pC, pZ]
 refine wl_nil (hl_back S45.sat ?_)
 refine hl_next 7 (by kernel_rfl) rfl ?_
 refine stStore (i := 0) (v := (.int .i64 (((bitT l) : Nat) : Int))) S45 rfl rfl rfl rfl (size_3) (allc1 rfl) (Nat.le_of_ble_eq_true rfl) (fun w59 S60 => ?_)
 simp only [pS, pN, pA, pC, pZ]
 have S60 : St w F w59 F [⟨n2, [(.int .i64 (((bitT l) : Nat) : Int))], 3⟩] [] := S60
 refine wl_nil (hl_back S60.sat ?_)
 refine hl_take 8 rfl (by kernel_rfl) (v := (.slice a (leftN (bitT l) l) c)) (fun _ _ _ h => h) S60.sat rfl (fun w61 hs62 => ex_assign _) ?_
 simp only [pS, pN, pA, pC, pZ]
 refine hl_take 9 rfl (by kernel_rfl) (v := (.slice (if c = (leftN (bitT l) l) then a else a.map (·.add ((leftN (bitT l) l) * 2))) (l.length - (leftN (bitT l) l)) (c - (leftN (bitT l) l)))) (fun _ _ _ h => h) S60.sat rfl (fun w63 hs64 => ex_assign _) ?_
 simp only [pS, pN, pA, pC, pZ]
 refine hl_done (by kernel_rfl) ?_
 refine hK44 _ _ ?_
 refine wp_ret ?_
 (try simp only [Exit.then, Exit.inBlock, ↓reduceIte, Nat.reduceEqDiff])
 refine bodyPost_ret (v := (.tuple #[(.int .i64 (((bitT l) : Nat) : Int)), (.slice a (leftN (bitT l) l) c), (.slice (if c = (leftN (bitT l) l) then a else a.map (·.add ((leftN (bitT l) l) * 2))) (l.length - (leftN (bitT l) l)) (c - (leftN (bitT l) l)))])) ?_ rfl ?_
 ·exact res_ctt rfl ⟨_, rfl, load1 (nagg_3 _) (St.cell S60 (i := 0) rfl rfl)⟩ rfl rfl
 ·exact ⟨rfl, S60.gr.below⟩
end Go.Proofs.YtikklmjengkliaaDoor
namespace Go.Proofs.YtikklmjengkliaaDoor
open Go.RowKit
set_option maxRecDepth 100000
set_option linter.unusedVariables false
set_option linter.unusedSimpArgs false
theorem sub_ok {n : Nat} {l m : List Pr} (h : TreeOk n l) (hs : m.Sublist l) : TreeOk n m := ⟨Nat.le_trans hs.length_le h.len, fun p hp => h.ok p (hs.subset hp), h.rise.sublist hs⟩
theorem partedP2_spec (F : Fz) (w : World) (a : Option Addr) (c : Nat) (l : List Pr) (hs : Sat w F) (hv : Prs F (.slice a l.length c) l) (hk : KeysOk l) (h2 : 2 ≤ l.length) (h60 : l.length ≤ 60) :
    Calls Tryd.prog 76 #[.slice a l.length c] w (Tells w (.tuple #[.int .i64 (bitT l : Nat), .slice a (l.take (leftN (bitT l) l)).length c, .slice (if c = (leftN (bitT l) l) then a else a.map (·.add ((leftN (bitT l) l) * 2))) (l.drop (leftN (bitT l) l)).length (c - (leftN (bitT l) l))])) := by
  have := partedP_spec F w a c l hs hv hk h2 h60
  have hn := leftN_le (bitT l) l
  rw [List.length_take, Nat.min_eq_left hn, List.length_drop]
  exact this
theorem steps_step {n : Nat} {cur : List Pr} {k : By} {ss : List Stp} {R : List Stp × Pr} (h : (ss ++ (stepsN (n + 1) cur k).1, (stepsN (n + 1) cur k).2) = R) (h2 : 2 ≤ cur.length) (b : Bool) (hb : bitL k (bitT cur) = b) :
    ((ss ++ [(⟨bitT cur, bitL k (bitT cur), rootT (sideT (bitT cur) (!b) cur)⟩ : Stp)]) ++ (stepsN n (sideT (bitT cur) b cur) k).1, (stepsN n (sideT (bitT cur) b cur) k).2) = R := by
  rw [← h]
  unfold stepsN
  rw [if_neg (by omega), hb]
  simp only [List.append_assoc, List.cons_append, List.nil_append]
  cases n <;> rfl
theorem steps_end {n : Nat} {cur : List Pr} {k : By} {ss : List Stp} {R : List Stp × Pr} {p : Pr} (h : (ss ++ (stepsN n cur k).1, (stepsN n cur k).2) = R) (h1 : cur.length ≤ 1) (hp : cur[0]? = some p) : R = (ss, p) := by
  rw [← h]
  match cur, hp with
  | q :: l, hp =>
    simp only [List.getElem?_cons_zero, Option.some.injEq] at hp
    subst hp
    cases n with
    | zero => simp [stepsN]
    | succ n => unfold stepsN; rw [if_pos h1]; simp
set_option maxHeartbeats 8000000 in
theorem proveNil_spec (F : Fz) (w : World) (v u : Value) (l : List Pr) (k : By) (hs : Sat w F) (hT : Tabs w) (hv : Prs F v l) (hu : Bs F u k) (ok : TreeOk 60 l) (hk : 1 ≤ k.length ∧ k.length ≤ 16) (hz : l.length = 0) :
    Calls Tryd.prog 49 #[v, u] w (GivesPrf w F (proveT l k)) := by
 obtain ⟨a, c, rfl, hc1, hc2⟩ := Sl.shape hv
 obtain ⟨ka, kc, rfl, hk1, hk2⟩ := hu.shape
 unfold maxLen at hc2 hk2
 have S := St.start hs
 have h60 := ok.len
 obtain ⟨i127, hi127, hz127, hs127, hb127⟩ := info_parts info_127
 go_enter Tryd.func49, Tryd.ntmps49
 refine wp_seq_k (fun K1 hK1 => region_wl ?_)
 refine stNew S (v := fun n => .pointer (some ⟨n, 0, none⟩)) rfl (ex_alloc (zero_49 _)) (fun n2 w3 S4 => ?_)
 simp only [pS, pN, pA, pC, pZ]
 have S4 : St w F w3 F [⟨n2, [(.bool false), (.slice none 0 0), (.slice none 0 0), (.slice none 0 0)], 49⟩] [] := S4
 refine do_ rfl (.int .i64 0) (ex_assign _) ?_
 simp only [pS, pN, pA, pC, pZ]
 refine wl_nil (hK1 _ _ ?_)
 refine wp_seq_k (fun K5 hK5 => ?_)
 refine wp_seq_k (fun K6 hK6 => region_wl ?_)
 refine do_ rfl (.slice a l.length c) (ex_move _) ?_
 simp only [pS, pN, pA, pC, pZ]
 refine do_ rfl (.slice ka k.length kc) (ex_move _) ?_
 simp only [pS, pN, pA, pC, pZ]
 refine stGives S4 rfl (ex_fn (vs := #[(.slice a l.length c), (.slice ka k.length kc)]) (map2 rfl rfl) rfl (ent_53 _ _)) (get_spec _ _ _ _ l k (S4).sat hv hu ok hk.1 hk.2) ?_
 intro v12 w7 F9 S8 le10 R11
 obtain ⟨_, rfl, a13, c14, rfl, r15⟩ := R11
 simp only [pS, pN, pA, pC, pZ]
 refine do_ rfl (.tuple #[(.agg #[(.bool (getT l k).isSome), (.slice a13 ((getT l k).getD []).length c14)]), (.int .i64 0)]) (ex_move _) ?_
 simp only [pS, pN, pA, pC, pZ]
 refine do_ rfl (.agg #[(.bool (getT l k).isSome), (.slice a13 ((getT l k).getD []).length c14)]) (ex_extract rfl rfl) ?_
 simp only [pS, pN, pA, pC, pZ]
 refine do_ rfl (.int .i64 0) (ex_extract rfl rfl) ?_
 simp only [pS, pN, pA, pC, pZ]
 refine stNew S8 (v := fun n => .pointer (some ⟨n, 0, none⟩)) rfl (ex_alloc (zero_53 _)) (fun n16 w17 S18 => ?_)
 simp only [pS, pN, pA, pC, pZ]
 have S18 : St w F w17 F9 [⟨n16, [(.bool false), (.slice none 0 0)], 53⟩, ⟨n2, [(.bool false), (.slice none 0 0), (.slice none 0 0), (.slice none 0 0)], 49⟩] [] := S18
 refine stStore (i := 0) (v := (.agg #[(.bool (getT l k).isSome), (.slice a13 ((getT l k).getD []).length c14)])) S18 rfl rfl rfl rfl (size_53) (allc2 rfl rfl) (Nat.le_of_ble_eq_true rfl) (fun w19 S20 => ?_)
 simp only [pS, pN, pA, pC, pZ]
 have S20 : St w F w19 F9 [⟨n16, [(.bool (getT l k).isSome), (.slice a13 ((getT l k).getD []).length c14)], 53⟩, ⟨n2, [(.bool false), (.slice none 0 0), (.slice none 0 0), (.slice none 0 0)], 49⟩] [] := S20
 refine do_ rfl (.int .i64 0) (ex_assign _) ?_
 simp only [pS, pN, pA, pC, pZ]
 refine wl_nil (hK6 _ _ ?_)
 refine wp_seq_k (fun K21 hK21 => region_wl ?_)
 refine do_ rfl (.int .i64 0) (ex_move _) ?_
 simp only [pS, pN, pA, pC, pZ]
 refine do_ rfl (.bool false) (ex_neq (m := (0 : Int)) (n := (0 : Int)) (b := false) rfl rfl (bne_eq_false_iff_eq.2 (by omega))) ?_
 simp only [pS, pN, pA, pC, pZ]
 refine wl_nil (hK21 _ _ ?_)
 refine wp_cond_false rfl ?_
 refine wp_skip ?_
 refine hK5 _ _ ?_
 refine wp_seq_k (fun K22 hK22 => ?_)
 refine wp_seq_k (fun K23 hK23 => region_wl ?_)
 refine do_ rfl (.slice a l.length c) (ex_move _) ?_
 simp only [pS, pN, pA, pC, pZ]
 refine do_ rfl (.int .i64 ((l.length : Nat) : Int)) (ex_len Tryd.underlying26 rfl) ?_
 simp only [pS, pN, pA, pC, pZ]
 refine do_ rfl (.bool true) (ex_eql (m := ((l.length : Nat) : Int)) (n := (0 : Int)) (b := true) rfl rfl (beq_iff_eq.2 (by omega))) ?_
 simp only [pS, pN, pA, pC, pZ]
 refine wl_nil (hK23 _ _ ?_)
 refine wp_cond_true rfl ?_
 refine wp_seq_k (fun K24 hK24 => region_wl ?_)
 refine do_ rfl (.agg #[(.bool true), (.slice none 0 0), (.slice none 0 0), (.slice none 0 0)]) (ex_build (ps := #[(0, (.bool true))]) (bmap1 rfl) (by kernel_rfl)) ?_
 simp only [pS, pN, pA, pC, pZ]
 refine stStore (i := 1) (v := (.agg #[(.bool true), (.slice none 0 0), (.slice none 0 0), (.slice none 0 0)])) S20 rfl rfl rfl rfl (size_49) (allc4 rfl rfl rfl rfl) (Nat.le_of_ble_eq_true rfl) (fun w25 S26 => ?_)
 simp only [pS, pN, pA, pC, pZ]
 have S26 : St w F w25 F9 [⟨n16, [(.bool (getT l k).isSome), (.slice a13 ((getT l k).getD []).length c14)], 53⟩, ⟨n2, [(.bool true), (.slice none 0 0), (.slice none 0 0), (.slice none 0 0)], 49⟩] [] := S26
 refine do_ rfl (.int .i64 0) (ex_assign _) ?_
 simp only [pS, pN, pA, pC, pZ]
 refine wl_nil (hK24 _ _ ?_)
 refine wp_ret ?_
 (try simp only [Exit.then, Exit.inBlock, ↓reduceIte, Nat.reduceEqDiff])
 refine bodyPost_ret (v := (.tuple #[(.agg #[(.bool true), (.slice none 0 0), (.slice none 0 0), (.slice none 0 0)]), (.int .i64 0)])) ?_ rfl ?_
 ·exact res_ct rfl ⟨_, rfl, loadN (cs := [(.bool true), (.slice none 0 0), (.slice none 0 0), (.slice none 0 0)]) Tryd.underlying49 rfl (size_49) (St.range S26 (i := 1) rfl 0 [(.bool true), (.slice none 0 0), (.slice none 0 0), (.slice none 0 0)] (sub_range 0 rfl))⟩ rfl
 ·have hn : l = [] := List.eq_nil_of_length_eq_zero hz
  have hp : proveT l k = ⟨true, [], ([], [])⟩ := by rw [hn]; rfl
  rw [hp]
  exact ⟨_, _, _, _, _, _, rfl, S26.gr, Own.nil _ _, Bs.nil _, Bs.nil _⟩
set_option maxHeartbeats 8000000 in
theorem proveOk_spec (F : Fz) (w : World) (v u : Value) (l : List Pr) (k : By) (hs : Sat w F) (hT : Tabs w) (hv : Prs F v l) (hu : Bs F u k) (ok : TreeOk 60 l) (hk : 1 ≤ k.length ∧ k.length ≤ 16) (hz : 1 ≤ l.length) :
    Calls Tryd.prog 49 #[v, u] w (GivesPrf w F (proveT l k)) := by
 obtain ⟨a, c, rfl, hc1, hc2⟩ := Sl.shape hv
 obtain ⟨ka, kc, rfl, hk1, hk2⟩ := hu.shape
 unfold maxLen at hc2 hk2
 have S := St.start hs
 have h60 := ok.len
 obtain ⟨i127, hi127, hz127, hs127, hb127⟩ := info_parts info_127
 go_enter Tryd.func49, Tryd.ntmps49
 refine wp_seq_k (fun K1 hK1 => region_wl ?_)
 refine stNew S (v := fun n => .pointer (some ⟨n, 0, none⟩)) rfl (ex_alloc (zero_49 _)) (fun n2 w3 S4 => ?_)
 simp only [pS, pN, pA, pC, pZ]
 have S4 : St w F w3 F [⟨n2, [(.bool false), (.slice none 0 0), (.slice none 0 0), (.slice none 0 0)], 49⟩] [] := S4
 refine do_ rfl (.int .i64 0) (ex_assign _) ?_
 simp only [pS, pN, pA, pC, pZ]
 refine wl_nil (hK1 _ _ ?_)
 refine wp_seq_k (fun K5 hK5 => ?_)
 refine wp_seq_k (fun K6 hK6 => region_wl ?_)
 refine do_ rfl (.slice a l.length c) (ex_move _) ?_
 simp only [pS, pN, pA, pC, pZ]
 refine do_ rfl (.slice ka k.length kc) (ex_move _) ?_
 simp only [pS, pN, pA, pC, pZ]
 refine stGives S4 rfl (ex_fn (vs := #[(.slice a l.length c), (.slice ka k.length kc)]) (map2 rfl rfl) rfl (ent_53 _ _)) (get_spec _ _ _ _ l k (S4).sat hv hu ok hk.1 hk.2) ?_
 intro v12 w7 F9 S8 le10 R11
 obtain ⟨_, rfl, a13, c14, rfl, r15⟩ := R11
 simp only [pS, pN, pA, pC, pZ]
 refine do_ rfl (.tuple #[(.agg #[(.bool (getT l k).isSome), (.slice a13 ((getT l k).getD []).length c14)]), (.int .i64 0)]) (ex_move _) ?_
 simp only [pS, pN, pA, pC, pZ]
 refine do_ rfl (.agg #[(.bool (getT l k).isSome), (.slice a13 ((getT l k).getD []).length c14)]) (ex_extract rfl rfl) ?_
 simp only [pS, pN, pA, pC, pZ]
 refine do_ rfl (.int .i64 0) (ex_extract rfl rfl) ?_
 simp only [pS, pN, pA, pC, pZ]
 refine stNew S8 (v := fun n => .pointer (some ⟨n, 0, none⟩)) rfl (ex_alloc (zero_53 _)) (fun n16 w17 S18 => ?_)
 simp only [pS, pN, pA, pC, pZ]
 have S18 : St w F w17 F9 [⟨n16, [(.bool false), (.slice none 0 0)], 53⟩, ⟨n2, [(.bool false), (.slice none 0 0), (.slice none 0 0), (.slice none 0 0)], 49⟩] [] := S18
 refine stStore (i := 0) (v := (.agg #[(.bool (getT l k).isSome), (.slice a13 ((getT l k).getD []).length c14)])) S18 rfl rfl rfl rfl (size_53) (allc2 rfl rfl) (Nat.le_of_ble_eq_true rfl) (fun w19 S20 => ?_)
 simp only [pS, pN, pA, pC, pZ]
 have S20 : St w F w19 F9 [⟨n16, [(.bool (getT l k).isSome), (.slice a13 ((getT l k).getD []).length c14)], 53⟩, ⟨n2, [(.bool false), (.slice none 0 0), (.slice none 0 0), (.slice none 0 0)], 49⟩] [] := S20
 refine do_ rfl (.int .i64 0) (ex_assign _) ?_
 simp only [pS, pN, pA, pC, pZ]
 refine wl_nil (hK6 _ _ ?_)
 refine wp_seq_k (fun K21 hK21 => region_wl ?_)
 refine do_ rfl (.int .i64 0) (ex_move _) ?_
 simp only [pS, pN, pA, pC, pZ]
 refine do_ rfl (.bool false) (ex_neq (m := (0 : Int)) (n := (0 : Int)) (b := false) rfl rfl (bne_eq_false_iff_eq.2 (by omega))) ?_
 simp only [pS, pN, pA, pC, pZ]
 refine wl_nil (hK21 _ _ ?_)
 refine wp_cond_false rfl ?_
 refine wp_skip ?_
 refine hK5 _ _ ?_
 refine wp_seq_k (fun K22 hK22 => ?_)
 refine wp_seq_k (fun K23 hK23 => region_wl ?_)
 refine do_ rfl (.slice a l.length c) (ex_move _) ?_
 simp only [pS, pN, pA, pC, pZ]
 refine do_ rfl (.int .i64 ((l.length : Nat) : Int)) (ex_len Tryd.underlying26 rfl) ?_
 simp only [pS, pN, pA, pC, pZ]
 refine do_ rfl (.bool false) (ex_eql (m := ((l.length : Nat) : Int)) (n := (0 : Int)) (b := false) rfl rfl (beq_eq_false_iff_ne.2 (by omega))) ?_
 simp only [pS, pN, pA, pC, pZ]
 refine wl_nil (hK23 _ _ ?_)
 refine wp_cond_false rfl ?_
 refine wp_skip ?_
 refine hK22 _ _ ?_
 refine wp_seq_k (fun K24 hK24 => region_wl ?_)
 refine stNew S20 (v := fun n => .pointer (some ⟨n, 0, none⟩)) rfl (ex_alloc (zero_49 _)) (fun n25 w26 S27 => ?_)
 simp only [pS, pN, pA, pC, pZ]
 have S27 : St w F w26 F9 [⟨n25, [(.bool false), (.slice none 0 0), (.slice none 0 0), (.slice none 0 0)], 49⟩, ⟨n16, [(.bool (getT l k).isSome), (.slice a13 ((getT l k).getD []).length c14)], 53⟩, ⟨n2, [(.bool false), (.slice none 0 0), (.slice none 0 0), (.slice none 0 0)], 49⟩] [] := S27
 refine wl_nil (hK24 _ _ ?_)
 refine wp_seq_k (fun K28 hK28 => ?_)
 refine wp_block ?_
 have S29 := St.addNil S27 3 StpC StpC.mono 127 w.heap.size
 refine wp_loop_g (fun mm aa w32 => ∃ (n : Nat) (cur : List Pr) (xa : Option Addr) (xc : Nat) (sv : Value) (ss : List Stp) (F30 : Fz) (u31 : Nat → Value), mm = cur.length ∧ u31 = slots aa ∧ aa = ⟨#[(.slice xa cur.length xc), (.slice ka k.length kc), undef, undef, (.pointer (some ⟨n2, 0, none⟩)), (.int .i64 0), (.pointer (some ⟨n16, 0, none⟩)), (.int .i64 0), (.pointer (some ⟨n25, 0, none⟩)), (u31 9), (u31 10), (u31 11), (u31 12), (.tuple #[(.agg #[(.bool (getT l k).isSome), (.slice a13 ((getT l k).getD []).length c14)]), (.int .i64 0)]), (.slice a l.length c), (.slice ka k.length kc), (.tuple #[(.agg #[(.bool (getT l k).isSome), (.slice a13 ((getT l k).getD []).length c14)]), (.int .i64 0)]), (.agg #[(.bool (getT l k).isSome), (.slice a13 ((getT l k).getD []).length c14)]), (.int .i64 0), (.int .i64 0), (.bool false), undef, undef, (.slice a l.length c), (.int .i64 ((l.length : Nat) : Int)), (.bool false), undef, (u31 27), (u31 28), (u31 29), (u31 30), (u31 31), (u31 32), (u31 33), (u31 34), (u31 35), (u31 36), (u31 37), (u31 38), (u31 39), (u31 40), (u31 41), (u31 42), (u31 43), (u31 44), (u31 45), (u31 46), (u31 47), (u31 48), (u31 49), (u31 50), (u31 51), (u31 52), (u31 53), (u31 54), (u31 55), (u31 56), (u31 57), (u31 58), (u31 59), (u31 60), (u31 61), undef, undef, undef, undef, undef, undef], []⟩ ∧ St w F w32 F30 [⟨n25, [(.bool false), sv, (.slice none 0 0), (.slice none 0 0)], 49⟩, ⟨n16, [(.bool (getT l k).isSome), (.slice a13 ((getT l k).getD []).length c14)], 53⟩, ⟨n2, [(.bool false), (.slice none 0 0), (.slice none 0 0), (.slice none 0 0)], 49⟩] [ownP 3 StpC StpC.mono 127 w.heap.size sv ss] ∧ Le F9 F30 ∧ (Prs F30 (.slice xa cur.length xc) cur) ∧ (TreeOk 60 cur) ∧ (1 ≤ cur.length) ∧ (cur.length ≤ n + 1) ∧ ((ss ++ (stepsN n cur k).1, (stepsN n cur k).2) = stepsN l.length l k) ∧ (ss.length + cur.length ≤ l.length)) _ ⟨l.length, l, a, c, (.slice none 0 0), [], F9, _, rfl, rfl, rfl, S29, Le.refl _, (hv.mono le10), ok, (by omega), (by omega), rfl, (by simp)⟩ ?_
 rintro m33 a34 w35 ⟨n, cur, xa, xc, sv, ss, F30, u31, rfl, -, rfl, S36, le37, hcur, okc, hc1_, hfu, hst, hsl⟩ K38 hK38
 refine wp_seq_k (fun K39 hK39 => ?_)
 refine wp_seq_k (fun K40 hK40 => region_wl ?_)
 refine do_ rfl (.slice xa cur.length xc) (ex_move _) ?_
 simp only [pS, pN, pA, pC, pZ]
 refine do_ rfl (.int .i64 ((cur.length : Nat) : Int)) (ex_len Tryd.underlying26 rfl) ?_
 simp only [pS, pN, pA, pC, pZ]
 by_cases hc29 : 1 < cur.length
 ·refine do_ rfl (.bool true) (ex_gtr (m := ((cur.length : Nat) : Int)) (n := (1 : Int)) (b := true) rfl rfl (decide_eq_true (by omega))) ?_
  simp only [pS, pN, pA, pC, pZ]
  refine wl_nil (hK40 _ _ ?_)
  refine wp_cond_true rfl ?_
  refine wp_skip ?_
  refine hK39 _ _ ?_
  refine wp_block ?_
  refine wp_seq_k (fun K41 hK41 => ?_)
  have hn2 := leftN_spec okc.keys (show 2 ≤ cur.length by omega)
  have hb145 := (bitT_spec okc.keys (show 2 ≤ cur.length by omega)).1
  have hlt1 : (cur.take (leftN (bitT cur) cur)).length = (leftN (bitT cur) cur) := by rw [List.length_take]; omega
  have hlt2 : (cur.drop (leftN (bitT cur) cur)).length = cur.length - (leftN (bitT cur) cur) := List.length_drop
  obtain ⟨n', rfl⟩ : ∃ m, n = m + 1 := ⟨n - 1, by omega⟩
  have h60c := okc.len
  refine region_wl ?_
  refine do_ rfl (.slice xa cur.length xc) (ex_move _) ?_
  simp only [pS, pN, pA, pC, pZ]
  have hcl : Prs F30 (.slice xa (cur.take (leftN (bitT cur) cur)).length xc) (cur.take (leftN (bitT cur) cur)) := by rw [hlt1]; exact Sl.takeN hcur (by omega)
  have hcr : Prs F30 (.slice (if xc = (leftN (bitT cur) cur) then xa else xa.map (·.add ((leftN (bitT cur) cur) * 2))) (cur.drop (leftN (bitT cur) cur)).length (xc - (leftN (bitT cur) cur))) (cur.drop (leftN (bitT cur) cur)) := by rw [hlt2]; exact Sl.dropD (by decide) hcur (by omega)
  refine stTells (v := (.tuple #[(.int .i64 (((bitT cur) : Nat) : Int)), (.slice xa (cur.take (leftN (bitT cur) cur)).length xc), (.slice (if xc = (leftN (bitT cur) cur) then xa else xa.map (·.add ((leftN (bitT cur) cur) * 2))) (cur.drop (leftN (bitT cur) cur)).length (xc - (leftN (bitT cur) cur)))])) S36 rfl (ex_fn (vs := #[(.slice xa cur.length xc)]) (map1 rfl) rfl (ent_76 _ _)) (partedP2_spec _ _ _ _ cur (S36).sat hcur okc.keys (by omega) (by omega)) (fun w42 S43 => ?_)
  simp only [pS, pN, pA, pC, pZ]
  refine do_ rfl (.tuple #[(.int .i64 (((bitT cur) : Nat) : Int)), (.slice xa (cur.take (leftN (bitT cur) cur)).length xc), (.slice (if xc = (leftN (bitT cur) cur) then xa else xa.map (·.add ((leftN (bitT cur) cur) * 2))) (cur.drop (leftN (bitT cur) cur)).length (xc - (leftN (bitT cur) cur)))]) (ex_move _) ?_
  simp only [pS, pN, pA, pC, pZ]
  refine do_ rfl (.int .i64 (((bitT cur) : Nat) : Int)) (ex_extract rfl rfl) ?_
  simp only [pS, pN, pA, pC, pZ]
  refine do_ rfl (.slice xa (cur.take (leftN (bitT cur) cur)).length xc) (ex_extract rfl rfl) ?_
  simp only [pS, pN, pA, pC, pZ]
  refine do_ rfl (.slice (if xc = (leftN (bitT cur) cur) then xa else xa.map (·.add ((leftN (bitT cur) cur) * 2))) (cur.drop (leftN (bitT cur) cur)).length (xc - (leftN (bitT cur) cur))) (ex_extract rfl rfl) ?_
  simp only [pS, pN, pA, pC, pZ]
  refine do_ rfl (.int .i64 (((bitT cur) : Nat) : Int)) (ex_assign _) ?_
  simp only [pS, pN, pA, pC, pZ]
  refine do_ rfl (.slice xa (cur.take (leftN (bitT cur) cur)).length xc) (ex_assign _) ?_
  simp only [pS, pN, pA, pC, pZ]
  refine do_ rfl (.slice (if xc = (leftN (bitT cur) cur) then xa else xa.map (·.add ((leftN (bitT cur) cur) * 2))) (cur.drop (leftN (bitT cur) cur)).length (xc - (leftN (bitT cur) cur))) (ex_assign _) ?_
  simp only [pS, pN, pA, pC, pZ]
  refine wl_nil (hK41 _ _ ?_)
  refine wp_seq_k (fun K44 hK44 => region_wl ?_)
  refine do_ rfl (.int .i64 (((bitT cur) : Nat) : Int)) (ex_move _) ?_
  simp only [pS, pN, pA, pC, pZ]
  refine do_ rfl (.agg #[(.int .i64 (((bitT cur) : Nat) : Int)), (.bool false), (.slice none 0 0)]) (ex_build (ps := #[(0, (.int .i64 (((bitT cur) : Nat) : Int)))]) (bmap1 rfl) (by kernel_rfl)) ?_
  simp only [pS, pN, pA, pC, pZ]
  refine stNew S43 (v := fun n => .pointer (some ⟨n, 0, none⟩)) rfl (ex_alloc (zero_127 _)) (fun n45 w46 S47 => ?_)
  simp only [pS, pN, pA, pC, pZ]
  have S47 : St w F w46 F30 [⟨n45, [(.int .i64 0), (.bool false), (.slice none 0 0)], 127⟩, ⟨n25, [(.bool false), sv, (.slice none 0 0), (.slice none 0 0)], 49⟩, ⟨n16, [(.bool (getT l k).isSome), (.slice a13 ((getT l k).getD []).length c14)], 53⟩, ⟨n2, [(.bool false), (.slice none 0 0), (.slice none 0 0), (.slice none 0 0)], 49⟩] [ownP 3 StpC StpC.mono 127 w.heap.size sv ss] := S47
  refine stStore (i := 0) (v := (.agg #[(.int .i64 (((bitT cur) : Nat) : Int)), (.bool false), (.slice none 0 0)])) S47 rfl rfl rfl rfl (size_127) (allc3 rfl rfl rfl) (Nat.le_of_ble_eq_true rfl) (fun w48 S49 => ?_)
  simp only [pS, pN, pA, pC, pZ]
  have S49 : St w F w48 F30 [⟨n45, [(.int .i64 (((bitT cur) : Nat) : Int)), (.bool false), (.slice none 0 0)], 127⟩, ⟨n25, [(.bool false), sv, (.slice none 0 0), (.slice none 0 0)], 49⟩, ⟨n16, [(.bool (getT l k).isSome), (.slice a13 ((getT l k).getD []).length c14)], 53⟩, ⟨n2, [(.bool false), (.slice none 0 0), (.slice none 0 0), (.slice none 0 0)], 49⟩] [ownP 3 StpC StpC.mono 127 w.heap.size sv ss] := S49
  refine wl_nil (hK44 _ _ ?_)
  refine wp_seq_k (fun K50 hK50 => region_wl ?_)
  refine do_ rfl (.slice ka k.length kc) (ex_move _) ?_
  simp only [pS, pN, pA, pC, pZ]
  refine do_ rfl (.int .i64 (((bitT cur) : Nat) : Int)) (ex_move _) ?_
  simp only [pS, pN, pA, pC, pZ]
  refine stTells (v := (.tuple #[(.bool (bitL k (bitT cur))), (.int .i64 0)])) S49 rfl (ex_fn (vs := #[(.slice ka k.length kc), (.int .i64 (((bitT cur) : Nat) : Int))]) (map2 rfl rfl) rfl (ent_77 _ _)) (tells_same (bitE_spec _ _ _ k _ (S49).sat (hu.mono (le10.trans le37)) hk.1 hk.2 (by omega) (by omega))) (fun w51 S52 => ?_)
  simp only [pS, pN, pA, pC, pZ]
  refine do_ rfl (.tuple #[(.bool (bitL k (bitT cur))), (.int .i64 0)]) (ex_move _) ?_
  simp only [pS, pN, pA, pC, pZ]
  refine do_ rfl (.bool (bitL k (bitT cur))) (ex_extract rfl rfl) ?_
  simp only [pS, pN, pA, pC, pZ]
  refine do_ rfl (.int .i64 0) (ex_extract rfl rfl) ?_
  simp only [pS, pN, pA, pC, pZ]
  refine do_ rfl (.pointer (some ⟨n45, 1, none⟩)) (ex_field (q := ⟨n45, 1, none⟩) rfl (fa_127_1 _ _)) ?_
  simp only [pS, pN, pA, pC, pZ]
  refine stStore (i := 0) (v := (.bool (bitL k (bitT cur)))) S52 rfl rfl rfl rfl (size_4) (allc1 rfl) (Nat.le_of_ble_eq_true rfl) (fun w53 S54 => ?_)
  simp only [pS, pN, pA, pC, pZ]
  have S54 : St w F w53 F30 [⟨n45, [(.int .i64 (((bitT cur) : Nat) : Int)), (.bool (bitL k (bitT cur))), (.slice none 0 0)], 127⟩, ⟨n25, [(.bool false), sv, (.slice none 0 0), (.slice none 0 0)], 49⟩, ⟨n16, [(.bool (getT l k).isSome), (.slice a13 ((getT l k).getD []).length c14)], 53⟩, ⟨n2, [(.bool false), (.slice none 0 0), (.slice none 0 0), (.slice none 0 0)], 49⟩] [ownP 3 StpC StpC.mono 127 w.heap.size sv ss] := S54
  refine wl_nil (hK50 _ _ ?_)
  refine wp_seq_k (fun K55 hK55 => ?_)
  refine wp_seq_k (fun K56 hK56 => region_wl ?_)
  refine do_ rfl (.pointer (some ⟨n45, 1, none⟩)) (ex_field (q := ⟨n45, 1, none⟩) rfl (fa_127_1 _ _)) ?_
  simp only [pS, pN, pA, pC, pZ]
  refine do_ rfl (.bool (bitL k (bitT cur))) (ex_load rfl (load1 (nagg_4 _) (St.cell S54 (i := 0) rfl rfl))) ?_
  simp only [pS, pN, pA, pC, pZ]
  refine wl_nil (hK56 _ _ ?_)
  refine wp_cond_split rfl (fun hc57 => ?_) (fun hc57 => ?_)
  ·have hb : bitL k (bitT cur) = true := hc57
   refine region_wl ?_
   refine do_ rfl (.slice (if xc = (leftN (bitT cur) cur) then xa else xa.map (·.add ((leftN (bitT cur) cur) * 2))) (cur.drop (leftN (bitT cur) cur)).length (xc - (leftN (bitT cur) cur))) (ex_move _) ?_
   simp only [pS, pN, pA, pC, pZ]
   refine do_ rfl (.slice xa (cur.take (leftN (bitT cur) cur)).length xc) (ex_move _) ?_
   simp only [pS, pN, pA, pC, pZ]
   refine do_ rfl (.slice (if xc = (leftN (bitT cur) cur) then xa else xa.map (·.add ((leftN (bitT cur) cur) * 2))) (cur.drop (leftN (bitT cur) cur)).length (xc - (leftN (bitT cur) cur))) (ex_assign _) ?_
   simp only [pS, pN, pA, pC, pZ]
   refine do_ rfl (.slice xa (cur.take (leftN (bitT cur) cur)).length xc) (ex_assign _) ?_
   simp only [pS, pN, pA, pC, pZ]
   refine wl_nil (hK55 _ _ ?_)
   refine wp_seq_k (fun K58 hK58 => region_wl ?_)
   refine do_ rfl (.slice xa (cur.take (leftN (bitT cur) cur)).length xc) (ex_move _) ?_
   simp only [pS, pN, pA, pC, pZ]
   refine stGives S54 rfl (ex_fn (vs := #[(.slice xa (cur.take (leftN (bitT cur) cur)).length xc)]) (map1 rfl) rfl (ent_18 _ _)) (Root_spec _ _ _ (cur.take (leftN (bitT cur) cur)) (S54).sat (hT.at S54.gr.below) hcl (sub_ok okc (List.take_sublist _ _))) ?_
   intro v64 w59 F61 S60 le62 R63
   obtain ⟨x65, rfl, r66⟩ := R63
   obtain ⟨xa67, xc68, rfl, _⟩ := r66.shape
   have r66 : Bs _ (.slice xa67 (rootT (cur.take (leftN (bitT cur) cur))).length xc68) (rootT (cur.take (leftN (bitT cur) cur))) := r66
   simp only [pS, pN, pA, pC, pZ]
   refine do_ rfl (.tuple #[(.slice xa67 (rootT (cur.take (leftN (bitT cur) cur))).length xc68), (.int .i64 0)]) (ex_move _) ?_
   simp only [pS, pN, pA, pC, pZ]
   refine do_ rfl (.slice xa67 (rootT (cur.take (leftN (bitT cur) cur))).length xc68) (ex_extract rfl rfl) ?_
   simp only [pS, pN, pA, pC, pZ]
   refine do_ rfl (.int .i64 0) (ex_extract rfl rfl) ?_
   simp only [pS, pN, pA, pC, pZ]
   refine do_ rfl (.pointer (some ⟨n45, 2, none⟩)) (ex_field (q := ⟨n45, 2, none⟩) rfl (fa_127_2 _ _)) ?_
   simp only [pS, pN, pA, pC, pZ]
   refine stStore (i := 0) (v := (.slice xa67 (rootT (cur.take (leftN (bitT cur) cur))).length xc68)) S60 rfl rfl rfl rfl (size_23) (allc1 rfl) (Nat.le_of_ble_eq_true rfl) (fun w69 S70 => ?_)
   simp only [pS, pN, pA, pC, pZ]
   have S70 : St w F w69 F61 [⟨n45, [(.int .i64 (((bitT cur) : Nat) : Int)), (.bool (bitL k (bitT cur))), (.slice xa67 (rootT (cur.take (leftN (bitT cur) cur))).length xc68)], 127⟩, ⟨n25, [(.bool false), sv, (.slice none 0 0), (.slice none 0 0)], 49⟩, ⟨n16, [(.bool (getT l k).isSome), (.slice a13 ((getT l k).getD []).length c14)], 53⟩, ⟨n2, [(.bool false), (.slice none 0 0), (.slice none 0 0), (.slice none 0 0)], 49⟩] [ownP 3 StpC StpC.mono 127 w.heap.size sv ss] := S70
   refine wl_nil (hK58 _ _ ?_)
   refine wp_seq_k (fun K71 hK71 => region_wl ?_)
   refine do_ rfl (.slice (if xc = (leftN (bitT cur) cur) then xa else xa.map (·.add ((leftN (bitT cur) cur) * 2))) (cur.drop (leftN (bitT cur) cur)).length (xc - (leftN (bitT cur) cur))) (ex_move _) ?_
   simp only [pS, pN, pA, pC, pZ]
   refine do_ rfl (.slice (if xc = (leftN (bitT cur) cur) then xa else xa.map (·.add ((leftN (bitT cur) cur) * 2))) (cur.drop (leftN (bitT cur) cur)).length (xc - (leftN (bitT cur) cur))) (ex_assign _) ?_
   simp only [pS, pN, pA, pC, pZ]
   refine wl_nil (hK71 _ _ ?_)
   refine region_wl ?_
   refine do_ rfl (.pointer (some ⟨n25, 1, none⟩)) (ex_field (q := ⟨n25, 1, none⟩) rfl (fa_49_1 _ _)) ?_
   simp only [pS, pN, pA, pC, pZ]
   refine do_ rfl sv (ex_load rfl (load1 (nagg_47 _) (St.cell S70 (i := 1) rfl rfl))) ?_
   simp only [pS, pN, pA, pC, pZ]
   refine do_ rfl (.agg #[(.int .i64 (((bitT cur) : Nat) : Int)), (.bool (bitL k (bitT cur))), (.slice xa67 (rootT (cur.take (leftN (bitT cur) cur))).length xc68)]) (ex_load rfl (loadN (cs := [(.int .i64 (((bitT cur) : Nat) : Int)), (.bool (bitL k (bitT cur))), (.slice xa67 (rootT (cur.take (leftN (bitT cur) cur))).length xc68)]) Tryd.underlying127 rfl (size_127) (St.range S70 (i := 0) rfl 0 [(.int .i64 (((bitT cur) : Nat) : Int)), (.bool (bitL k (bitT cur))), (.slice xa67 (rootT (cur.take (leftN (bitT cur) cur))).length xc68)] (sub_range 0 rfl)))) ?_
   simp only [pS, pN, pA, pC, pZ]
   refine stNew S70 (v := fun n => .slice (some ⟨n, 0, none⟩) 1 1) rfl (ex_lit (ps := #[(0, (.agg #[(.int .i64 (((bitT cur) : Nat) : Int)), (.bool (bitL k (bitT cur))), (.slice xa67 (rootT (cur.take (leftN (bitT cur) cur))).length xc68)]))]) (cells := #[(.int .i64 (((bitT cur) : Nat) : Int)), (.bool (bitL k (bitT cur))), (.slice xa67 (rootT (cur.take (leftN (bitT cur) cur))).length xc68)]) (E := 127) (bmap1 rfl) (fun w => by kernel_rfl)) (fun n72 w73 S74 => ?_)
   simp only [pS, pN, pA, pC, pZ]
   have S74 : St w F w73 F61 [⟨n72, [(.int .i64 (((bitT cur) : Nat) : Int)), (.bool (bitL k (bitT cur))), (.slice xa67 (rootT (cur.take (leftN (bitT cur) cur))).length xc68)], 127⟩, ⟨n45, [(.int .i64 (((bitT cur) : Nat) : Int)), (.bool (bitL k (bitT cur))), (.slice xa67 (rootT (cur.take (leftN (bitT cur) cur))).length xc68)], 127⟩, ⟨n25, [(.bool false), sv, (.slice none 0 0), (.slice none 0 0)], 49⟩, ⟨n16, [(.bool (getT l k).isSome), (.slice a13 ((getT l k).getD []).length c14)], 53⟩, ⟨n2, [(.bool false), (.slice none 0 0), (.slice none 0 0), (.slice none 0 0)], 49⟩] [ownP 3 StpC StpC.mono 127 w.heap.size sv ss] := S74
   refine stPush (i := 0) (r := 0) (p := (⟨bitT cur, bitL k (bitT cur), rootT (sideT (bitT cur) (!true) cur)⟩ : Stp)) (cs := [(.int .i64 (((bitT cur) : Nat) : Int)), (.bool (bitL k (bitT cur))), (.slice xa67 (rootT (cur.take (leftN (bitT cur) cur))).length xc68)]) S74 rfl i127 (.agg #[(.int .i64 0), (.bool false), (.slice none 0 0)]) 40 Tryd.underlying47 hi127 hz127 hs127 hb127 rfl (by decide) rfl rfl rfl rfl rfl (StpC.oneCell (p := (⟨bitT cur, bitL k (bitT cur), rootT (sideT (bitT cur) (!true) cur)⟩ : Stp)) ⟨_, _, _, rfl, rfl, rfl, r66⟩) (⟨_, _, _, rfl, rfl, rfl, r66⟩) (Nat.le_refl _) S74.gr.below.size (by unfold maxLen; omega) (by omega) ?_
   intro v75 w76 S77 hn78
   simp only [pS, pN, pA, pC, pZ]
   have S77 := St.drop S77 (L' := [⟨n45, [(.int .i64 (((bitT cur) : Nat) : Int)), (.bool (bitL k (bitT cur))), (.slice xa67 (rootT (cur.take (leftN (bitT cur) cur))).length xc68)], 127⟩, ⟨n25, [(.bool false), sv, (.slice none 0 0), (.slice none 0 0)], 49⟩, ⟨n16, [(.bool (getT l k).isSome), (.slice a13 ((getT l k).getD []).length c14)], 53⟩, ⟨n2, [(.bool false), (.slice none 0 0), (.slice none 0 0), (.slice none 0 0)], 49⟩]) (.cons _ (List.Sublist.refl _))
   have S77 : St w F w76 F61 [⟨n45, [(.int .i64 (((bitT cur) : Nat) : Int)), (.bool (bitL k (bitT cur))), (.slice xa67 (rootT (cur.take (leftN (bitT cur) cur))).length xc68)], 127⟩, ⟨n25, [(.bool false), sv, (.slice none 0 0), (.slice none 0 0)], 49⟩, ⟨n16, [(.bool (getT l k).isSome), (.slice a13 ((getT l k).getD []).length c14)], 53⟩, ⟨n2, [(.bool false), (.slice none 0 0), (.slice none 0 0), (.slice none 0 0)], 49⟩] [ownP 3 StpC StpC.mono 127 w.heap.size v75 (ss ++ [(⟨bitT cur, bitL k (bitT cur), rootT (sideT (bitT cur) (!true) cur)⟩ : Stp)])] := S77
   obtain ⟨a79, cap80, rfl, h81, h82⟩ := (S77.own (i := 0) rfl).shape
   unfold maxLen at h82
   refine do_ rfl (.pointer (some ⟨n25, 1, none⟩)) (ex_field (q := ⟨n25, 1, none⟩) rfl (fa_49_1 _ _)) ?_
   simp only [pS, pN, pA, pC, pZ]
   refine stStore (i := 1) (v := (.slice a79 (ss ++ [(⟨bitT cur, bitL k (bitT cur), rootT (sideT (bitT cur) (!true) cur)⟩ : Stp)]).length cap80)) S77 rfl rfl rfl rfl (size_47) (allc1 rfl) (Nat.le_of_ble_eq_true rfl) (fun w83 S84 => ?_)
   simp only [pS, pN, pA, pC, pZ]
   have S84 : St w F w83 F61 [⟨n45, [(.int .i64 (((bitT cur) : Nat) : Int)), (.bool (bitL k (bitT cur))), (.slice xa67 (rootT (cur.take (leftN (bitT cur) cur))).length xc68)], 127⟩, ⟨n25, [(.bool false), (.slice a79 (ss ++ [(⟨bitT cur, bitL k (bitT cur), rootT (sideT (bitT cur) (!true) cur)⟩ : Stp)]).length cap80), (.slice none 0 0), (.slice none 0 0)], 49⟩, ⟨n16, [(.bool (getT l k).isSome), (.slice a13 ((getT l k).getD []).length c14)], 53⟩, ⟨n2, [(.bool false), (.slice none 0 0), (.slice none 0 0), (.slice none 0 0)], 49⟩] [ownP 3 StpC StpC.mono 127 w.heap.size (.slice a79 (ss ++ [(⟨bitT cur, bitL k (bitT cur), rootT (sideT (bitT cur) (!true) cur)⟩ : Stp)]).length cap80) (ss ++ [(⟨bitT cur, bitL k (bitT cur), rootT (sideT (bitT cur) (!true) cur)⟩ : Stp)])] := S84
   refine wl_nil ?_
   have S84 := St.drop S84 (L' := [⟨n25, [(.bool false), (.slice a79 (ss ++ [(⟨bitT cur, bitL k (bitT cur), rootT (sideT (bitT cur) (!true) cur)⟩ : Stp)]).length cap80), (.slice none 0 0), (.slice none 0 0)], 49⟩, ⟨n16, [(.bool (getT l k).isSome), (.slice a13 ((getT l k).getD []).length c14)], 53⟩, ⟨n2, [(.bool false), (.slice none 0 0), (.slice none 0 0), (.slice none 0 0)], 49⟩]) (.cons _ (List.Sublist.refl _))
   exact hK38 _ _ _ (by omega) ⟨n', (cur.drop (leftN (bitT cur) cur)), (if xc = (leftN (bitT cur) cur) then xa else xa.map (·.add ((leftN (bitT cur) cur) * 2))), (xc - (leftN (bitT cur) cur)), (.slice a79 (ss ++ [(⟨bitT cur, bitL k (bitT cur), rootT (sideT (bitT cur) (!true) cur)⟩ : Stp)]).length cap80), (ss ++ [(⟨bitT cur, bitL k (bitT cur), rootT (sideT (bitT cur) (!true) cur)⟩ : Stp)]), F61, _, rfl, rfl, rfl, S84, (le37.trans le62), (hcr.mono le62), (sub_ok okc (List.drop_sublist _ _)), (by rw [List.length_drop]; omega), (by rw [List.length_drop]; omega), (steps_step hst (by omega) true hb), (by rw [List.length_append, List.length_drop]; simp only [List.length_cons, List.length_nil]; omega)⟩
  ·refine wp_skip ?_
   refine hK55 _ _ ?_
   refine wp_seq_k (fun K85 hK85 => ?_)
   have hb : bitL k (bitT cur) = false := hc57
   refine region_wl ?_
   refine do_ rfl (.slice (if xc = (leftN (bitT cur) cur) then xa else xa.map (·.add ((leftN (bitT cur) cur) * 2))) (cur.drop (leftN (bitT cur) cur)).length (xc - (leftN (bitT cur) cur))) (ex_move _) ?_
   simp only [pS, pN, pA, pC, pZ]
   refine stGives S54 rfl (ex_fn (vs := #[(.slice (if xc = (leftN (bitT cur) cur) then xa else xa.map (·.add ((leftN (bitT cur) cur) * 2))) (cur.drop (leftN (bitT cur) cur)).length (xc - (leftN (bitT cur) cur)))]) (map1 rfl) rfl (ent_18 _ _)) (Root_spec _ _ _ (cur.drop (leftN (bitT cur) cur)) (S54).sat (hT.at S54.gr.below) hcr (sub_ok okc (List.drop_sublist _ _))) ?_
   intro v91 w86 F88 S87 le89 R90
   obtain ⟨x92, rfl, r93⟩ := R90
   obtain ⟨xa94, xc95, rfl, _⟩ := r93.shape
   have r93 : Bs _ (.slice xa94 (rootT (cur.drop (leftN (bitT cur) cur))).length xc95) (rootT (cur.drop (leftN (bitT cur) cur))) := r93
   simp only [pS, pN, pA, pC, pZ]
   refine do_ rfl (.tuple #[(.slice xa94 (rootT (cur.drop (leftN (bitT cur) cur))).length xc95), (.int .i64 0)]) (ex_move _) ?_
   simp only [pS, pN, pA, pC, pZ]
   refine do_ rfl (.slice xa94 (rootT (cur.drop (leftN (bitT cur) cur))).length xc95) (ex_extract rfl rfl) ?_
   simp only [pS, pN, pA, pC, pZ]
   refine do_ rfl (.int .i64 0) (ex_extract rfl rfl) ?_
   simp only [pS, pN, pA, pC, pZ]
   refine do_ rfl (.pointer (some ⟨n45, 2, none⟩)) (ex_field (q := ⟨n45, 2, none⟩) rfl (fa_127_2 _ _)) ?_
   simp only [pS, pN, pA, pC, pZ]
   refine stStore (i := 0) (v := (.slice xa94 (rootT (cur.drop (leftN (bitT cur) cur))).length xc95)) S87 rfl rfl rfl rfl (size_23) (allc1 rfl) (Nat.le_of_ble_eq_true rfl) (fun w96 S97 => ?_)
   simp only [pS, pN, pA, pC, pZ]
   have S97 : St w F w96 F88 [⟨n45, [(.int .i64 (((bitT cur) : Nat) : Int)), (.bool (bitL k (bitT cur))), (.slice xa94 (rootT (cur.drop (leftN (bitT cur) cur))).length xc95)], 127⟩, ⟨n25, [(.bool false), sv, (.slice none 0 0), (.slice none 0 0)], 49⟩, ⟨n16, [(.bool (getT l k).isSome), (.slice a13 ((getT l k).getD []).length c14)], 53⟩, ⟨n2, [(.bool false), (.slice none 0 0), (.slice none 0 0), (.slice none 0 0)], 49⟩] [ownP 3 StpC StpC.mono 127 w.heap.size sv ss] := S97
   refine wl_nil (hK85 _ _ ?_)
   refine wp_seq_k (fun K98 hK98 => region_wl ?_)
   refine do_ rfl (.slice xa (cur.take (leftN (bitT cur) cur)).length xc) (ex_move _) ?_
   simp only [pS, pN, pA, pC, pZ]
   refine do_ rfl (.slice xa (cur.take (leftN (bitT cur) cur)).length xc) (ex_assign _) ?_
   simp only [pS, pN, pA, pC, pZ]
   refine wl_nil (hK98 _ _ ?_)
   refine region_wl ?_
   refine do_ rfl (.pointer (some ⟨n25, 1, none⟩)) (ex_field (q := ⟨n25, 1, none⟩) rfl (fa_49_1 _ _)) ?_
   simp only [pS, pN, pA, pC, pZ]
   refine do_ rfl sv (ex_load rfl (load1 (nagg_47 _) (St.cell S97 (i := 1) rfl rfl))) ?_
   simp only [pS, pN, pA, pC, pZ]
   refine do_ rfl (.agg #[(.int .i64 (((bitT cur) : Nat) : Int)), (.bool (bitL k (bitT cur))), (.slice xa94 (rootT (cur.drop (leftN (bitT cur) cur))).length xc95)]) (ex_load rfl (loadN (cs := [(.int .i64 (((bitT cur) : Nat) : Int)), (.bool (bitL k (bitT cur))), (.slice xa94 (rootT (cur.drop (leftN (bitT cur) cur))).length xc95)]) Tryd.underlying127 rfl (size_127) (St.range S97 (i := 0) rfl 0 [(.int .i64 (((bitT cur) : Nat) : Int)), (.bool (bitL k (bitT cur))), (.slice xa94 (rootT (cur.drop (leftN (bitT cur) cur))).length xc95)] (sub_range 0 rfl)))) ?_
   simp only [pS, pN, pA, pC, pZ]
   refine stNew S97 (v := fun n => .slice (some ⟨n, 0, none⟩) 1 1) rfl (ex_lit (ps := #[(0, (.agg #[(.int .i64 (((bitT cur) : Nat) : Int)), (.bool (bitL k (bitT cur))), (.slice xa94 (rootT (cur.drop (leftN (bitT cur) cur))).length xc95)]))]) (cells := #[(.int .i64 (((bitT cur) : Nat) : Int)), (.bool (bitL k (bitT cur))), (.slice xa94 (rootT (cur.drop (leftN (bitT cur) cur))).length xc95)]) (E := 127) (bmap1 rfl) (fun w => by kernel_rfl)) (fun n99 w100 S101 => ?_)
   simp only [pS, pN, pA, pC, pZ]
   have S101 : St w F w100 F88 [⟨n99, [(.int .i64 (((bitT cur) : Nat) : Int)), (.bool (bitL k (bitT cur))), (.slice xa94 (rootT (cur.drop (leftN (bitT cur) cur))).length xc95)], 127⟩, ⟨n45, [(.int .i64 (((bitT cur) : Nat) : Int)), (.bool (bitL k (bitT cur))), (.slice xa94 (rootT (cur.drop (leftN (bitT cur) cur))).length xc95)], 127⟩, ⟨n25, [(.bool false), sv, (.slice none 0 0), (.slice none 0 0)], 49⟩, ⟨n16, [(.bool (getT l k).isSome), (.slice a13 ((getT l k).getD []).length c14)], 53⟩, ⟨n2, [(.bool false), (.slice none 0 0), (.slice none 0 0), (.slice none 0 0)], 49⟩] [ownP 3 StpC StpC.mono 127 w.heap.size sv ss] := S101
   refine stPush (i := 0) (r := 0) (p := (⟨bitT cur, bitL k (bitT cur), rootT (sideT (bitT cur) (!false) cur)⟩ : Stp)) (cs := [(.int .i64 (((bitT cur) : Nat) : Int)), (.bool (bitL k (bitT cur))), (.slice xa94 (rootT (cur.drop (leftN (bitT cur) cur))).length xc95)]) S101 rfl i127 (.agg #[(.int .i64 0), (.bool false), (.slice none 0 0)]) 40 Tryd.underlying47 hi127 hz127 hs127 hb127 rfl (by decide) rfl rfl rfl rfl rfl (StpC.oneCell (p := (⟨bitT cur, bitL k (bitT cur), rootT (sideT (bitT cur) (!false) cur)⟩ : Stp)) ⟨_, _, _, rfl, rfl, rfl, r93⟩) (⟨_, _, _, rfl, rfl, rfl, r93⟩) (Nat.le_refl _) S101.gr.below.size (by unfold maxLen; omega) (by omega) ?_
   intro v102 w103 S104 hn105
   simp only [pS, pN, pA, pC, pZ]
   have S104 := St.drop S104 (L' := [⟨n45, [(.int .i64 (((bitT cur) : Nat) : Int)), (.bool (bitL k (bitT cur))), (.slice xa94 (rootT (cur.drop (leftN (bitT cur) cur))).length xc95)], 127⟩, ⟨n25, [(.bool false), sv, (.slice none 0 0), (.slice none 0 0)], 49⟩, ⟨n16, [(.bool (getT l k).isSome), (.slice a13 ((getT l k).getD []).length c14)], 53⟩, ⟨n2, [(.bool false), (.slice none 0 0), (.slice none 0 0), (.slice none 0 0)], 49⟩]) (.cons _ (List.Sublist.refl _))
   have S104 : St w F w103 F88 [⟨n45, [(.int .i64 (((bitT cur) : Nat) : Int)), (.bool (bitL k (bitT cur))), (.slice xa94 (rootT (cur.drop (leftN (bitT cur) cur))).length xc95)], 127⟩, ⟨n25, [(.bool false), sv, (.slice none 0 0), (.slice none 0 0)], 49⟩, ⟨n16, [(.bool (getT l k).isSome), (.slice a13 ((getT l k).getD []).length c14)], 53⟩, ⟨n2, [(.bool false), (.slice none 0 0), (.slice none 0 0), (.slice none 0 0)], 49⟩] [ownP 3 StpC StpC.mono 127 w.heap.size v102 (ss ++ [(⟨bitT cur, bitL k (bitT cur), rootT (sideT (bitT cur) (!false) cur)⟩ : Stp)])] := S104
   obtain ⟨a106, cap107, rfl, h108, h109⟩ := (S104.own (i := 0) rfl).shape
   unfold maxLen at h109
   refine do_ rfl (.pointer (some ⟨n25, 1, none⟩)) (ex_field (q := ⟨n25, 1, none⟩) rfl (fa_49_1 _ _)) ?_
   simp only [pS, pN, pA, pC, pZ]
   refine stStore (i := 1) (v := (.slice a106 (ss ++ [(⟨bitT cur, bitL k (bitT cur), rootT (sideT (bitT cur) (!false) cur)⟩ : Stp)]).length cap107)) S104 rfl rfl rfl rfl (size_47) (allc1 rfl) (Nat.le_of_ble_eq_true rfl) (fun w110 S111 => ?_)
   simp only [pS, pN, pA, pC, pZ]
   have S111 : St w F w110 F88 [⟨n45, [(.int .i64 (((bitT cur) : Nat) : Int)), (.bool (bitL k (bitT cur))), (.slice xa94 (rootT (cur.drop (leftN (bitT cur) cur))).length xc95)], 127⟩, ⟨n25, [(.bool false), (.slice a106 (ss ++ [(⟨bitT cur, bitL k (bitT cur), rootT (sideT (bitT cur) (!false) cur)⟩ : Stp)]).length cap107), (.slice none 0 0), (.slice none 0 0)], 49⟩, ⟨n16, [(.bool (getT l k).isSome), (.slice a13 ((getT l k).getD []).length c14)], 53⟩, ⟨n2, [(.bool false), (.slice none 0 0), (.slice none 0 0), (.slice none 0 0)], 49⟩] [ownP 3 StpC StpC.mono 127 w.heap.size (.slice a106 (ss ++ [(⟨bitT cur, bitL k (bitT cur), rootT (sideT (bitT cur) (!false) cur)⟩ : Stp)]).length cap107) (ss ++ [(⟨bitT cur, bitL k (bitT cur), rootT (sideT (bitT cur) (!false) cur)⟩ : Stp)])] := S111
   refine wl_nil ?_
   have S111 := St.drop S111 (L' := [⟨n25, [(.bool false), (.slice a106 (ss ++ [(⟨bitT cur, bitL k (bitT cur), rootT (sideT (bitT cur) (!false) cur)⟩ : Stp)]).length cap107), (.slice none 0 0), (.slice none 0 0)], 49⟩, ⟨n16, [(.bool (getT l k).isSome), (.slice a13 ((getT l k).getD []).length c14)], 53⟩, ⟨n2, [(.bool false), (.slice none 0 0), (.slice none 0 0), (.slice none 0 0)], 49⟩]) (.cons _ (List.Sublist.refl _))
   exact hK38 _ _ _ (by omega) ⟨n', (cur.take (leftN (bitT cur) cur)), xa, xc, (.slice a106 (ss ++ [(⟨bitT cur, bitL k (bitT cur), rootT (sideT (bitT cur) (!false) cur)⟩ : Stp)]).length cap107), (ss ++ [(⟨bitT cur, bitL k (bitT cur), rootT (sideT (bitT cur) (!false) cur)⟩ : Stp)]), F88, _, rfl, rfl, rfl, S111, (le37.trans le89), (hcl.mono le89), (sub_ok okc (List.take_sublist _ _)), (by rw [List.length_take]; omega), (by rw [List.length_take]; omega), (steps_step hst (by omega) false hb), (by rw [List.length_append, List.length_take]; simp only [List.length_cons, List.length_nil]; omega)⟩
 ·refine do_ rfl (.bool false) (ex_gtr (m := ((cur.length : Nat) : Int)) (n := (1 : Int)) (b := false) rfl rfl (decide_eq_false (by omega))) ?_
  simp only [pS, pN, pA, pC, pZ]
  refine wl_nil (hK40 _ _ ?_)
  refine wp_cond_false rfl ?_
  refine wp_exit ?_
  refine hK28 _ _ ?_
  refine wp_seq_k (fun K112 hK112 => ?_)
  obtain ⟨a113, cap114, rfl, h115, h116⟩ := (S36.own (i := 0) rfl).shape
  unfold maxLen at h116
  obtain ⟨p, hp⟩ : ∃ p, cur[0]? = some p := ⟨cur[0], List.getElem?_eq_getElem (by omega)⟩
  have hpo := okc.ok p (List.mem_of_getElem? hp)
  have hp1 := hpo.2.1
  have hp2 := hpo.2.2
  have hend := steps_end hst (by omega) hp
  obtain ⟨b117, o118, ha119, xa121, xc122, xa125, xc126, c120, c124, r123, r127⟩ := Prs.get hcur hp
  refine region_wl ?_
  refine do_ rfl (.slice xa cur.length xc) (ex_move _) ?_
  simp only [pS, pN, pA, pC, pZ]
  refine do_ rfl (.pointer (some ⟨b117, o118 + 0 * 2, none⟩)) (ex_at (i := 0) (sz := 2) Tryd.underlying26 (sizeof_34 _) rfl ha119 rfl (by omega) rfl) ?_
  simp only [pS, pN, pA, pC, pZ]
  refine do_ rfl (.agg #[(.slice xa121 p.1.length xc122), (.slice xa125 p.2.length xc126)]) (ex_load rfl (loadN (cs := [(.slice xa121 p.1.length xc122), (.slice xa125 p.2.length xc126)]) Tryd.underlying34 rfl (size_34) (range2 (St.fz S36 c120) (St.fz S36 c124)))) ?_
  simp only [pS, pN, pA, pC, pZ]
  refine stGives S36 rfl (ex_fn (vs := #[(.agg #[(.slice xa121 p.1.length xc122), (.slice xa125 p.2.length xc126)])]) (map1 rfl) rfl (ent_78 _ _)) (ownP_spec _ _ _ p (S36).sat ⟨_, _, _, _, rfl, r123, r127⟩ (by omega) (by omega)) ?_
  intro v133 w128 F130 S129 le131 R132
  obtain ⟨xa134, xc135, xa136, xc137, rfl, r138, r139⟩ := R132
  simp only [pS, pN, pA, pC, pZ]
  refine do_ rfl (.pointer (some ⟨n25, 2, none⟩)) (ex_field (q := ⟨n25, 2, none⟩) rfl (fa_49_2 _ _)) ?_
  simp only [pS, pN, pA, pC, pZ]
  refine stStore (i := 0) (v := (.agg #[(.slice xa134 p.1.length xc135), (.slice xa136 p.2.length xc137)])) S129 rfl rfl rfl rfl (size_34) (allc2 rfl rfl) (Nat.le_of_ble_eq_true rfl) (fun w140 S141 => ?_)
  simp only [pS, pN, pA, pC, pZ]
  have S141 : St w F w140 F130 [⟨n25, [(.bool false), (.slice a113 ss.length cap114), (.slice xa134 p.1.length xc135), (.slice xa136 p.2.length xc137)], 49⟩, ⟨n16, [(.bool (getT l k).isSome), (.slice a13 ((getT l k).getD []).length c14)], 53⟩, ⟨n2, [(.bool false), (.slice none 0 0), (.slice none 0 0), (.slice none 0 0)], 49⟩] [ownP 3 StpC StpC.mono 127 w.heap.size (.slice a113 ss.length cap114) ss] := S141
  refine wl_nil (hK112 _ _ ?_)
  refine wp_seq_k (fun K142 hK142 => region_wl ?_)
  refine do_ rfl (.agg #[(.bool false), (.slice a113 ss.length cap114), (.slice xa134 p.1.length xc135), (.slice xa136 p.2.length xc137)]) (ex_load rfl (loadN (cs := [(.bool false), (.slice a113 ss.length cap114), (.slice xa134 p.1.length xc135), (.slice xa136 p.2.length xc137)]) Tryd.underlying49 rfl (size_49) (St.range S141 (i := 0) rfl 0 [(.bool false), (.slice a113 ss.length cap114), (.slice xa134 p.1.length xc135), (.slice xa136 p.2.length xc137)] (sub_range 0 rfl)))) ?_
  simp only [pS, pN, pA, pC, pZ]
  refine stStore (i := 2) (v := (.agg #[(.bool false), (.slice a113 ss.length cap114), (.slice xa134 p.1.length xc135), (.slice xa136 p.2.length xc137)])) S141 rfl rfl rfl rfl (size_49) (allc4 rfl rfl rfl rfl) (Nat.le_of_ble_eq_true rfl) (fun w143 S144 => ?_)
  simp only [pS, pN, pA, pC, pZ]
  have S144 : St w F w143 F130 [⟨n25, [(.bool false), (.slice a113 ss.length cap114), (.slice xa134 p.1.length xc135), (.slice xa136 p.2.length xc137)], 49⟩, ⟨n16, [(.bool (getT l k).isSome), (.slice a13 ((getT l k).getD []).length c14)], 53⟩, ⟨n2, [(.bool false), (.slice a113 ss.length cap114), (.slice xa134 p.1.length xc135), (.slice xa136 p.2.length xc137)], 49⟩] [ownP 3 StpC StpC.mono 127 w.heap.size (.slice a113 ss.length cap114) ss] := S144
  refine do_ rfl (.int .i64 0) (ex_assign _) ?_
  simp only [pS, pN, pA, pC, pZ]
  refine wl_nil (hK142 _ _ ?_)
  refine wp_ret ?_
  (try simp only [Exit.then, Exit.inBlock, ↓reduceIte, Nat.reduceEqDiff])
  refine bodyPost_ret (v := (.tuple #[(.agg #[(.bool false), (.slice a113 ss.length cap114), (.slice xa134 p.1.length xc135), (.slice xa136 p.2.length xc137)]), (.int .i64 0)])) ?_ rfl ?_
  ·exact res_ct rfl ⟨_, rfl, loadN (cs := [(.bool false), (.slice a113 ss.length cap114), (.slice xa134 p.1.length xc135), (.slice xa136 p.2.length xc137)]) Tryd.underlying49 rfl (size_49) (St.range S144 (i := 2) rfl 0 [(.bool false), (.slice a113 ss.length cap114), (.slice xa134 p.1.length xc135), (.slice xa136 p.2.length xc137)] (sub_range 0 rfl))⟩ rfl
  ·have hpv : proveT l k = ⟨false, ss, p⟩ := by unfold proveT; rw [if_neg (fun e => by rw [e] at hz; simp at hz), hend]
   rw [hpv]
   exact ⟨_, _, _, _, _, _, rfl, S144.gr, St.own (i := 0) S144 rfl, r138, r139⟩
theorem prove_spec (F : Fz) (w : World) (v u : Value) (l : List Pr) (k : By) (hs : Sat w F) (hT : Tabs w) (hv : Prs F v l) (hu : Bs F u k) (ok : TreeOk 60 l) (hk : 1 ≤ k.length ∧ k.length ≤ 16) :
    Calls Tryd.prog 49 #[v, u] w (GivesPrf w F (proveT l k)) := by
  rcases Nat.eq_zero_or_pos l.length with h | h
  · exact proveNil_spec F w v u l k hs hT hv hu ok hk h
  · exact proveOk_spec F w v u l k hs hT hv hu ok hk h
end Go.Proofs.YtikklmjengkliaaDoor
