/- The walk of RootNames -/
import Derived.Test.YtikklmjengkliaaDoorBR11
import Derived.Test.YtikklmjengkliaaDoorBR8
namespace Go.Proofs.YtikklmjengkliaaDoor
open Go.RowKit
set_option maxRecDepth 100000
set_option linter.unusedVariables false
set_option linter.unusedSimpArgs false
set_option maxHeartbeats 8000000 in
theorem rootNames_walk (W : World) (hT : Tabs W) (v0 : Value) (l0 : List Pl) (z0 : Pls (whole W) v0 l0) :
    Calls Tryd.prog 4 #[v0] W (Tells W (.bool true)) := by
 obtain ⟨a0, c0, rfl, q0, q0'⟩ := Sl.shape z0
 have okf : ForestOk 60 (forestW (writesN l0 20)) := (forestW_ok (writesN_ok l0 20)).mono (by have := writesN_len l0 20; omega)
 have hl8 := okf.len
 obtain ⟨i34, hi34, hz34, hs34, hb34⟩ := info_parts info_34
 have S := St.start (Sat.whole W)
 go_enter Tryd.func4, Tryd.ntmps4
 refine wp_seq_k (fun K101 hK101 => region_wl ?_)
 refine do_ rfl (.bool false) (ex_assign _) ?_
 simp only [pS, pN, pA, pC, pZ]
 refine wl_nil (hK101 _ _ ?_)
 refine wp_seq_k (fun K102 hK102 => region_wl ?_)
 refine do_ rfl (.slice a0 l0.length c0) (ex_move _) ?_
 simp only [pS, pN, pA, pC, pZ]
 refine stGives S rfl (ex_fn (vs := #[(.slice a0 l0.length c0), (.int .i64 20)]) (map2 rfl rfl) rfl (ent_14 _ _)) (forest_spec _ _ _ l0 20 (S).sat z0 (by omega)) ?_
 intro v108 w103 F105 S104 le106 R107
 obtain ⟨a109, c110, rfl, h111, h112⟩ := Sl.shape R107
 unfold maxLen at h112
 have R107 : Tns _ (.slice a109 (forestW (writesN l0 20)).length c110) (forestW (writesN l0 20)) := R107
 simp only [pS, pN, pA, pC, pZ]
 refine do_ rfl (.slice a109 (forestW (writesN l0 20)).length c110) (ex_assign _) ?_
 simp only [pS, pN, pA, pC, pZ]
 refine wl_nil (hK102 _ _ ?_)
 refine wp_seq_k (fun K113 hK113 => region_wl ?_)
 refine do_ rfl (.slice none 0 0) (ex_assign _) ?_
 simp only [pS, pN, pA, pC, pZ]
 refine wl_nil (hK113 _ _ ?_)
 refine wp_seq_k (fun K114 hK114 => ?_)
 refine wp_seq_k (fun K115 hK115 => region_wl ?_)
 refine do_ rfl (.int .i64 0) (ex_assign _) ?_
 simp only [pS, pN, pA, pC, pZ]
 refine wl_nil (hK115 _ _ ?_)
 refine wp_block ?_
 have S116 := St.addNil S104 2 PrC PrC.mono 34 W.heap.size
 have S116 : St W (whole W) w103 F105 [] [ownP 2 PrC PrC.mono 34 W.heap.size (.slice none 0 0) (rootsF ((forestW (writesN l0 20)).take 0))] := S116
 refine wp_loop_g (fun mm aa w119 => ∃ (k : Nat) (v : Value) (F117 : Fz) (u118 : Nat → Value), mm = (forestW (writesN l0 20)).length - k ∧ u118 = slots aa ∧ aa = ⟨#[(.slice a0 l0.length c0), undef, (u118 2), (.slice a109 (forestW (writesN l0 20)).length c110), v, (.int .i64 ((k : Nat) : Int)), (u118 6), (u118 7), undef, undef, undef, undef, (.slice a0 l0.length c0), (.slice a109 (forestW (writesN l0 20)).length c110), (u118 14), (u118 15), (u118 16), (u118 17), (u118 18), (u118 19), (u118 20), (u118 21), (u118 22), (u118 23), (u118 24), (u118 25), (u118 26), (u118 27), (u118 28), (u118 29), (u118 30), (u118 31), (u118 32), (u118 33), (u118 34), (u118 35), (u118 36), (u118 37), (u118 38), (u118 39), (u118 40), undef, undef, undef, undef, undef, undef, undef, undef, undef, undef, undef, undef, undef, undef, undef, undef, undef, undef, undef, undef, undef, undef, undef, undef, undef, undef], []⟩ ∧ St W (whole W) w119 F117 [] [ownP 2 PrC PrC.mono 34 W.heap.size v (rootsF ((forestW (writesN l0 20)).take k))] ∧ Le F105 F117 ∧ (k ≤ (forestW (writesN l0 20)).length)) _ ⟨0, (.slice none 0 0), F105, _, rfl, rfl, rfl, S116, Le.refl _, (by omega)⟩ ?_
 rintro m120 a121 w122 ⟨k, v, F117, u118, rfl, -, rfl, S123, le124, hk⟩ K125 hK125
 refine wp_seq_k (fun K126 hK126 => ?_)
 refine wp_seq_k (fun K127 hK127 => region_wl ?_)
 refine do_ rfl (.int .i64 ((k : Nat) : Int)) (ex_move _) ?_
 simp only [pS, pN, pA, pC, pZ]
 refine do_ rfl (.slice a109 (forestW (writesN l0 20)).length c110) (ex_move _) ?_
 simp only [pS, pN, pA, pC, pZ]
 refine do_ rfl (.int .i64 (((forestW (writesN l0 20)).length : Nat) : Int)) (ex_len Tryd.underlying24 rfl) ?_
 simp only [pS, pN, pA, pC, pZ]
 by_cases hc17 : k < (forestW (writesN l0 20)).length
 ·refine do_ rfl (.bool true) (ex_lss (m := ((k : Nat) : Int)) (n := (((forestW (writesN l0 20)).length : Nat) : Int)) (b := true) rfl rfl (decide_eq_true (by omega))) ?_
  simp only [pS, pN, pA, pC, pZ]
  refine wl_nil (hK127 _ _ ?_)
  refine wp_cond_true rfl ?_
  refine wp_skip ?_
  refine hK126 _ _ ?_
  refine wp_seq_k (fun K128 hK128 => ?_)
  refine wp_block ?_
  refine wp_seq_k (fun K129 hK129 => ?_)
  obtain ⟨t, ht⟩ : ∃ t, (forestW (writesN l0 20))[k]? = some t := ⟨(forestW (writesN l0 20))[k], List.getElem?_eq_getElem hc17⟩
  have hrl := rootsF_len ((forestW (writesN l0 20)).take k)
  rw [List.length_take] at hrl
  obtain ⟨b130, o131, ha132, xa134, xc135, xa138, xc139, c133, c137, r136, r140⟩ := Tns.get (R107.mono le124) ht
  refine region_wl ?_
  refine do_ rfl (.slice a109 (forestW (writesN l0 20)).length c110) (ex_move _) ?_
  simp only [pS, pN, pA, pC, pZ]
  refine do_ rfl (.int .i64 ((k : Nat) : Int)) (ex_move _) ?_
  simp only [pS, pN, pA, pC, pZ]
  refine do_ rfl (.pointer (some ⟨b130, o131 + k * 2, none⟩)) (ex_at (i := k) (sz := 2) Tryd.underlying24 (sizeof_28 _) rfl ha132 rfl (by omega) rfl) ?_
  simp only [pS, pN, pA, pC, pZ]
  refine do_ rfl (.pointer (some ⟨b130, o131 + k * 2 + 1, none⟩)) (ex_field (q := ⟨b130, o131 + k * 2 + 1, none⟩) rfl (fa_28_1 _ _)) ?_
  simp only [pS, pN, pA, pC, pZ]
  refine do_ rfl (.slice xa138 t.2.length xc139) (ex_load rfl (load1 (nagg_26 _) (St.fz S123 c137))) ?_
  simp only [pS, pN, pA, pC, pZ]
  refine stGives S123 rfl (ex_fn (vs := #[(.slice xa138 t.2.length xc139)]) (map1 rfl) rfl (ent_18 _ _)) (Root_spec _ _ _ t.2 (S123).sat (hT.at S123.gr.below) r140 ((okf.tree t (List.mem_of_getElem? ht)).mono (by omega))) ?_
  intro v146 w141 F143 S142 le144 R145
  obtain ⟨x147, rfl, r148⟩ := R145
  obtain ⟨xa149, xc150, rfl, _⟩ := r148.shape
  have r148 : Bs _ (.slice xa149 (rootT t.2).length xc150) (rootT t.2) := r148
  simp only [pS, pN, pA, pC, pZ]
  refine do_ rfl (.tuple #[(.slice xa149 (rootT t.2).length xc150), (.int .i64 0)]) (ex_move _) ?_
  simp only [pS, pN, pA, pC, pZ]
  refine do_ rfl (.slice xa149 (rootT t.2).length xc150) (ex_extract rfl rfl) ?_
  simp only [pS, pN, pA, pC, pZ]
  refine do_ rfl (.int .i64 0) (ex_extract rfl rfl) ?_
  simp only [pS, pN, pA, pC, pZ]
  refine do_ rfl (.slice xa149 (rootT t.2).length xc150) (ex_assign _) ?_
  simp only [pS, pN, pA, pC, pZ]
  refine do_ rfl (.int .i64 0) (ex_assign _) ?_
  simp only [pS, pN, pA, pC, pZ]
  refine wl_nil (hK129 _ _ ?_)
  refine wp_seq_k (fun K151 hK151 => ?_)
  refine wp_seq_k (fun K152 hK152 => region_wl ?_)
  refine do_ rfl (.int .i64 0) (ex_move _) ?_
  simp only [pS, pN, pA, pC, pZ]
  refine do_ rfl (.bool false) (ex_neq (m := (0 : Int)) (n := (0 : Int)) (b := false) rfl rfl (bne_eq_false_iff_eq.2 (by omega))) ?_
  simp only [pS, pN, pA, pC, pZ]
  refine wl_nil (hK152 _ _ ?_)
  refine wp_cond_false rfl ?_
  refine wp_skip ?_
  refine hK151 _ _ ?_
  obtain ⟨b153, o154, ha155, xa157, xc158, xa161, xc162, c156, c160, r159, r163⟩ := Tns.get (R107.mono (le124.trans le144)) ht
  refine region_wl ?_
  refine do_ rfl v (ex_move _) ?_
  simp only [pS, pN, pA, pC, pZ]
  refine do_ rfl (.slice a109 (forestW (writesN l0 20)).length c110) (ex_move _) ?_
  simp only [pS, pN, pA, pC, pZ]
  refine do_ rfl (.int .i64 ((k : Nat) : Int)) (ex_move _) ?_
  simp only [pS, pN, pA, pC, pZ]
  refine do_ rfl (.pointer (some ⟨b153, o154 + k * 2, none⟩)) (ex_at (i := k) (sz := 2) Tryd.underlying24 (sizeof_28 _) rfl ha155 rfl (by omega) rfl) ?_
  simp only [pS, pN, pA, pC, pZ]
  refine do_ rfl (.pointer (some ⟨b153, o154 + k * 2, none⟩)) (ex_field (q := ⟨b153, o154 + k * 2, none⟩) rfl (fa_28_0 _ _)) ?_
  simp only [pS, pN, pA, pC, pZ]
  refine do_ rfl (.slice xa157 t.1.length xc158) (ex_load rfl (load1 (nagg_23 _) (St.fz S142 c156))) ?_
  simp only [pS, pN, pA, pC, pZ]
  refine do_ rfl (.slice xa149 (rootT t.2).length xc150) (ex_move _) ?_
  simp only [pS, pN, pA, pC, pZ]
  refine do_ rfl (.agg #[(.slice xa157 t.1.length xc158), (.slice xa149 (rootT t.2).length xc150)]) (ex_build (ps := #[(0, (.slice xa157 t.1.length xc158)), (1, (.slice xa149 (rootT t.2).length xc150))]) (bmap2 rfl rfl) (by kernel_rfl)) ?_
  simp only [pS, pN, pA, pC, pZ]
  refine stNew S142 (v := fun n => .slice (some ⟨n, 0, none⟩) 1 1) rfl (ex_lit (ps := #[(0, (.agg #[(.slice xa157 t.1.length xc158), (.slice xa149 (rootT t.2).length xc150)]))]) (cells := #[(.slice xa157 t.1.length xc158), (.slice xa149 (rootT t.2).length xc150)]) (E := 34) (bmap1 rfl) (fun w => by kernel_rfl)) (fun n164 w165 S166 => ?_)
  simp only [pS, pN, pA, pC, pZ]
  have S166 : St W (whole W) w165 F143 [⟨n164, [(.slice xa157 t.1.length xc158), (.slice xa149 (rootT t.2).length xc150)], 34⟩] [ownP 2 PrC PrC.mono 34 W.heap.size v (rootsF ((forestW (writesN l0 20)).take k))] := S166
  refine stPush (i := 0) (r := 0) (p := (t.1, rootT t.2)) (cs := [(.slice xa157 t.1.length xc158), (.slice xa149 (rootT t.2).length xc150)]) S166 rfl i34 (.agg #[(.slice none 0 0), (.slice none 0 0)]) 48 Tryd.underlying26 hi34 hz34 hs34 hb34 rfl (by decide) rfl rfl rfl rfl rfl (PrC.oneCell (p := (t.1, rootT t.2)) ⟨_, _, rfl, r159, r148⟩) (⟨_, _, rfl, r159, r148⟩) (Nat.le_refl _) S166.gr.below.size (by unfold maxLen; omega) (by omega) ?_
  intro v167 w168 S169 hn170
  simp only [pS, pN, pA, pC, pZ]
  have S169 := St.drop S169 (L' := []) (.cons _ (List.Sublist.refl _))
  have S169 : St W (whole W) w168 F143 [] [ownP 2 PrC PrC.mono 34 W.heap.size v167 ((rootsF ((forestW (writesN l0 20)).take k)) ++ [(t.1, rootT t.2)])] := S169
  refine do_ rfl v167 (ex_assign _) ?_
  simp only [pS, pN, pA, pC, pZ]
  refine wl_nil (hK128 _ _ ?_)
  refine region_wl ?_
  refine do_ rfl (.int .i64 ((k : Nat) : Int)) (ex_move _) ?_
  simp only [pS, pN, pA, pC, pZ]
  refine do_ rfl (.int .i64 (((k + 1) : Nat) : Int)) (ex_add (m := ((k : Nat) : Int)) (n := (1 : Int)) (r := (((k + 1) : Nat) : Int)) rfl rfl (by omega) (by omega) (by omega)) ?_
  simp only [pS, pN, pA, pC, pZ]
  refine do_ rfl (.int .i64 (((k + 1) : Nat) : Int)) (ex_assign _) ?_
  simp only [pS, pN, pA, pC, pZ]
  refine wl_nil ?_
  rw [rootsF_take ht] at S169
  exact hK125 _ _ _ (by omega) ⟨(k + 1), v167, F143, _, rfl, rfl, rfl, S169, (le124.trans le144), (by omega)⟩
 ·refine do_ rfl (.bool false) (ex_lss (m := ((k : Nat) : Int)) (n := (((forestW (writesN l0 20)).length : Nat) : Int)) (b := false) rfl rfl (decide_eq_false (by omega))) ?_
  simp only [pS, pN, pA, pC, pZ]
  refine wl_nil (hK127 _ _ ?_)
  refine wp_cond_false rfl ?_
  refine wp_exit ?_
  refine hK114 _ _ ?_
  refine wp_seq_k (fun K171 hK171 => ?_)
  have hend : (forestW (writesN l0 20)).take k = (forestW (writesN l0 20)) := List.take_of_length_le (by omega)
  rw [hend] at S123
  refine region_wl ?_
  refine do_ rfl (.slice a109 (forestW (writesN l0 20)).length c110) (ex_move _) ?_
  simp only [pS, pN, pA, pC, pZ]
  refine stGives S123 rfl (ex_fn (vs := #[(.slice a109 (forestW (writesN l0 20)).length c110)]) (map1 rfl) rfl (ent_17 _ _)) (forestRoot_spec _ _ _ (forestW (writesN l0 20)) (S123).sat (hT.at S123.gr.below) (R107.mono le124) okf) ?_
  intro v177 w172 F174 S173 le175 R176
  obtain ⟨x178, rfl, r179⟩ := R176
  obtain ⟨xa180, xc181, rfl, _⟩ := r179.shape
  have r179 : Bs _ (.slice xa180 (rootF (forestW (writesN l0 20))).length xc181) (rootF (forestW (writesN l0 20))) := r179
  simp only [pS, pN, pA, pC, pZ]
  refine do_ rfl (.tuple #[(.slice xa180 (rootF (forestW (writesN l0 20))).length xc181), (.int .i64 0)]) (ex_move _) ?_
  simp only [pS, pN, pA, pC, pZ]
  refine do_ rfl (.slice xa180 (rootF (forestW (writesN l0 20))).length xc181) (ex_extract rfl rfl) ?_
  simp only [pS, pN, pA, pC, pZ]
  refine do_ rfl (.int .i64 0) (ex_extract rfl rfl) ?_
  simp only [pS, pN, pA, pC, pZ]
  refine do_ rfl (.slice xa180 (rootF (forestW (writesN l0 20))).length xc181) (ex_assign _) ?_
  simp only [pS, pN, pA, pC, pZ]
  refine do_ rfl (.int .i64 0) (ex_assign _) ?_
  simp only [pS, pN, pA, pC, pZ]
  refine wl_nil (hK171 _ _ ?_)
  refine wp_seq_k (fun K182 hK182 => region_wl ?_)
  refine do_ rfl v (ex_move _) ?_
  simp only [pS, pN, pA, pC, pZ]
  obtain ⟨F183, S184, le185, hv186⟩ := St.freeze S173 (i := 0) rfl (Nat.le_refl _)
  have S184 : St W (whole W) w172 F183 [] [] := S184
  have hv186 : Prs _ v (rootsF (forestW (writesN l0 20))) := hv186
  obtain ⟨a187, c188, rfl, h189, h190⟩ := Sl.shape hv186
  unfold maxLen at h190
  refine stGives S184 rfl (ex_fn (vs := #[(.slice a187 (rootsF (forestW (writesN l0 20))).length c188)]) (map1 rfl) rfl (ent_18 _ _)) (Root_spec _ _ _ (rootsF (forestW (writesN l0 20))) (S184).sat (hT.at S184.gr.below) hv186 (rootsF_ok okf)) ?_
  intro v196 w191 F193 S192 le194 R195
  obtain ⟨x197, rfl, r198⟩ := R195
  obtain ⟨xa199, xc200, rfl, _⟩ := r198.shape
  have r198 : Bs _ (.slice xa199 (rootT (rootsF (forestW (writesN l0 20)))).length xc200) (rootT (rootsF (forestW (writesN l0 20)))) := r198
  simp only [pS, pN, pA, pC, pZ]
  refine do_ rfl (.tuple #[(.slice xa199 (rootT (rootsF (forestW (writesN l0 20)))).length xc200), (.int .i64 0)]) (ex_move _) ?_
  simp only [pS, pN, pA, pC, pZ]
  refine do_ rfl (.slice xa199 (rootT (rootsF (forestW (writesN l0 20)))).length xc200) (ex_extract rfl rfl) ?_
  simp only [pS, pN, pA, pC, pZ]
  refine do_ rfl (.int .i64 0) (ex_extract rfl rfl) ?_
  simp only [pS, pN, pA, pC, pZ]
  refine do_ rfl (.slice xa199 (rootT (rootsF (forestW (writesN l0 20)))).length xc200) (ex_assign _) ?_
  simp only [pS, pN, pA, pC, pZ]
  refine do_ rfl (.int .i64 0) (ex_assign _) ?_
  simp only [pS, pN, pA, pC, pZ]
  refine wl_nil (hK182 _ _ ?_)
  refine wp_seq_k (fun K201 hK201 => region_wl ?_)
  refine do_ rfl (.int .i64 0) (ex_move _) ?_
  simp only [pS, pN, pA, pC, pZ]
  refine do_ rfl (.bool true) (ex_eql (b := true) rfl rfl (by decide)) ?_
  simp only [pS, pN, pA, pC, pZ]
  refine do_ rfl (.bool true) (ex_move _) ?_
  simp only [pS, pN, pA, pC, pZ]
  refine do_ rfl (.int .i64 0) (ex_move _) ?_
  simp only [pS, pN, pA, pC, pZ]
  refine do_ rfl (.bool true) (ex_eql (b := true) rfl rfl (by decide)) ?_
  simp only [pS, pN, pA, pC, pZ]
  refine do_ rfl (.bool true) (ex_pick (b := true) rfl) ?_
  simp only [pS, pN, pA, pC, pZ]
  refine do_ rfl (.bool true) (ex_move _) ?_
  simp only [pS, pN, pA, pC, pZ]
  refine do_ rfl (.slice xa180 (rootF (forestW (writesN l0 20))).length xc181) (ex_move _) ?_
  simp only [pS, pN, pA, pC, pZ]
  refine do_ rfl (.slice xa199 (rootT (rootsF (forestW (writesN l0 20)))).length xc200) (ex_move _) ?_
  simp only [pS, pN, pA, pC, pZ]
  refine stTells (v := (.bool true)) S192 rfl (ex_fn (vs := #[(.slice xa180 (rootF (forestW (writesN l0 20))).length xc181), (.slice xa199 (rootT (rootsF (forestW (writesN l0 20)))).length xc200)]) (map2 rfl rfl) rfl (ent_19 _ _)) (tells_bool (tells_same (same_spec _ _ _ _ (rootF (forestW (writesN l0 20))) (rootT (rootsF (forestW (writesN l0 20)))) (S192).sat (r179.mono (le185.trans le194)) r198)) (beq_iff_eq.2 (rfl))) (fun w202 S203 => ?_)
  simp only [pS, pN, pA, pC, pZ]
  refine do_ rfl (.bool true) (ex_pick (b := true) rfl) ?_
  simp only [pS, pN, pA, pC, pZ]
  refine do_ rfl (.bool true) (ex_move _) ?_
  simp only [pS, pN, pA, pC, pZ]
  refine do_ rfl (.slice xa180 (rootF (forestW (writesN l0 20))).length xc181) (ex_move _) ?_
  simp only [pS, pN, pA, pC, pZ]
  refine do_ rfl (.int .i64 (((rootF (forestW (writesN l0 20))).length : Nat) : Int)) (ex_len Tryd.underlying23 rfl) ?_
  simp only [pS, pN, pA, pC, pZ]
  refine do_ rfl (.bool true) (ex_eql (m := (((rootF (forestW (writesN l0 20))).length : Nat) : Int)) (n := (32 : Int)) (b := true) rfl rfl (beq_iff_eq.2 (by rw [rootF_len]; rfl))) ?_
  simp only [pS, pN, pA, pC, pZ]
  refine do_ rfl (.bool true) (ex_pick (b := true) rfl) ?_
  simp only [pS, pN, pA, pC, pZ]
  refine do_ rfl (.bool true) (ex_assign _) ?_
  simp only [pS, pN, pA, pC, pZ]
  refine wl_nil (hK201 _ _ ?_)
  refine wp_ret ?_
  (try simp only [Exit.then, Exit.inBlock, ↓reduceIte, Nat.reduceEqDiff])
  refine bodyPost_ret (v := (.bool true)) ?_ rfl ?_
  ·exact res_t rfl rfl
  ·exact ⟨rfl, S203.gr.below⟩
end Go.Proofs.YtikklmjengkliaaDoor
