/- The walk of PairsOrder -/
import Derived.Test.YtcanckliggcllaaDoorBV7
import Derived.Test.YtcanckliggcllaaDoorBV4
namespace Go.Proofs.YtcanckliggcllaaDoor
open Go.RowKit
set_option maxRecDepth 100000
set_option linter.unusedVariables false
set_option linter.unusedSimpArgs false
theorem hl_two {P : Program} {Q : Exit → Act → World → Prop} {F : Fz} {fuel : Nat} {listed : Array Bool} {a : Act} {w : World} {l : List Oper} {o1 o2 : Oper} (i j : Nat) (hr : Region.ready .any l.toArray listed = [i, j]) (hi : l[i]? = some o1) (hj : l[j]? = some o2)
    (h1 : WL P l.toArray (Exit.then (fun a' w' => Sat w' F ∧ Go.wpAnyH P .any l.toArray Q (fun w => Sat w F) fuel (listed.setIfInBounds i true) a' w') Q) [o1] a w)
    (h2 : WL P l.toArray (Exit.then (fun a' w' => Sat w' F ∧ Go.wpAnyH P .any l.toArray Q (fun w => Sat w F) fuel (listed.setIfInBounds j true) a' w') Q) [o2] a w) : HL P l.toArray Q F (fuel + 1) listed a w := by
  refine ⟨Go.wpAnyH_all hr (by simp) fun k hk => ?_⟩
  have key : ∀ (m : Nat) (o : Oper), l[m]? = some o → WL P l.toArray (Exit.then (fun a' w' => Sat w' F ∧ Go.wpAnyH P .any l.toArray Q (fun w => Sat w F) fuel (listed.setIfInBounds m true) a' w') Q) [o] a w → wpOp P l.toArray Q m (fun a' w' => Sat w' F ∧ Go.wpAnyH P .any l.toArray Q (fun w => Sat w F) fuel (listed.setIfInBounds m true) a' w') a w := by
    intro m o hm h
    have h1 := h.out
    unfold wpList at h1
    unfold wpOp
    have hi' : l.toArray[m]? = some o := by simpa using hm
    simp only [hi']
    split
    · rename_i hw
      rw [if_pos hw] at h1
      rcases h1 with h1 | h1
      · left
        refine Oper.wp_mono (fun a' w' hk => ?_) (Oper.wp_exit h1)
        exact hk
      · exact .inr h1
    · rename_i hw
      rw [if_neg hw] at h1
      exact h1
  rcases (by simpa using hk : k = i ∨ k = j) with rfl | rfl
  · exact key _ _ hi h1
  · exact key _ _ hj h2
theorem treeAt_or {l : List Pr} (h : ∀ p ∈ l, PairOk p) : ∀ n k, treeAt l n k = 0 ∨ treeAt l n k = 3
  | 0, _ => .inl rfl
  | n + 1, k => by
    rw [treeAt]
    split
    · exact .inl rfl
    · rename_i p hp
      rw [if_neg (by rw [pairE_ok.2 (h p (List.mem_of_getElem? hp))]; simp)]
      split
      · exact .inr rfl
      · exact treeAt_or h n (k + 1)
theorem swap_three {l : List Pr} {i : Nat} {a b : Pr} (ok : TreeOk 60 l) (ha : l[i]? = some a) (hb : l[i + 1]? = some b) : treeE ((l.set i b).set (i + 1) a) = 3 := by
  obtain ⟨h1, e1⟩ := List.getElem?_eq_some_iff.1 ha
  obtain ⟨h2, e2⟩ := List.getElem?_eq_some_iff.1 hb
  have hlt : Lt a.1 b.1 := by rw [← e1, ← e2]; exact List.pairwise_iff_getElem.1 ok.rise i (i + 1) h1 h2 (by omega)
  have hall : ∀ p ∈ (l.set i b).set (i + 1) a, PairOk p := by
    intro p hp
    rcases List.mem_or_eq_of_mem_set hp with hp | rfl
    · rcases List.mem_or_eq_of_mem_set hp with hp | rfl
      · exact ok.ok p hp
      · exact ok.ok _ (List.mem_of_getElem? hb)
    · exact ok.ok _ (List.mem_of_getElem? ha)
  have hl : ((l.set i b).set (i + 1) a).length = l.length := by simp
  have h60 := ok.len
  have h0 : treeE ((l.set i b).set (i + 1) a) ≠ 0 := by
    intro e
    have hr := (treeE_ok.1 e).rise
    have := List.pairwise_iff_getElem.1 hr i (i + 1) (by omega) (by omega) (by omega)
    simp only [List.getElem_set_self, List.getElem_set_ne (show i + 1 ≠ i by omega)] at this
    have h3 := less_asymm _ _ hlt
    rw [show Op.bytesLess b.1 a.1 = true from this] at h3
    cases h3
  unfold treeE at h0 ⊢
  rw [if_neg (by omega)] at h0 ⊢
  rcases treeAt_or hall _ 0 with h | h
  · exact absurd h h0
  · exact h
theorem treeThree_spec (F : Fz) (w : World) (v : Value) (l : List Pr) (hs : Sat w F) (hv : Prs F v l) (e : treeE l = 3) :
    Calls Tryd.prog 26 #[v] w (Tells w (.int .i64 3)) := by
  have := treeCheck_spec F w v l hs hv
  rwa [e] at this
theorem rootThree_spec (F : Fz) (w : World) (v : Value) (l : List Pr) (hs : Sat w F) (hv : Prs F v l) (e : treeE l = 3) :
    Calls Tryd.prog 22 #[v] w (Tells w (.tuple #[.slice none 0 0, .int .i64 3])) := by
  have := RootBad_spec F w v l hs hv (by rw [e]; decide)
  rwa [e] at this
theorem proveThree_spec (F : Fz) (w : World) (v u : Value) (l : List Pr) (k : By) (hs : Sat w F) (hv : Prs F v l) (hu : Bs F u k) (e : treeE l = 3) :
    Calls Tryd.prog 27 #[v, u] w (Tells w (.tuple #[.agg #[.bool false, .slice none 0 0, .slice none 0 0, .slice none 0 0], .int .i64 3])) := by
  have := proveBad_spec F w v u l k hs hv hu (by rw [e]; decide)
  rwa [e] at this
theorem ones_three : treeE ([(([1] : By), ([] : By)), (([1] : By), ([] : By))] : List Pr) = 3 := by decide +kernel
set_option maxHeartbeats 8000000 in
theorem pairsOrder_walk (W : World) (hT : Tabs W) (v0 : Value) (l0 : List Pr) (z0 : Prs (whole W) v0 l0) (x1 : Int) (b1 : -9223372036854775808 ≤ x1) (b1' : x1 ≤ 9223372036854775807) :
    Calls Tryd.prog 8 #[v0, .int .i64 x1] W (Tells W (.bool true)) := by
 obtain ⟨i5, hi5, hz5, hs5, hb5⟩ := info_parts infoU8
 obtain ⟨i38, hi38, hz38, hs38, hb38⟩ := info_parts info_38
 obtain ⟨a0, c0, rfl, q0, q0'⟩ := Sl.shape z0
 have S := St.start (Sat.whole W)
 go_enter Tryd.func8, Tryd.ntmps8
 refine wp_seq_k (fun K101 hK101 => region_wl ?_)
 refine do_ rfl (.bool false) (ex_assign _) ?_
 simp only [pS, pN, pA, pC, pZ]
 refine wl_nil (hK101 _ _ ?_)
 refine wp_seq_k (fun K102 hK102 => region_wl ?_)
 refine do_ rfl (.slice a0 l0.length c0) (ex_move _) ?_
 simp only [pS, pN, pA, pC, pZ]
 refine stGivesO PrC.mono S rfl (ex_fn (vs := #[(.slice a0 l0.length c0), (.int .i64 20)]) (map2 rfl rfl) rfl (ent_24 _ _)) (pairs_spec _ _ _ l0 20 (S).sat z0 (by omega)) ?_
 intro v107 w103 F105 S104 le106
 simp only [pS, pN, pA, pC, pZ]
 have S104 : St W (whole W) w103 F105 [] [ownP 2 PrC PrC.mono 38 W.heap.size v107 (pairsN l0 20)] := S104
 obtain ⟨a108, cap109, rfl, h110, h111⟩ := (S104.own (i := 0) rfl).shape
 unfold maxLen at h111
 refine do_ rfl (.slice a108 (pairsN l0 20).length cap109) (ex_assign _) ?_
 simp only [pS, pN, pA, pC, pZ]
 refine wl_nil (hK102 _ _ ?_)
 refine wp_seq_k (fun K112 hK112 => ?_)
 refine wp_seq_k (fun K113 hK113 => ?_)
 have hok := pairsN_ok l0 20
 have hl20 := hok.len
 refine region_wl ?_
 refine do_ rfl (.slice a108 (pairsN l0 20).length cap109) (ex_move _) ?_
 simp only [pS, pN, pA, pC, pZ]
 refine do_ rfl (.int .i64 (((pairsN l0 20).length : Nat) : Int)) (ex_len Tryd.underlying40 rfl) ?_
 simp only [pS, pN, pA, pC, pZ]
 by_cases hc16 : (pairsN l0 20).length < 2
 ·refine do_ rfl (.bool true) (ex_lss (m := (((pairsN l0 20).length : Nat) : Int)) (n := (2 : Int)) (b := true) rfl rfl (decide_eq_true (by omega))) ?_
  simp only [pS, pN, pA, pC, pZ]
  refine wl_nil (hK113 _ _ ?_)
  refine wp_cond_true rfl ?_
  refine wp_seq_k (fun K114 hK114 => ?_)
  obtain ⟨F115, S116, le117, hv118⟩ := St.freeze S104 (i := 0) rfl (Nat.le_refl _)
  have S116 : St W (whole W) w103 F115 [] [] := S116
  have hv118 : Prs _ (.slice a108 (pairsN l0 20).length cap109) (pairsN l0 20) := hv118
  refine region_wl ?_
  refine do_ rfl (.slice a108 (pairsN l0 20).length cap109) (ex_move _) ?_
  simp only [pS, pN, pA, pC, pZ]
  refine stTells (v := (.int .i64 0)) S116 rfl (ex_fn (vs := #[(.slice a108 (pairsN l0 20).length cap109)]) (map1 rfl) rfl (ent_26 _ _)) (treeCheckOk_spec _ _ _ _ (S116).sat hv118 (hok.mono (by omega))) (fun w119 S120 => ?_)
  simp only [pS, pN, pA, pC, pZ]
  refine do_ rfl (.bool true) (ex_eql (b := true) rfl rfl (by decide)) ?_
  simp only [pS, pN, pA, pC, pZ]
  refine do_ rfl (.bool true) (ex_move _) ?_
  simp only [pS, pN, pA, pC, pZ]
  refine stNew S120 (v := fun n => .slice (some ⟨n, 0, none⟩) 1 1) rfl (ex_lit (ps := #[(0, (.int .u8 1))]) (cells := #[(.int .u8 1)]) (E := 5) (bmap1 rfl) (fun w => by kernel_rfl)) (fun n121 w122 S123 => ?_)
  simp only [pS, pN, pA, pC, pZ]
  have S123 : St W (whole W) w122 F115 [⟨n121, [(.int .u8 1)], 5⟩] [] := S123
  refine do_ rfl (.agg #[(.slice (some ⟨n121, 0, none⟩) 1 1), (.slice none 0 0)]) (ex_build (ps := #[(0, (.slice (some ⟨n121, 0, none⟩) 1 1))]) (bmap1 rfl) (by kernel_rfl)) ?_
  simp only [pS, pN, pA, pC, pZ]
  refine stNew S123 (v := fun n => .slice (some ⟨n, 0, none⟩) 1 1) rfl (ex_lit (ps := #[(0, (.int .u8 1))]) (cells := #[(.int .u8 1)]) (E := 5) (bmap1 rfl) (fun w => by kernel_rfl)) (fun n124 w125 S126 => ?_)
  simp only [pS, pN, pA, pC, pZ]
  have S126 : St W (whole W) w125 F115 [⟨n124, [(.int .u8 1)], 5⟩, ⟨n121, [(.int .u8 1)], 5⟩] [] := S126
  refine do_ rfl (.agg #[(.slice (some ⟨n124, 0, none⟩) 1 1), (.slice none 0 0)]) (ex_build (ps := #[(0, (.slice (some ⟨n124, 0, none⟩) 1 1))]) (bmap1 rfl) (by kernel_rfl)) ?_
  simp only [pS, pN, pA, pC, pZ]
  refine stNew S126 (v := fun n => .slice (some ⟨n, 0, none⟩) 2 2) rfl (ex_lit (ps := #[(0, (.agg #[(.slice (some ⟨n121, 0, none⟩) 1 1), (.slice none 0 0)])), (1, (.agg #[(.slice (some ⟨n124, 0, none⟩) 1 1), (.slice none 0 0)]))]) (cells := #[(.slice (some ⟨n121, 0, none⟩) 1 1), (.slice none 0 0), (.slice (some ⟨n124, 0, none⟩) 1 1), (.slice none 0 0)]) (E := 38) (bmap2 rfl rfl) (fun w => by kernel_rfl)) (fun n127 w128 S129 => ?_)
  simp only [pS, pN, pA, pC, pZ]
  have S129 : St W (whole W) w128 F115 [⟨n127, [(.slice (some ⟨n121, 0, none⟩) 1 1), (.slice none 0 0), (.slice (some ⟨n124, 0, none⟩) 1 1), (.slice none 0 0)], 38⟩, ⟨n124, [(.int .u8 1)], 5⟩, ⟨n121, [(.int .u8 1)], 5⟩] [] := S129
  obtain ⟨S130, le131, hc132⟩ := St.freezeBlk S129 (i := 2) rfl
  have r134 : Bs _ (.slice (some ⟨n121, 0, none⟩) 1 1) ([1] : By) := bs_of_block (l := ([1] : By)) hc132 rfl (by unfold maxLen; simp)
  generalize addF F115 w128 n121 = F133 at *
  have S130 : St W (whole W) w128 F133 [⟨n127, [(.slice (some ⟨n121, 0, none⟩) 1 1), (.slice none 0 0), (.slice (some ⟨n124, 0, none⟩) 1 1), (.slice none 0 0)], 38⟩, ⟨n124, [(.int .u8 1)], 5⟩] [] := S130
  obtain ⟨S135, le136, hc137⟩ := St.freezeBlk S130 (i := 1) rfl
  have r139 : Bs _ (.slice (some ⟨n124, 0, none⟩) 1 1) ([1] : By) := bs_of_block (l := ([1] : By)) hc137 rfl (by unfold maxLen; simp)
  generalize addF F133 w128 n124 = F138 at *
  have S135 : St W (whole W) w128 F138 [⟨n127, [(.slice (some ⟨n121, 0, none⟩) 1 1), (.slice none 0 0), (.slice (some ⟨n124, 0, none⟩) 1 1), (.slice none 0 0)], 38⟩] [] := S135
  obtain ⟨S140, le141, hc142⟩ := St.freezeBlk S135 (i := 0) rfl
  have r144 : Prs _ (.slice (some ⟨n127, 0, none⟩) 2 2) ([(([1] : By), ([] : By)), (([1] : By), ([] : By))] : List Pr) := sl_of_block (R := PrC) (l := ([(([1] : By), ([] : By)), (([1] : By), ([] : By))] : List Pr)) (el := [[(.slice (some ⟨n121, 0, none⟩) 1 1), (.slice none 0 0)], [(.slice (some ⟨n124, 0, none⟩) 1 1), (.slice none 0 0)]]) hc142 rfl ⟨⟨_, _, rfl, ((r134.mono le136).mono le141), Bs.nil _⟩, ⟨_, _, rfl, (r139.mono le141), Bs.nil _⟩, trivial⟩ (by simp) (by unfold maxLen; simp)
  generalize addF F138 w128 n127 = F143 at *
  have S140 : St W (whole W) w128 F143 [] [] := S140
  refine stTells (v := (.int .i64 3)) S140 rfl (ex_fn (vs := #[(.slice (some ⟨n127, 0, none⟩) 2 2)]) (map1 rfl) rfl (ent_26 _ _)) (treeThree_spec _ _ _ _ (S140).sat r144 ones_three) (fun w145 S146 => ?_)
  simp only [pS, pN, pA, pC, pZ]
  refine do_ rfl (.bool true) (ex_eql (b := true) rfl rfl (by decide)) ?_
  simp only [pS, pN, pA, pC, pZ]
  refine do_ rfl (.bool true) (ex_pick (b := true) rfl) ?_
  simp only [pS, pN, pA, pC, pZ]
  refine do_ rfl (.bool true) (ex_assign _) ?_
  simp only [pS, pN, pA, pC, pZ]
  refine wl_nil (hK114 _ _ ?_)
  refine wp_ret ?_
  (try simp only [Exit.then, Exit.inBlock, ↓reduceIte, Nat.reduceEqDiff])
  refine bodyPost_ret (v := (.bool true)) ?_ rfl ?_
  ·exact res_t rfl rfl
  ·exact ⟨rfl, S146.gr.below⟩
 ·refine do_ rfl (.bool false) (ex_lss (m := (((pairsN l0 20).length : Nat) : Int)) (n := (2 : Int)) (b := false) rfl rfl (decide_eq_false (by omega))) ?_
  simp only [pS, pN, pA, pC, pZ]
  refine wl_nil (hK113 _ _ ?_)
  refine wp_cond_false rfl ?_
  refine wp_skip ?_
  refine hK112 _ _ ?_
  refine wp_seq_k (fun K147 hK147 => ?_)
  obtain ⟨hp0kn, hp1kn⟩ := pick_bd x1 (((pairsN l0 20).length - 1 : Nat) : Int) (by omega)
  obtain ⟨kn, hkn⟩ : ∃ k : Nat, pick x1 (((pairsN l0 20).length - 1 : Nat) : Int) = (k : Int) := ⟨(pick x1 (((pairsN l0 20).length - 1 : Nat) : Int)).toNat, (Int.toNat_of_nonneg hp0kn).symm⟩
  have hkb : kn < (pairsN l0 20).length - 1 := by omega
  refine region_wl ?_
  refine do_ rfl (.int .i64 x1) (ex_move _) ?_
  simp only [pS, pN, pA, pC, pZ]
  refine do_ rfl (.slice a108 (pairsN l0 20).length cap109) (ex_move _) ?_
  simp only [pS, pN, pA, pC, pZ]
  refine do_ rfl (.int .i64 (((pairsN l0 20).length : Nat) : Int)) (ex_len Tryd.underlying40 rfl) ?_
  simp only [pS, pN, pA, pC, pZ]
  refine do_ rfl (.int .i64 ((((pairsN l0 20).length - 1) : Nat) : Int)) (ex_sub (m := (((pairsN l0 20).length : Nat) : Int)) (n := (1 : Int)) (r := ((((pairsN l0 20).length - 1) : Nat) : Int)) rfl rfl (by omega) (by omega) (by omega)) ?_
  simp only [pS, pN, pA, pC, pZ]
  refine stTells (v := (.int .i64 ((kn : Nat) : Int))) S104 rfl (ex_fn (vs := #[(.int .i64 x1), (.int .i64 ((((pairsN l0 20).length - 1) : Nat) : Int))]) (map2 rfl rfl) rfl (ent_19 _ _)) (hkn ▸ tells_same (picked_spec x1 ((((pairsN l0 20).length - 1) : Nat) : Int) _ b1 b1' (by omega) (by omega))) (fun w148 S149 => ?_)
  simp only [pS, pN, pA, pC, pZ]
  refine do_ rfl (.int .i64 ((kn : Nat) : Int)) (ex_assign _) ?_
  simp only [pS, pN, pA, pC, pZ]
  refine wl_nil (hK147 _ _ ?_)
  refine wp_seq_k (fun K150 hK150 => ?_)
  obtain ⟨a, ha⟩ : ∃ p, (pairsN l0 20)[kn]? = some p := ⟨(pairsN l0 20)[kn]'(by omega), List.getElem?_eq_getElem (by omega)⟩
  obtain ⟨b, hb⟩ : ∃ p, (pairsN l0 20)[kn + 1]? = some p := ⟨(pairsN l0 20)[kn + 1]'(by omega), List.getElem?_eq_getElem (by omega)⟩
  have hsw := swap_three (hok.mono (by omega)) ha hb
  have hsl : ((pairsN l0 20).set kn b).length = (pairsN l0 20).length := List.length_set
  have hsl2 : (((pairsN l0 20).set kn b).set (kn + 1) a).length = (pairsN l0 20).length := by rw [List.length_set, List.length_set]
  obtain ⟨g151, rfl⟩ := Own.addr0 (S149.own (i := 0) rfl) (by omega)
  refine region_hl S149 (by kernel_rfl) (fun w153 S152 => ?_)
  refine hl_take 0 rfl (by kernel_rfl) (v := (.slice (some ⟨g151, 0, none⟩) (pairsN l0 20).length cap109)) (fun _ _ _ h => h) S152.sat rfl (fun w154 hs155 => ex_move _) ?_
  simp only [pS, pN, pA, pC, pZ]
  refine hl_take 1 rfl (by kernel_rfl) (v := (.int .i64 ((kn : Nat) : Int))) (fun _ _ _ h => h) S152.sat rfl (fun w156 hs157 => ex_move _) ?_
  simp only [pS, pN, pA, pC, pZ]
  refine hl_take 2 rfl (by kernel_rfl) (v := (.slice (some ⟨g151, 0, none⟩) (pairsN l0 20).length cap109)) (fun _ _ _ h => h) S152.sat rfl (fun w158 hs159 => ex_move _) ?_
  simp only [pS, pN, pA, pC, pZ]
  refine hl_take 3 rfl (by kernel_rfl) (v := (.int .i64 ((kn : Nat) : Int))) (fun _ _ _ h => h) S152.sat rfl (fun w160 hs161 => ex_move _) ?_
  simp only [pS, pN, pA, pC, pZ]
  refine hl_take 4 rfl (by kernel_rfl) (v := (.int .i64 (((kn + 1) : Nat) : Int))) (fun _ _ _ h => h) S152.sat rfl (fun w162 hs163 => ex_add (m := ((kn : Nat) : Int)) (n := (1 : Int)) (r := (((kn + 1) : Nat) : Int)) rfl rfl (by omega) (by omega) (by omega)) ?_
  simp only [pS, pN, pA, pC, pZ]
  refine hl_take 5 rfl (by kernel_rfl) (v := (.slice (some ⟨g151, 0, none⟩) (pairsN l0 20).length cap109)) (fun _ _ _ h => h) S152.sat rfl (fun w164 hs165 => ex_move _) ?_
  simp only [pS, pN, pA, pC, pZ]
  refine hl_take 6 rfl (by kernel_rfl) (v := (.int .i64 ((kn : Nat) : Int))) (fun _ _ _ h => h) S152.sat rfl (fun w166 hs167 => ex_move _) ?_
  simp only [pS, pN, pA, pC, pZ]
  refine hl_take 7 rfl (by kernel_rfl) (v := (.int .i64 (((kn + 1) : Nat) : Int))) (fun _ _ _ h => h) S152.sat rfl (fun w168 hs169 => ex_add (m := ((kn : Nat) : Int)) (n := (1 : Int)) (r := (((kn + 1) : Nat) : Int)) rfl rfl (by omega) (by omega) (by omega)) ?_
  simp only [pS, pN, pA, pC, pZ]
  refine hl_take 8 rfl (by kernel_rfl) (v := (.pointer (some ⟨g151, 0 + (kn + 1) * 2, none⟩))) (fun _ _ _ h => h) S152.sat rfl (fun w170 hs171 => ex_at (i := (kn + 1)) (sz := 2) Tryd.underlying40 (sizeof_38 _) rfl rfl rfl (by omega) rfl) ?_
  simp only [pS, pN, pA, pC, pZ]
  refine hl_take 10 rfl (by kernel_rfl) (v := (.slice (some ⟨g151, 0, none⟩) (pairsN l0 20).length cap109)) (fun _ _ _ h => h) S152.sat rfl (fun w172 hs173 => ex_move _) ?_
  simp only [pS, pN, pA, pC, pZ]
  refine hl_take 11 rfl (by kernel_rfl) (v := (.int .i64 ((kn : Nat) : Int))) (fun _ _ _ h => h) S152.sat rfl (fun w174 hs175 => ex_move _) ?_
  simp only [pS, pN, pA, pC, pZ]
  refine hl_take 12 rfl (by kernel_rfl) (v := (.pointer (some ⟨g151, 0 + kn * 2, none⟩))) (fun _ _ _ h => h) S152.sat rfl (fun w176 hs177 => ex_at (i := kn) (sz := 2) Tryd.underlying40 (sizeof_38 _) rfl rfl rfl (by omega) rfl) ?_
  simp only [pS, pN, pA, pC, pZ]
  refine hl_two 9 13 (by kernel_rfl) rfl rfl ?_ ?_
  ·obtain ⟨g178, ha179, xa181, xc182, xa185, xc186, c180, c184, r183, r187⟩ := pr_at (S152.own (i := 0) rfl) hb
   injection ha179 with ha179; injection ha179 with ha179; subst ha179
   refine do_ rfl (.agg #[(.slice xa181 b.1.length xc182), (.slice xa185 b.2.length xc186)]) (ex_load rfl (loadN (cs := [(.slice xa181 b.1.length xc182), (.slice xa185 b.2.length xc186)]) Tryd.underlying38 rfl (size_38) (range2 c180 c184))) ?_
   simp only [pS, pN, pA, pC, pZ]
   refine wl_nil (hl_back S152.sat ?_)
   refine hl_next 13 (by kernel_rfl) rfl ?_
   obtain ⟨g188, ha189, xa191, xc192, xa195, xc196, c190, c194, r193, r197⟩ := pr_at (S152.own (i := 0) rfl) ha
   injection ha189 with ha189; injection ha189 with ha189; subst ha189
   refine do_ rfl (.agg #[(.slice xa191 a.1.length xc192), (.slice xa195 a.2.length xc196)]) (ex_load rfl (loadN (cs := [(.slice xa191 a.1.length xc192), (.slice xa195 a.2.length xc196)]) Tryd.underlying38 rfl (size_38) (range2 c190 c194))) ?_
   simp only [pS, pN, pA, pC, pZ]
   refine wl_nil (hl_back S152.sat ?_)
   refine hl_take 14 rfl (by kernel_rfl) (v := (.pointer (some ⟨g151, 0 + kn * 2, none⟩))) (fun _ _ _ h => h) S152.sat rfl (fun w198 hs199 => ex_at (i := kn) (sz := 2) Tryd.underlying40 (sizeof_38 _) rfl rfl rfl (by omega) rfl) ?_
   simp only [pS, pN, pA, pC, pZ]
   refine hl_next 15 (by kernel_rfl) rfl ?_
   refine stSetRow (r := 0) (i := kn) (p := b) (u := (.agg #[(.slice xa181 b.1.length xc182), (.slice xa185 b.2.length xc186)])) S152 rfl rfl (by omega) rfl rfl (by omega) (size_38) (allc2 rfl rfl) rfl ⟨_, _, rfl, r183, r187⟩ (Nat.le_refl _) (fun w200 S201 => ?_)
   simp only [pS, pN, pA, pC, pZ]
   have S201 : St W (whole W) w200 F105 [] [ownP 2 PrC PrC.mono 38 W.heap.size (.slice (some ⟨g151, 0, none⟩) (pairsN l0 20).length cap109) ((pairsN l0 20).set kn b)] := S201
   refine wl_nil (hl_back S201.sat ?_)
   refine hl_take 16 rfl (by kernel_rfl) (v := (.pointer (some ⟨g151, 0 + (kn + 1) * 2, none⟩))) (fun _ _ _ h => h) S201.sat rfl (fun w202 hs203 => ex_at (i := (kn + 1)) (sz := 2) Tryd.underlying40 (sizeof_38 _) rfl rfl rfl (by omega) rfl) ?_
   simp only [pS, pN, pA, pC, pZ]
   refine hl_next 17 (by kernel_rfl) rfl ?_
   refine stSetRow (r := 0) (i := (kn + 1)) (p := a) (u := (.agg #[(.slice xa191 a.1.length xc192), (.slice xa195 a.2.length xc196)])) S201 rfl rfl (by omega) rfl rfl (by omega) (size_38) (allc2 rfl rfl) rfl ⟨_, _, rfl, r193, r197⟩ (Nat.le_refl _) (fun w204 S205 => ?_)
   simp only [pS, pN, pA, pC, pZ]
   have S205 : St W (whole W) w204 F105 [] [ownP 2 PrC PrC.mono 38 W.heap.size (.slice (some ⟨g151, 0, none⟩) (pairsN l0 20).length cap109) (((pairsN l0 20).set kn b).set (kn + 1) a)] := S205
   refine wl_nil (hl_back S205.sat ?_)
   refine hl_done (by kernel_rfl) ?_
   refine hK150 _ _ ?_
   refine wp_seq_k (fun K206 hK206 => ?_)
   obtain ⟨F207, S208, le209, hv210⟩ := St.freeze S205 (i := 0) rfl (Nat.le_refl _)
   have S208 : St W (whole W) w204 F207 [] [] := S208
   have hv210 : Prs _ (.slice (some ⟨g151, 0, none⟩) (pairsN l0 20).length cap109) (((pairsN l0 20).set kn b).set (kn + 1) a) := hv210
   refine region_wl ?_
   refine do_ rfl (.slice (some ⟨g151, 0, none⟩) (pairsN l0 20).length cap109) (ex_move _) ?_
   simp only [pS, pN, pA, pC, pZ]
   refine stTells (v := (.int .i64 3)) S208 rfl (ex_fn (vs := #[(.slice (some ⟨g151, 0, none⟩) (pairsN l0 20).length cap109)]) (map1 rfl) rfl (ent_26 _ _)) (treeThree_spec _ _ _ _ (S208).sat hv210 hsw) (fun w211 S212 => ?_)
   simp only [pS, pN, pA, pC, pZ]
   refine do_ rfl (.int .i64 3) (ex_assign _) ?_
   simp only [pS, pN, pA, pC, pZ]
   refine wl_nil (hK206 _ _ ?_)
   refine wp_seq_k (fun K213 hK213 => region_wl ?_)
   refine do_ rfl (.slice (some ⟨g151, 0, none⟩) (pairsN l0 20).length cap109) (ex_move _) ?_
   simp only [pS, pN, pA, pC, pZ]
   refine stTells (v := (.tuple #[(.slice none 0 0), (.int .i64 3)])) S212 rfl (ex_fn (vs := #[(.slice (some ⟨g151, 0, none⟩) (pairsN l0 20).length cap109)]) (map1 rfl) rfl (ent_22 _ _)) (rootThree_spec _ _ _ _ (S212).sat hv210 hsw) (fun w214 S215 => ?_)
   simp only [pS, pN, pA, pC, pZ]
   refine do_ rfl (.tuple #[(.slice none 0 0), (.int .i64 3)]) (ex_move _) ?_
   simp only [pS, pN, pA, pC, pZ]
   refine do_ rfl (.slice none 0 0) (ex_extract rfl rfl) ?_
   simp only [pS, pN, pA, pC, pZ]
   refine do_ rfl (.int .i64 3) (ex_extract rfl rfl) ?_
   simp only [pS, pN, pA, pC, pZ]
   refine do_ rfl (.slice none 0 0) (ex_assign _) ?_
   simp only [pS, pN, pA, pC, pZ]
   refine do_ rfl (.int .i64 3) (ex_assign _) ?_
   simp only [pS, pN, pA, pC, pZ]
   refine wl_nil (hK213 _ _ ?_)
   refine wp_seq_k (fun K216 hK216 => region_wl ?_)
   refine do_ rfl (.slice (some ⟨g151, 0, none⟩) (pairsN l0 20).length cap109) (ex_move _) ?_
   simp only [pS, pN, pA, pC, pZ]
   refine stNew S215 (v := fun n => .slice (some ⟨n, 0, none⟩) 1 1) rfl (ex_lit (ps := #[(0, (.int .u8 1))]) (cells := #[(.int .u8 1)]) (E := 5) (bmap1 rfl) (fun w => by kernel_rfl)) (fun n217 w218 S219 => ?_)
   simp only [pS, pN, pA, pC, pZ]
   have S219 : St W (whole W) w218 F207 [⟨n217, [(.int .u8 1)], 5⟩] [] := S219
   obtain ⟨S220, le221, hc222⟩ := St.freezeBlk S219 (i := 0) rfl
   have r224 : Bs _ (.slice (some ⟨n217, 0, none⟩) 1 1) ([1] : By) := bs_of_block (l := ([1] : By)) hc222 rfl (by unfold maxLen; simp)
   generalize addF F207 w218 n217 = F223 at *
   have S220 : St W (whole W) w218 F223 [] [] := S220
   refine stTells (v := (.tuple #[(.agg #[(.bool false), (.slice none 0 0), (.slice none 0 0), (.slice none 0 0)]), (.int .i64 3)])) S220 rfl (ex_fn (vs := #[(.slice (some ⟨g151, 0, none⟩) (pairsN l0 20).length cap109), (.slice (some ⟨n217, 0, none⟩) 1 1)]) (map2 rfl rfl) rfl (ent_27 _ _)) (proveThree_spec _ _ _ _ _ _ (S220).sat (hv210.mono le221) r224 hsw) (fun w225 S226 => ?_)
   simp only [pS, pN, pA, pC, pZ]
   refine do_ rfl (.tuple #[(.agg #[(.bool false), (.slice none 0 0), (.slice none 0 0), (.slice none 0 0)]), (.int .i64 3)]) (ex_move _) ?_
   simp only [pS, pN, pA, pC, pZ]
   refine do_ rfl (.agg #[(.bool false), (.slice none 0 0), (.slice none 0 0), (.slice none 0 0)]) (ex_extract rfl rfl) ?_
   simp only [pS, pN, pA, pC, pZ]
   refine do_ rfl (.int .i64 3) (ex_extract rfl rfl) ?_
   simp only [pS, pN, pA, pC, pZ]
   refine stNew S226 (v := fun n => .pointer (some ⟨n, 0, none⟩)) rfl (ex_alloc (zero_52 _)) (fun n227 w228 S229 => ?_)
   simp only [pS, pN, pA, pC, pZ]
   have S229 : St W (whole W) w228 F223 [⟨n227, [(.bool false), (.slice none 0 0), (.slice none 0 0), (.slice none 0 0)], 52⟩] [] := S229
   refine stStore (i := 0) (v := (.agg #[(.bool false), (.slice none 0 0), (.slice none 0 0), (.slice none 0 0)])) S229 rfl rfl rfl rfl (size_52) (allc4 rfl rfl rfl rfl) (Nat.le_of_ble_eq_true rfl) (fun w230 S231 => ?_)
   simp only [pS, pN, pA, pC, pZ]
   have S231 : St W (whole W) w230 F223 [⟨n227, [(.bool false), (.slice none 0 0), (.slice none 0 0), (.slice none 0 0)], 52⟩] [] := S231
   refine do_ rfl (.int .i64 3) (ex_assign _) ?_
   simp only [pS, pN, pA, pC, pZ]
   refine wl_nil (hK216 _ _ ?_)
   refine wp_seq_k (fun K232 hK232 => region_wl ?_)
   refine do_ rfl (.int .i64 3) (ex_move _) ?_
   simp only [pS, pN, pA, pC, pZ]
   refine do_ rfl (.bool true) (ex_eql (b := true) rfl rfl (by decide)) ?_
   simp only [pS, pN, pA, pC, pZ]
   refine do_ rfl (.bool true) (ex_move _) ?_
   simp only [pS, pN, pA, pC, pZ]
   refine do_ rfl (.int .i64 3) (ex_move _) ?_
   simp only [pS, pN, pA, pC, pZ]
   refine do_ rfl (.bool true) (ex_eql (b := true) rfl rfl (by decide)) ?_
   simp only [pS, pN, pA, pC, pZ]
   refine do_ rfl (.bool true) (ex_pick (b := true) rfl) ?_
   simp only [pS, pN, pA, pC, pZ]
   refine do_ rfl (.bool true) (ex_move _) ?_
   simp only [pS, pN, pA, pC, pZ]
   refine do_ rfl (.int .i64 3) (ex_move _) ?_
   simp only [pS, pN, pA, pC, pZ]
   refine do_ rfl (.bool true) (ex_eql (b := true) rfl rfl (by decide)) ?_
   simp only [pS, pN, pA, pC, pZ]
   refine do_ rfl (.bool true) (ex_pick (b := true) rfl) ?_
   simp only [pS, pN, pA, pC, pZ]
   refine do_ rfl (.bool true) (ex_assign _) ?_
   simp only [pS, pN, pA, pC, pZ]
   refine wl_nil (hK232 _ _ ?_)
   refine wp_ret ?_
   (try simp only [Exit.then, Exit.inBlock, ↓reduceIte, Nat.reduceEqDiff])
   refine bodyPost_ret (v := (.bool true)) ?_ rfl ?_
   ·exact res_t rfl rfl
   ·exact ⟨rfl, S231.gr.below⟩
  ·obtain ⟨g233, ha234, xa236, xc237, xa240, xc241, c235, c239, r238, r242⟩ := pr_at (S152.own (i := 0) rfl) ha
   injection ha234 with ha234; injection ha234 with ha234; subst ha234
   refine do_ rfl (.agg #[(.slice xa236 a.1.length xc237), (.slice xa240 a.2.length xc241)]) (ex_load rfl (loadN (cs := [(.slice xa236 a.1.length xc237), (.slice xa240 a.2.length xc241)]) Tryd.underlying38 rfl (size_38) (range2 c235 c239))) ?_
   simp only [pS, pN, pA, pC, pZ]
   refine wl_nil (hl_back S152.sat ?_)
   refine hl_next 9 (by kernel_rfl) rfl ?_
   obtain ⟨g243, ha244, xa246, xc247, xa250, xc251, c245, c249, r248, r252⟩ := pr_at (S152.own (i := 0) rfl) hb
   injection ha244 with ha244; injection ha244 with ha244; subst ha244
   refine do_ rfl (.agg #[(.slice xa246 b.1.length xc247), (.slice xa250 b.2.length xc251)]) (ex_load rfl (loadN (cs := [(.slice xa246 b.1.length xc247), (.slice xa250 b.2.length xc251)]) Tryd.underlying38 rfl (size_38) (range2 c245 c249))) ?_
   simp only [pS, pN, pA, pC, pZ]
   refine wl_nil (hl_back S152.sat ?_)
   refine hl_take 14 rfl (by kernel_rfl) (v := (.pointer (some ⟨g151, 0 + kn * 2, none⟩))) (fun _ _ _ h => h) S152.sat rfl (fun w253 hs254 => ex_at (i := kn) (sz := 2) Tryd.underlying40 (sizeof_38 _) rfl rfl rfl (by omega) rfl) ?_
   simp only [pS, pN, pA, pC, pZ]
   refine hl_next 15 (by kernel_rfl) rfl ?_
   refine stSetRow (r := 0) (i := kn) (p := b) (u := (.agg #[(.slice xa246 b.1.length xc247), (.slice xa250 b.2.length xc251)])) S152 rfl rfl (by omega) rfl rfl (by omega) (size_38) (allc2 rfl rfl) rfl ⟨_, _, rfl, r248, r252⟩ (Nat.le_refl _) (fun w255 S256 => ?_)
   simp only [pS, pN, pA, pC, pZ]
   have S256 : St W (whole W) w255 F105 [] [ownP 2 PrC PrC.mono 38 W.heap.size (.slice (some ⟨g151, 0, none⟩) (pairsN l0 20).length cap109) ((pairsN l0 20).set kn b)] := S256
   refine wl_nil (hl_back S256.sat ?_)
   refine hl_take 16 rfl (by kernel_rfl) (v := (.pointer (some ⟨g151, 0 + (kn + 1) * 2, none⟩))) (fun _ _ _ h => h) S256.sat rfl (fun w257 hs258 => ex_at (i := (kn + 1)) (sz := 2) Tryd.underlying40 (sizeof_38 _) rfl rfl rfl (by omega) rfl) ?_
   simp only [pS, pN, pA, pC, pZ]
   refine hl_next 17 (by kernel_rfl) rfl ?_
   refine stSetRow (r := 0) (i := (kn + 1)) (p := a) (u := (.agg #[(.slice xa236 a.1.length xc237), (.slice xa240 a.2.length xc241)])) S256 rfl rfl (by omega) rfl rfl (by omega) (size_38) (allc2 rfl rfl) rfl ⟨_, _, rfl, r238, r242⟩ (Nat.le_refl _) (fun w259 S260 => ?_)
   simp only [pS, pN, pA, pC, pZ]
   have S260 : St W (whole W) w259 F105 [] [ownP 2 PrC PrC.mono 38 W.heap.size (.slice (some ⟨g151, 0, none⟩) (pairsN l0 20).length cap109) (((pairsN l0 20).set kn b).set (kn + 1) a)] := S260
   refine wl_nil (hl_back S260.sat ?_)
   refine hl_done (by kernel_rfl) ?_
   refine hK150 _ _ ?_
   refine wp_seq_k (fun K261 hK261 => ?_)
   obtain ⟨F262, S263, le264, hv265⟩ := St.freeze S260 (i := 0) rfl (Nat.le_refl _)
   have S263 : St W (whole W) w259 F262 [] [] := S263
   have hv265 : Prs _ (.slice (some ⟨g151, 0, none⟩) (pairsN l0 20).length cap109) (((pairsN l0 20).set kn b).set (kn + 1) a) := hv265
   refine region_wl ?_
   refine do_ rfl (.slice (some ⟨g151, 0, none⟩) (pairsN l0 20).length cap109) (ex_move _) ?_
   simp only [pS, pN, pA, pC, pZ]
   refine stTells (v := (.int .i64 3)) S263 rfl (ex_fn (vs := #[(.slice (some ⟨g151, 0, none⟩) (pairsN l0 20).length cap109)]) (map1 rfl) rfl (ent_26 _ _)) (treeThree_spec _ _ _ _ (S263).sat hv265 hsw) (fun w266 S267 => ?_)
   simp only [pS, pN, pA, pC, pZ]
   refine do_ rfl (.int .i64 3) (ex_assign _) ?_
   simp only [pS, pN, pA, pC, pZ]
   refine wl_nil (hK261 _ _ ?_)
   refine wp_seq_k (fun K268 hK268 => region_wl ?_)
   refine do_ rfl (.slice (some ⟨g151, 0, none⟩) (pairsN l0 20).length cap109) (ex_move _) ?_
   simp only [pS, pN, pA, pC, pZ]
   refine stTells (v := (.tuple #[(.slice none 0 0), (.int .i64 3)])) S267 rfl (ex_fn (vs := #[(.slice (some ⟨g151, 0, none⟩) (pairsN l0 20).length cap109)]) (map1 rfl) rfl (ent_22 _ _)) (rootThree_spec _ _ _ _ (S267).sat hv265 hsw) (fun w269 S270 => ?_)
   simp only [pS, pN, pA, pC, pZ]
   refine do_ rfl (.tuple #[(.slice none 0 0), (.int .i64 3)]) (ex_move _) ?_
   simp only [pS, pN, pA, pC, pZ]
   refine do_ rfl (.slice none 0 0) (ex_extract rfl rfl) ?_
   simp only [pS, pN, pA, pC, pZ]
   refine do_ rfl (.int .i64 3) (ex_extract rfl rfl) ?_
   simp only [pS, pN, pA, pC, pZ]
   refine do_ rfl (.slice none 0 0) (ex_assign _) ?_
   simp only [pS, pN, pA, pC, pZ]
   refine do_ rfl (.int .i64 3) (ex_assign _) ?_
   simp only [pS, pN, pA, pC, pZ]
   refine wl_nil (hK268 _ _ ?_)
   refine wp_seq_k (fun K271 hK271 => region_wl ?_)
   refine do_ rfl (.slice (some ⟨g151, 0, none⟩) (pairsN l0 20).length cap109) (ex_move _) ?_
   simp only [pS, pN, pA, pC, pZ]
   refine stNew S270 (v := fun n => .slice (some ⟨n, 0, none⟩) 1 1) rfl (ex_lit (ps := #[(0, (.int .u8 1))]) (cells := #[(.int .u8 1)]) (E := 5) (bmap1 rfl) (fun w => by kernel_rfl)) (fun n272 w273 S274 => ?_)
   simp only [pS, pN, pA, pC, pZ]
   have S274 : St W (whole W) w273 F262 [⟨n272, [(.int .u8 1)], 5⟩] [] := S274
   obtain ⟨S275, le276, hc277⟩ := St.freezeBlk S274 (i := 0) rfl
   have r279 : Bs _ (.slice (some ⟨n272, 0, none⟩) 1 1) ([1] : By) := bs_of_block (l := ([1] : By)) hc277 rfl (by unfold maxLen; simp)
   generalize addF F262 w273 n272 = F278 at *
   have S275 : St W (whole W) w273 F278 [] [] := S275
   refine stTells (v := (.tuple #[(.agg #[(.bool false), (.slice none 0 0), (.slice none 0 0), (.slice none 0 0)]), (.int .i64 3)])) S275 rfl (ex_fn (vs := #[(.slice (some ⟨g151, 0, none⟩) (pairsN l0 20).length cap109), (.slice (some ⟨n272, 0, none⟩) 1 1)]) (map2 rfl rfl) rfl (ent_27 _ _)) (proveThree_spec _ _ _ _ _ _ (S275).sat (hv265.mono le276) r279 hsw) (fun w280 S281 => ?_)
   simp only [pS, pN, pA, pC, pZ]
   refine do_ rfl (.tuple #[(.agg #[(.bool false), (.slice none 0 0), (.slice none 0 0), (.slice none 0 0)]), (.int .i64 3)]) (ex_move _) ?_
   simp only [pS, pN, pA, pC, pZ]
   refine do_ rfl (.agg #[(.bool false), (.slice none 0 0), (.slice none 0 0), (.slice none 0 0)]) (ex_extract rfl rfl) ?_
   simp only [pS, pN, pA, pC, pZ]
   refine do_ rfl (.int .i64 3) (ex_extract rfl rfl) ?_
   simp only [pS, pN, pA, pC, pZ]
   refine stNew S281 (v := fun n => .pointer (some ⟨n, 0, none⟩)) rfl (ex_alloc (zero_52 _)) (fun n282 w283 S284 => ?_)
   simp only [pS, pN, pA, pC, pZ]
   have S284 : St W (whole W) w283 F278 [⟨n282, [(.bool false), (.slice none 0 0), (.slice none 0 0), (.slice none 0 0)], 52⟩] [] := S284
   refine stStore (i := 0) (v := (.agg #[(.bool false), (.slice none 0 0), (.slice none 0 0), (.slice none 0 0)])) S284 rfl rfl rfl rfl (size_52) (allc4 rfl rfl rfl rfl) (Nat.le_of_ble_eq_true rfl) (fun w285 S286 => ?_)
   simp only [pS, pN, pA, pC, pZ]
   have S286 : St W (whole W) w285 F278 [⟨n282, [(.bool false), (.slice none 0 0), (.slice none 0 0), (.slice none 0 0)], 52⟩] [] := S286
   refine do_ rfl (.int .i64 3) (ex_assign _) ?_
   simp only [pS, pN, pA, pC, pZ]
   refine wl_nil (hK271 _ _ ?_)
   refine wp_seq_k (fun K287 hK287 => region_wl ?_)
   refine do_ rfl (.int .i64 3) (ex_move _) ?_
   simp only [pS, pN, pA, pC, pZ]
   refine do_ rfl (.bool true) (ex_eql (b := true) rfl rfl (by decide)) ?_
   simp only [pS, pN, pA, pC, pZ]
   refine do_ rfl (.bool true) (ex_move _) ?_
   simp only [pS, pN, pA, pC, pZ]
   refine do_ rfl (.int .i64 3) (ex_move _) ?_
   simp only [pS, pN, pA, pC, pZ]
   refine do_ rfl (.bool true) (ex_eql (b := true) rfl rfl (by decide)) ?_
   simp only [pS, pN, pA, pC, pZ]
   refine do_ rfl (.bool true) (ex_pick (b := true) rfl) ?_
   simp only [pS, pN, pA, pC, pZ]
   refine do_ rfl (.bool true) (ex_move _) ?_
   simp only [pS, pN, pA, pC, pZ]
   refine do_ rfl (.int .i64 3) (ex_move _) ?_
   simp only [pS, pN, pA, pC, pZ]
   refine do_ rfl (.bool true) (ex_eql (b := true) rfl rfl (by decide)) ?_
   simp only [pS, pN, pA, pC, pZ]
   refine do_ rfl (.bool true) (ex_pick (b := true) rfl) ?_
   simp only [pS, pN, pA, pC, pZ]
   refine do_ rfl (.bool true) (ex_assign _) ?_
   simp only [pS, pN, pA, pC, pZ]
   refine wl_nil (hK287 _ _ ?_)
   refine wp_ret ?_
   (try simp only [Exit.then, Exit.inBlock, ↓reduceIte, Nat.reduceEqDiff])
   refine bodyPost_ret (v := (.bool true)) ?_ rfl ?_
   ·exact res_t rfl rfl
   ·exact ⟨rfl, S286.gr.below⟩
end Go.Proofs.YtcanckliggcllaaDoor
