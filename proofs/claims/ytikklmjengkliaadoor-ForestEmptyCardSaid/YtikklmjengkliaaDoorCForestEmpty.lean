/- The walk of ForestEmpty -/
import Derived.Test.YtikklmjengkliaaDoorBR11
import Derived.Test.YtikklmjengkliaaDoorBR8
namespace Go.Proofs.YtikklmjengkliaaDoor
open Go.RowKit
set_option maxRecDepth 100000
set_option linter.unusedVariables false
set_option linter.unusedSimpArgs false
theorem delT_head {α : Type} (p : By × α) (l : List (By × α)) : delT (p :: l) p.1 = l := by
  have h : hasT (p :: l) p.1 = true := by rw [hasT, hasBy, List.any_cons]; simp
  have hp : posT (p :: l) p.1 = 0 := by rw [posT, posBy_cons, if_neg (by rw [less_irrefl]; simp)]
  unfold delT
  rw [if_pos h, hp]
  rfl
theorem gone_step {h : Forest} {t : By × List Pr} {i : Nat} {p : Pr} (ok : ForestOk 60 h) (hn : NameOk t.1) (hk : PairOk p) (hp : t.2[i]? = some p) (ht : treeF h t.1 = t.2.drop i) :
    ∃ h', applyE h [(⟨t.1, p.1, true, ([] : By)⟩ : Wr)] = (0, h') ∧ ForestOk 60 h' ∧ treeF h' t.1 = t.2.drop (i + 1) ∧ (i + 1 < t.2.length → h'.length = h.length) ∧ (i + 1 = t.2.length → h'.length + 1 = h.length) := by
  obtain ⟨hi, hpe⟩ := List.getElem?_eq_some_iff.1 hp
  have hd : t.2.drop i = p :: t.2.drop (i + 1) := by rw [List.drop_eq_getElem_cons hi, hpe]
  have hw : WrOk (⟨t.1, p.1, true, ([] : By)⟩ : Wr) := ⟨hn, hk.1, hk.2.1, by simp, fun _ => rfl⟩
  have hN : nextT (⟨t.1, p.1, true, ([] : By)⟩ : Wr) (p :: t.2.drop (i + 1)) = t.2.drop (i + 1) := by
    rw [next_gone rfl]; exact delT_head p _
  have hW := writeF_is (l := h) (r := (⟨t.1, p.1, true, ([] : By)⟩ : Wr)) (ht.trans hd) hN
  have hhas : hasT h t.1 = true := by
    rw [hasT_getT, treeF_getT ok, if_neg (by rw [ht, hd]; simp)]; rfl
  have hpos : 0 < h.length := by
    cases h with
    | nil => cases hhas
    | cons _ _ => simp
  rw [if_neg (by simp)] at hW
  by_cases he : t.2.drop (i + 1) = []
  · rw [if_pos he] at hW
    have hl : t.2.length ≤ i + 1 := by have := congrArg List.length he; rw [List.length_drop] at this; simp at this; omega
    refine ⟨_, by rw [applyE_one hw, hW], writeF_ok60 ok hw hW, ?_, fun h1 => by omega, fun _ => ?_⟩
    · rw [treeF_del ok.rise, if_pos rfl, he]
    · rw [len_delT ok.rise, if_pos hhas]; omega
  · rw [if_neg he, if_neg (by rw [len_putT, if_pos hhas]; have := ok.len; omega)] at hW
    have hl : i + 1 < t.2.length := by
      have := List.length_pos_iff.2 he; rw [List.length_drop] at this; omega
    refine ⟨_, by rw [applyE_one hw, hW], writeF_ok60 ok hw hW, ?_, fun _ => ?_, fun h1 => by omega⟩
    · rw [treeF_put ok.rise, if_pos rfl]
    · rw [len_putT, if_pos hhas]
theorem treeF_mem {m : Nat} {g : Forest} (ok : ForestOk m g) {t : By × List Pr} (h : t ∈ g) : treeF g t.1 = t.2 := by
  unfold treeF; rw [mem_getT ok.rise h]; rfl
set_option maxHeartbeats 8000000 in
theorem forestEmpty_walk (W : World) (hT : Tabs W) (v0 : Value) (l0 : List Pl) (z0 : Pls (whole W) v0 l0) (v1 : Value) (l1 : By) (z1 : Bs (whole W) v1 l1) :
    Calls Tryd.prog 3 #[v0, v1] W (Tells W (.bool true)) := by
 obtain ⟨a0, c0, rfl, q0, q0'⟩ := Sl.shape z0
 obtain ⟨a1, c1, rfl, q1, q1'⟩ := z1.shape
 unfold maxLen at q1'
 have okf : ForestOk 60 (forestW (writesN l0 30)) := (forestW_ok (writesN_ok l0 30)).mono (by have := writesN_len l0 30; omega)
 have S := St.start (Sat.whole W)
 go_enter Tryd.func3, Tryd.ntmps3
 refine wp_seq_k (fun K101 hK101 => region_wl ?_)
 refine do_ rfl (.bool false) (ex_assign _) ?_
 simp only [pS, pN, pA, pC, pZ]
 refine wl_nil (hK101 _ _ ?_)
 refine wp_seq_k (fun K102 hK102 => region_wl ?_)
 refine do_ rfl (.slice a0 l0.length c0) (ex_move _) ?_
 simp only [pS, pN, pA, pC, pZ]
 refine stGives S rfl (ex_fn (vs := #[(.slice a0 l0.length c0), (.int .i64 30)]) (map2 rfl rfl) rfl (ent_14 _ _)) (forest_spec _ _ _ l0 30 (S).sat z0 (by omega)) ?_
 intro v108 w103 F105 S104 le106 R107
 obtain ⟨a109, c110, rfl, h111, h112⟩ := Sl.shape R107
 unfold maxLen at h112
 have R107 : Tns _ (.slice a109 (forestW (writesN l0 30)).length c110) (forestW (writesN l0 30)) := R107
 simp only [pS, pN, pA, pC, pZ]
 refine do_ rfl (.slice a109 (forestW (writesN l0 30)).length c110) (ex_assign _) ?_
 simp only [pS, pN, pA, pC, pZ]
 refine wl_nil (hK102 _ _ ?_)
 refine wp_seq_k (fun K113 hK113 => ?_)
 refine wp_block ?_
 refine wp_loop_g (fun mm aa w116 => ∃ (g : Forest) (xa : Option Addr) (xc : Nat) (F114 : Fz) (u115 : Nat → Value), mm = g.length ∧ u115 = slots aa ∧ aa = ⟨#[(.slice a0 l0.length c0), (.slice a1 l1.length c1), undef, undef, (u115 4), (.slice xa g.length xc), (u115 6), (u115 7), (u115 8), (u115 9), (u115 10), undef, undef, undef, undef, (.slice a0 l0.length c0), (.slice a109 (forestW (writesN l0 30)).length c110), (u115 17), (u115 18), (u115 19), (u115 20), (u115 21), (u115 22), (u115 23), (u115 24), (u115 25), (u115 26), (u115 27), (u115 28), (u115 29), (u115 30), (u115 31), (u115 32), (u115 33), (u115 34), (u115 35), (u115 36), (u115 37), (u115 38), (u115 39), (u115 40), (u115 41), (u115 42), (u115 43), (u115 44), (u115 45), (u115 46), (u115 47), (u115 48), (u115 49), (u115 50), (u115 51), (u115 52), (u115 53), (u115 54), (u115 55), (u115 56), (u115 57), (u115 58), (u115 59), (u115 60), (u115 61), (u115 62), (u115 63), undef, undef, undef, undef, undef, undef, undef, undef, undef, undef, undef, undef, undef, undef, undef, undef, undef, undef, undef, undef, undef, undef, undef, undef, undef], []⟩ ∧ St W (whole W) w116 F114 [] [] ∧ Le F105 F114 ∧ (ForestOk 60 g) ∧ (Tns F114 (.slice xa g.length xc) g)) _ ⟨(forestW (writesN l0 30)), a109, c110, F105, _, rfl, rfl, rfl, S104, Le.refl _, okf, R107⟩ ?_
 rintro m117 a118 w119 ⟨g, xa, xc, F114, u115, rfl, -, rfl, S120, le121, okg, hg⟩ K122 hK122
 refine wp_seq_k (fun K123 hK123 => ?_)
 refine wp_seq_k (fun K124 hK124 => region_wl ?_)
 refine do_ rfl (.slice xa g.length xc) (ex_move _) ?_
 simp only [pS, pN, pA, pC, pZ]
 refine do_ rfl (.int .i64 ((g.length : Nat) : Int)) (ex_len Tryd.underlying24 rfl) ?_
 simp only [pS, pN, pA, pC, pZ]
 by_cases hc19 : 0 < g.length
 ·refine do_ rfl (.bool true) (ex_gtr (m := ((g.length : Nat) : Int)) (n := (0 : Int)) (b := true) rfl rfl (decide_eq_true (by omega))) ?_
  simp only [pS, pN, pA, pC, pZ]
  refine wl_nil (hK124 _ _ ?_)
  refine wp_cond_true rfl ?_
  refine wp_skip ?_
  refine hK123 _ _ ?_
  refine wp_block ?_
  refine wp_seq_k (fun K125 hK125 => ?_)
  have hg8 := okg.len
  obtain ⟨hp0, hp1⟩ := pick_bd ((l1.length : Nat) : Int) ((g.length : Nat) : Int) (by omega)
  obtain ⟨kn, hkn⟩ : ∃ kn : Nat, pick ((l1.length : Nat) : Int) ((g.length : Nat) : Int) = (kn : Int) := ⟨(pick ((l1.length : Nat) : Int) ((g.length : Nat) : Int)).toNat, (Int.toNat_of_nonneg hp0).symm⟩
  have hkb : kn < g.length := by omega
  obtain ⟨t, ht⟩ : ∃ t, g[kn]? = some t := ⟨g[kn], List.getElem?_eq_getElem hkb⟩
  have htm := List.mem_of_getElem? ht
  have hnt := okg.name t htm
  have hst := okg.some t htm
  have htg : treeF g t.1 = t.2.drop 0 := treeF_mem okg htm
  have hst2 := List.length_pos_iff.2 hst
  have htl := (okg.tree t htm).len
  obtain ⟨b126, o127, ha128, xa130, xc131, xa134, xc135, c129, c133, r132, r136⟩ := Tns.get hg ht
  refine region_wl ?_
  refine do_ rfl (.slice xa g.length xc) (ex_move _) ?_
  simp only [pS, pN, pA, pC, pZ]
  refine do_ rfl (.slice a1 l1.length c1) (ex_move _) ?_
  simp only [pS, pN, pA, pC, pZ]
  refine do_ rfl (.int .i64 ((l1.length : Nat) : Int)) (ex_len Tryd.underlying23 rfl) ?_
  simp only [pS, pN, pA, pC, pZ]
  refine do_ rfl (.slice xa g.length xc) (ex_move _) ?_
  simp only [pS, pN, pA, pC, pZ]
  refine do_ rfl (.int .i64 ((g.length : Nat) : Int)) (ex_len Tryd.underlying24 rfl) ?_
  simp only [pS, pN, pA, pC, pZ]
  refine stTells (v := (.int .i64 ((kn : Nat) : Int))) S120 rfl (ex_fn (vs := #[(.int .i64 ((l1.length : Nat) : Int)), (.int .i64 ((g.length : Nat) : Int))]) (map2 rfl rfl) rfl (ent_15 _ _)) (hkn ▸ tells_same (picked_spec ((l1.length : Nat) : Int) ((g.length : Nat) : Int) _ (by omega) (by omega) (by omega) (by omega))) (fun w137 S138 => ?_)
  simp only [pS, pN, pA, pC, pZ]
  refine do_ rfl (.pointer (some ⟨b126, o127 + kn * 2, none⟩)) (ex_at (i := kn) (sz := 2) Tryd.underlying24 (sizeof_28 _) rfl ha128 rfl (by omega) rfl) ?_
  simp only [pS, pN, pA, pC, pZ]
  refine do_ rfl (.agg #[(.slice xa130 t.1.length xc131), (.slice xa134 t.2.length xc135)]) (ex_load rfl (loadN (cs := [(.slice xa130 t.1.length xc131), (.slice xa134 t.2.length xc135)]) Tryd.underlying28 rfl (size_28) (range2 (St.fz S138 c129) (St.fz S138 c133)))) ?_
  simp only [pS, pN, pA, pC, pZ]
  refine stNew S138 (v := fun n => .pointer (some ⟨n, 0, none⟩)) rfl (ex_alloc (zero_28 _)) (fun n139 w140 S141 => ?_)
  simp only [pS, pN, pA, pC, pZ]
  have S141 : St W (whole W) w140 F114 [⟨n139, [(.slice none 0 0), (.slice none 0 0)], 28⟩] [] := S141
  refine stStore (i := 0) (v := (.agg #[(.slice xa130 t.1.length xc131), (.slice xa134 t.2.length xc135)])) S141 rfl rfl rfl rfl (size_28) (allc2 rfl rfl) (Nat.le_of_ble_eq_true rfl) (fun w142 S143 => ?_)
  simp only [pS, pN, pA, pC, pZ]
  have S143 : St W (whole W) w142 F114 [⟨n139, [(.slice xa130 t.1.length xc131), (.slice xa134 t.2.length xc135)], 28⟩] [] := S143
  refine wl_nil (hK125 _ _ ?_)
  refine wp_seq_k (fun K144 hK144 => ?_)
  obtain ⟨S145, le146, hc147⟩ := St.freezeBlk S143 (i := 0) rfl
  generalize addF F114 w142 n139 = F148 at *
  have S145 : St W (whole W) w142 F148 [] [] := S145
  refine region_wl ?_
  refine do_ rfl (.slice xa g.length xc) (ex_move _) ?_
  simp only [pS, pN, pA, pC, pZ]
  refine do_ rfl (.int .i64 ((g.length : Nat) : Int)) (ex_len Tryd.underlying24 rfl) ?_
  simp only [pS, pN, pA, pC, pZ]
  refine do_ rfl (.int .i64 ((g.length : Nat) : Int)) (ex_assign _) ?_
  simp only [pS, pN, pA, pC, pZ]
  refine wl_nil (hK144 _ _ ?_)
  refine wp_seq_k (fun K149 hK149 => ?_)
  refine wp_seq_k (fun K150 hK150 => region_wl ?_)
  refine do_ rfl (.int .i64 0) (ex_assign _) ?_
  simp only [pS, pN, pA, pC, pZ]
  refine wl_nil (hK150 _ _ ?_)
  refine wp_block ?_
  refine wp_loop_g (fun mm aa w153 => ∃ (i : Nat) (h : Forest) (ya : Option Addr) (yc : Nat) (F151 : Fz) (u152 : Nat → Value), mm = t.2.length - i ∧ u152 = slots aa ∧ aa = ⟨#[(.slice a0 l0.length c0), (.slice a1 l1.length c1), undef, undef, (u152 4), (.slice ya h.length yc), (.pointer (some ⟨n139, 0, none⟩)), (.int .i64 ((g.length : Nat) : Int)), (.int .i64 ((i : Nat) : Int)), (u152 9), (u152 10), undef, undef, undef, undef, (.slice a0 l0.length c0), (.slice a109 (forestW (writesN l0 30)).length c110), (.slice xa g.length xc), (.int .i64 ((g.length : Nat) : Int)), (.bool true), (.slice xa g.length xc), (.slice a1 l1.length c1), (.int .i64 ((l1.length : Nat) : Int)), (.slice xa g.length xc), (.int .i64 ((g.length : Nat) : Int)), (.int .i64 ((kn : Nat) : Int)), (.pointer (some ⟨b126, o127 + kn * 2, none⟩)), (.agg #[(.slice xa130 t.1.length xc131), (.slice xa134 t.2.length xc135)]), (.slice xa g.length xc), (.int .i64 ((g.length : Nat) : Int)), (u152 30), (u152 31), (u152 32), (u152 33), (u152 34), (u152 35), (u152 36), (u152 37), (u152 38), (u152 39), (u152 40), (u152 41), (u152 42), (u152 43), (u152 44), (u152 45), (u152 46), (u152 47), (u152 48), (u152 49), (u152 50), (u152 51), (u152 52), (u152 53), (u152 54), (u152 55), (u152 56), (u152 57), (u152 58), (u115 59), (u115 60), (u115 61), (u115 62), (u115 63), undef, undef, undef, undef, undef, undef, undef, undef, undef, undef, undef, undef, undef, undef, undef, undef, undef, undef, undef, undef, undef, undef, undef, undef, undef], []⟩ ∧ St W (whole W) w153 F151 [] [] ∧ Le F148 F151 ∧ (ForestOk 60 h) ∧ (i ≤ t.2.length) ∧ (treeF h t.1 = t.2.drop i) ∧ (i < t.2.length → h.length = g.length) ∧ (i = t.2.length → h.length + 1 = g.length) ∧ (Tns F151 (.slice ya h.length yc) h)) _ ⟨0, g, xa, xc, F148, _, rfl, rfl, rfl, S145, Le.refl _, okg, (by omega), htg, (fun _ => rfl), (fun _ => by omega), (hg.mono le146)⟩ ?_
  rintro m154 a155 w156 ⟨i, h, ya, yc, F151, u152, rfl, -, rfl, S157, le158, oki, hi, hti, hl0, hl1, hh⟩ K159 hK159
  refine wp_seq_k (fun K160 hK160 => ?_)
  refine wp_seq_k (fun K161 hK161 => region_wl ?_)
  refine do_ rfl (.int .i64 ((i : Nat) : Int)) (ex_move _) ?_
  simp only [pS, pN, pA, pC, pZ]
  refine do_ rfl (.pointer (some ⟨n139, 1, none⟩)) (ex_field (q := ⟨n139, 1, none⟩) rfl (fa_28_1 _ _)) ?_
  simp only [pS, pN, pA, pC, pZ]
  refine do_ rfl (.slice xa134 t.2.length xc135) (ex_load rfl (load1 (nagg_26 _) (St.fz S157 (Le.cell le158 (hc147 1 _ rfl))))) ?_
  simp only [pS, pN, pA, pC, pZ]
  refine do_ rfl (.int .i64 ((t.2.length : Nat) : Int)) (ex_len Tryd.underlying26 rfl) ?_
  simp only [pS, pN, pA, pC, pZ]
  by_cases hc34 : i < t.2.length
  ·refine do_ rfl (.bool true) (ex_lss (m := ((i : Nat) : Int)) (n := ((t.2.length : Nat) : Int)) (b := true) rfl rfl (decide_eq_true (by omega))) ?_
   simp only [pS, pN, pA, pC, pZ]
   refine wl_nil (hK161 _ _ ?_)
   refine wp_cond_true rfl ?_
   refine wp_skip ?_
   refine hK160 _ _ ?_
   refine wp_seq_k (fun K162 hK162 => ?_)
   refine wp_block ?_
   refine wp_seq_k (fun K163 hK163 => ?_)
   refine wp_seq_k (fun K164 hK164 => ?_)
   have hlg := hl0 hc34
   obtain ⟨p, hp⟩ : ∃ p, t.2[i]? = some p := ⟨t.2[i], List.getElem?_eq_getElem hc34⟩
   have hpk := (okg.tree t htm).ok p (List.mem_of_getElem? hp)
   obtain ⟨h', hae, ok2, ht2, hl2, hl3⟩ := gone_step oki hnt hpk hp hti
   have hw1 : WrOk (⟨t.1, p.1, true, ([] : By)⟩ : Wr) := ⟨hnt, hpk.1, hpk.2.1, by simp, fun _ => rfl⟩
   rw [hlg] at hl2 hl3
   obtain ⟨b165, o166, ha167, xa169, xc170, xa173, xc174, c168, c172, r171, r175⟩ := Prs.get (r136.mono (le146.trans le158)) hp
   refine region_wl ?_
   refine do_ rfl (.slice ya h.length yc) (ex_move _) ?_
   simp only [pS, pN, pA, pC, pZ]
   refine do_ rfl (.int .i64 ((h.length : Nat) : Int)) (ex_len Tryd.underlying24 rfl) ?_
   simp only [pS, pN, pA, pC, pZ]
   refine do_ rfl (.int .i64 ((g.length : Nat) : Int)) (ex_move _) ?_
   simp only [pS, pN, pA, pC, pZ]
   refine do_ rfl (.bool false) (ex_neq (m := ((h.length : Nat) : Int)) (n := ((g.length : Nat) : Int)) (b := false) rfl rfl (bne_eq_false_iff_eq.2 (by omega))) ?_
   simp only [pS, pN, pA, pC, pZ]
   refine wl_nil (hK164 _ _ ?_)
   refine wp_cond_false rfl ?_
   refine wp_skip ?_
   refine hK163 _ _ ?_
   refine wp_seq_k (fun K176 hK176 => ?_)
   refine region_hl S157 (by kernel_rfl) (fun w178 S177 => ?_)
   refine hl_take 0 rfl (by kernel_rfl) (v := (.slice ya h.length yc)) (fun _ _ _ h => h) S177.sat rfl (fun w179 hs180 => ex_move _) ?_
   simp only [pS, pN, pA, pC, pZ]
   refine hl_take 1 rfl (by kernel_rfl) (v := (.pointer (some ⟨n139, 0, none⟩))) (fun _ _ _ h => h) S177.sat rfl (fun w181 hs182 => ex_field (q := ⟨n139, 0, none⟩) rfl (fa_28_0 _ _)) ?_
   simp only [pS, pN, pA, pC, pZ]
   refine hl_take 2 rfl (by kernel_rfl) (v := (.slice xa130 t.1.length xc131)) (fun _ _ _ h => h) S177.sat rfl (fun w183 hs184 => ex_load rfl (load1 (nagg_23 _) (St.fz (St.start hs184) (Le.cell le158 (hc147 0 _ rfl))))) ?_
   simp only [pS, pN, pA, pC, pZ]
   refine hl_take 3 rfl (by kernel_rfl) (v := (.pointer (some ⟨n139, 1, none⟩))) (fun _ _ _ h => h) S177.sat rfl (fun w185 hs186 => ex_field (q := ⟨n139, 1, none⟩) rfl (fa_28_1 _ _)) ?_
   simp only [pS, pN, pA, pC, pZ]
   refine hl_take 4 rfl (by kernel_rfl) (v := (.slice xa134 t.2.length xc135)) (fun _ _ _ h => h) S177.sat rfl (fun w187 hs188 => ex_load rfl (load1 (nagg_26 _) (St.fz (St.start hs188) (Le.cell le158 (hc147 1 _ rfl))))) ?_
   simp only [pS, pN, pA, pC, pZ]
   refine hl_take 5 rfl (by kernel_rfl) (v := (.int .i64 ((i : Nat) : Int))) (fun _ _ _ h => h) S177.sat rfl (fun w189 hs190 => ex_move _) ?_
   simp only [pS, pN, pA, pC, pZ]
   refine hl_take 6 rfl (by kernel_rfl) (v := (.pointer (some ⟨b165, o166 + i * 2, none⟩))) (fun _ _ _ h => h) S177.sat rfl (fun w191 hs192 => ex_at (i := i) (sz := 2) Tryd.underlying26 (sizeof_34 _) rfl ha167 rfl (by omega) rfl) ?_
   simp only [pS, pN, pA, pC, pZ]
   refine hl_take 7 rfl (by kernel_rfl) (v := (.pointer (some ⟨b165, o166 + i * 2, none⟩))) (fun _ _ _ h => h) S177.sat rfl (fun w193 hs194 => ex_field (q := ⟨b165, o166 + i * 2, none⟩) rfl (fa_34_0 _ _)) ?_
   simp only [pS, pN, pA, pC, pZ]
   refine hl_take 8 rfl (by kernel_rfl) (v := (.slice xa169 p.1.length xc170)) (fun _ _ _ h => h) S177.sat rfl (fun w195 hs196 => ex_load rfl (load1 (nagg_23 _) (St.fz (St.start hs196) c168))) ?_
   simp only [pS, pN, pA, pC, pZ]
   refine hl_take 9 rfl (by kernel_rfl) (v := (.agg #[(.slice xa130 t.1.length xc131), (.slice xa169 p.1.length xc170), (.bool true), (.slice none 0 0)])) (fun _ _ _ h => h) S177.sat rfl (fun w197 hs198 => ex_build (ps := #[(0, (.slice xa130 t.1.length xc131)), (1, (.slice xa169 p.1.length xc170)), (2, (.bool true))]) (bmap3 rfl rfl rfl) (by kernel_rfl)) ?_
   simp only [pS, pN, pA, pC, pZ]
   refine hl_next 10 (by kernel_rfl) rfl ?_
   refine stNew S177 (v := fun n => .slice (some ⟨n, 0, none⟩) 1 1) rfl (ex_lit (ps := #[(0, (.agg #[(.slice xa130 t.1.length xc131), (.slice xa169 p.1.length xc170), (.bool true), (.slice none 0 0)]))]) (cells := #[(.slice xa130 t.1.length xc131), (.slice xa169 p.1.length xc170), (.bool true), (.slice none 0 0)]) (E := 36) (bmap1 rfl) (fun w => by kernel_rfl)) (fun n199 w200 S201 => ?_)
   simp only [pS, pN, pA, pC, pZ]
   have S201 : St W (whole W) w200 F151 [⟨n199, [(.slice xa130 t.1.length xc131), (.slice xa169 p.1.length xc170), (.bool true), (.slice none 0 0)], 36⟩] [] := S201
   refine wl_nil (hl_back S201.sat ?_)
   refine hl_next 11 (by kernel_rfl) rfl ?_
   obtain ⟨S202, le203, hc204⟩ := St.freezeBlk S201 (i := 0) rfl
   have r206 : Wrs _ (.slice (some ⟨n199, 0, none⟩) 1 1) [(⟨t.1, p.1, true, ([] : By)⟩ : Wr)] := sl_of_block (R := WrC) (l := [(⟨t.1, p.1, true, ([] : By)⟩ : Wr)]) (el := [[(.slice xa130 t.1.length xc131), (.slice xa169 p.1.length xc170), (.bool true), (.slice none 0 0)]]) hc204 rfl ⟨⟨_, _, _, _, rfl, ((r132.mono (le146.trans le158)).mono le203), (r171.mono le203), rfl, Bs.nil _⟩, trivial⟩ (by simp) (by unfold maxLen; simp)
   generalize addF F151 w200 n199 = F205 at *
   have S202 : St W (whole W) w200 F205 [] [] := S202
   refine stGives S202 rfl (ex_fn (vs := #[(.slice ya h.length yc), (.slice (some ⟨n199, 0, none⟩) 1 1)]) (map2 rfl rfl) rfl (ent_16 _ _)) (apply_is (S202).sat (hh.mono le203) r206 oki (by simpa using hw1) hae) ?_
   intro v212 w207 F209 S208 le210 R211
   obtain ⟨_, rfl, r215⟩ := R211
   obtain ⟨a213, c214, rfl, h216, h217⟩ := Sl.shape r215
   unfold maxLen at h217
   have h216 : h'.length ≤ c214 := h216
   have r215 : Tns _ (.slice a213 h'.length c214) h' := r215
   simp only [pS, pN, pA, pC, pZ]
   refine wl_nil (hl_back (Sat.le S208.sat (le203.trans le210)) ?_)
   refine hl_take 12 rfl (by kernel_rfl) (v := (.tuple #[(.slice a213 h'.length c214), (.int .i64 0)])) (fun _ _ _ h => h) (Sat.le S208.sat (le203.trans le210)) rfl (fun w218 hs219 => ex_move _) ?_
   simp only [pS, pN, pA, pC, pZ]
   refine hl_take 13 rfl (by kernel_rfl) (v := (.slice a213 h'.length c214)) (fun _ _ _ h => h) (Sat.le S208.sat (le203.trans le210)) rfl (fun w220 hs221 => ex_extract rfl rfl) ?_
   simp only [pS, pN, pA, pC, pZ]
   refine hl_take 14 rfl (by kernel_rfl) (v := (.int .i64 0)) (fun _ _ _ h => h) (Sat.le S208.sat (le203.trans le210)) rfl (fun w222 hs223 => ex_extract rfl rfl) ?_
   simp only [pS, pN, pA, pC, pZ]
   refine hl_take 15 rfl (by kernel_rfl) (v := (.slice a213 h'.length c214)) (fun _ _ _ h => h) (Sat.le S208.sat (le203.trans le210)) rfl (fun w224 hs225 => ex_assign _) ?_
   simp only [pS, pN, pA, pC, pZ]
   refine hl_take 16 rfl (by kernel_rfl) (v := (.int .i64 0)) (fun _ _ _ h => h) (Sat.le S208.sat (le203.trans le210)) rfl (fun w226 hs227 => ex_assign _) ?_
   simp only [pS, pN, pA, pC, pZ]
   refine hl_done (by kernel_rfl) ?_
   refine hK176 _ _ ?_
   refine wp_seq_k (fun K228 hK228 => ?_)
   refine wp_seq_k (fun K229 hK229 => region_wl ?_)
   refine do_ rfl (.int .i64 0) (ex_move _) ?_
   simp only [pS, pN, pA, pC, pZ]
   refine do_ rfl (.bool false) (ex_neq (m := (0 : Int)) (n := (0 : Int)) (b := false) rfl rfl (bne_eq_false_iff_eq.2 (by omega))) ?_
   simp only [pS, pN, pA, pC, pZ]
   refine wl_nil (hK229 _ _ ?_)
   refine wp_cond_false rfl ?_
   refine wp_skip ?_
   refine hK228 _ _ ?_
   refine region_wl ?_
   refine do_ rfl (.slice a213 h'.length c214) (ex_move _) ?_
   simp only [pS, pN, pA, pC, pZ]
   refine do_ rfl (.slice a213 h'.length c214) (ex_assign _) ?_
   simp only [pS, pN, pA, pC, pZ]
   refine wl_nil (hK162 _ _ ?_)
   refine region_wl ?_
   refine do_ rfl (.int .i64 ((i : Nat) : Int)) (ex_move _) ?_
   simp only [pS, pN, pA, pC, pZ]
   refine do_ rfl (.int .i64 (((i + 1) : Nat) : Int)) (ex_add (m := ((i : Nat) : Int)) (n := (1 : Int)) (r := (((i + 1) : Nat) : Int)) rfl rfl (by omega) (by omega) (by omega)) ?_
   simp only [pS, pN, pA, pC, pZ]
   refine do_ rfl (.int .i64 (((i + 1) : Nat) : Int)) (ex_assign _) ?_
   simp only [pS, pN, pA, pC, pZ]
   refine wl_nil ?_
   exact hK159 _ _ _ (by omega) ⟨(i + 1), h', a213, c214, F209, _, rfl, rfl, rfl, S208, ((le158.trans le203).trans le210), ok2, (by omega), ht2, hl2, hl3, r215⟩
  ·refine do_ rfl (.bool false) (ex_lss (m := ((i : Nat) : Int)) (n := ((t.2.length : Nat) : Int)) (b := false) rfl rfl (decide_eq_false (by omega))) ?_
   simp only [pS, pN, pA, pC, pZ]
   refine wl_nil (hK161 _ _ ?_)
   refine wp_cond_false rfl ?_
   refine wp_exit ?_
   refine hK149 _ _ ?_
   refine wp_seq_k (fun K230 hK230 => ?_)
   have hlg := hl1 (by omega)
   refine region_wl ?_
   refine do_ rfl (.slice ya h.length yc) (ex_move _) ?_
   simp only [pS, pN, pA, pC, pZ]
   refine do_ rfl (.int .i64 ((h.length : Nat) : Int)) (ex_len Tryd.underlying24 rfl) ?_
   simp only [pS, pN, pA, pC, pZ]
   refine do_ rfl (.int .i64 ((g.length : Nat) : Int)) (ex_move _) ?_
   simp only [pS, pN, pA, pC, pZ]
   refine do_ rfl (.int .i64 (((g.length - 1) : Nat) : Int)) (ex_sub (m := ((g.length : Nat) : Int)) (n := (1 : Int)) (r := (((g.length - 1) : Nat) : Int)) rfl rfl (by omega) (by omega) (by omega)) ?_
   simp only [pS, pN, pA, pC, pZ]
   refine do_ rfl (.bool false) (ex_neq (m := ((h.length : Nat) : Int)) (n := (((g.length - 1) : Nat) : Int)) (b := false) rfl rfl (bne_eq_false_iff_eq.2 (by omega))) ?_
   simp only [pS, pN, pA, pC, pZ]
   refine wl_nil (hK230 _ _ ?_)
   refine wp_cond_false rfl ?_
   refine wp_skip ?_
   exact hK122 _ _ _ (by omega) ⟨h, ya, yc, F151, _, rfl, rfl, rfl, S157, ((le121.trans le146).trans le158), oki, hh⟩
 ·refine do_ rfl (.bool false) (ex_gtr (m := ((g.length : Nat) : Int)) (n := (0 : Int)) (b := false) rfl rfl (decide_eq_false (by omega))) ?_
  simp only [pS, pN, pA, pC, pZ]
  refine wl_nil (hK124 _ _ ?_)
  refine wp_cond_false rfl ?_
  refine wp_exit ?_
  refine hK113 _ _ ?_
  refine wp_seq_k (fun K231 hK231 => ?_)
  have hg0 : g = [] := List.eq_nil_of_length_eq_zero (by omega)
  refine region_wl ?_
  refine do_ rfl (.slice xa g.length xc) (ex_move _) ?_
  simp only [pS, pN, pA, pC, pZ]
  refine stGives S120 rfl (ex_fn (vs := #[(.slice xa g.length xc)]) (map1 rfl) rfl (ent_17 _ _)) (forestRoot_spec _ _ _ g (S120).sat (hT.at S120.gr.below) hg okg) ?_
  intro v237 w232 F234 S233 le235 R236
  obtain ⟨x238, rfl, r239⟩ := R236
  obtain ⟨xa240, xc241, rfl, _⟩ := r239.shape
  have r239 : Bs _ (.slice xa240 (rootF g).length xc241) (rootF g) := r239
  simp only [pS, pN, pA, pC, pZ]
  refine do_ rfl (.tuple #[(.slice xa240 (rootF g).length xc241), (.int .i64 0)]) (ex_move _) ?_
  simp only [pS, pN, pA, pC, pZ]
  refine do_ rfl (.slice xa240 (rootF g).length xc241) (ex_extract rfl rfl) ?_
  simp only [pS, pN, pA, pC, pZ]
  refine do_ rfl (.int .i64 0) (ex_extract rfl rfl) ?_
  simp only [pS, pN, pA, pC, pZ]
  refine do_ rfl (.slice xa240 (rootF g).length xc241) (ex_assign _) ?_
  simp only [pS, pN, pA, pC, pZ]
  refine do_ rfl (.int .i64 0) (ex_assign _) ?_
  simp only [pS, pN, pA, pC, pZ]
  refine wl_nil (hK231 _ _ ?_)
  refine wp_seq_k (fun K242 hK242 => region_wl ?_)
  refine stGives S233 rfl (ex_fn (vs := #[(.slice none 0 0)]) (map1 rfl) rfl (ent_18 _ _)) (Root_spec _ _ _ ([] : List Pr) (S233).sat (hT.at S233.gr.below) (Sl.nil _ _ _) (TreeOk.nil 60)) ?_
  intro v248 w243 F245 S244 le246 R247
  obtain ⟨x249, rfl, r250⟩ := R247
  obtain ⟨xa251, xc252, rfl, _⟩ := r250.shape
  have r250 : Bs _ (.slice xa251 (rootT ([] : List Pr)).length xc252) (rootT ([] : List Pr)) := r250
  simp only [pS, pN, pA, pC, pZ]
  refine do_ rfl (.tuple #[(.slice xa251 (rootT ([] : List Pr)).length xc252), (.int .i64 0)]) (ex_move _) ?_
  simp only [pS, pN, pA, pC, pZ]
  refine do_ rfl (.slice xa251 (rootT ([] : List Pr)).length xc252) (ex_extract rfl rfl) ?_
  simp only [pS, pN, pA, pC, pZ]
  refine do_ rfl (.int .i64 0) (ex_extract rfl rfl) ?_
  simp only [pS, pN, pA, pC, pZ]
  refine do_ rfl (.slice xa251 (rootT ([] : List Pr)).length xc252) (ex_assign _) ?_
  simp only [pS, pN, pA, pC, pZ]
  refine do_ rfl (.int .i64 0) (ex_assign _) ?_
  simp only [pS, pN, pA, pC, pZ]
  refine wl_nil (hK242 _ _ ?_)
  refine wp_seq_k (fun K253 hK253 => region_wl ?_)
  refine do_ rfl (.int .i64 0) (ex_move _) ?_
  simp only [pS, pN, pA, pC, pZ]
  refine do_ rfl (.bool true) (ex_eql (b := true) rfl rfl (by decide)) ?_
  simp only [pS, pN, pA, pC, pZ]
  refine do_ rfl (.bool true) (ex_move _) ?_
  simp only [pS, pN, pA, pC, pZ]
  refine do_ rfl (.int .i64 0) (ex_move _) ?_
  simp only [pS, pN, pA, pC, pZ]
  refine do_ rfl (.bool true) (ex_eql (b := true) rfl rfl (by decide)) ?_
  simp only [pS, pN, pA, pC, pZ]
  refine do_ rfl (.bool true) (ex_pick (b := true) rfl) ?_
  simp only [pS, pN, pA, pC, pZ]
  refine do_ rfl (.bool true) (ex_move _) ?_
  simp only [pS, pN, pA, pC, pZ]
  refine do_ rfl (.slice xa240 (rootF g).length xc241) (ex_move _) ?_
  simp only [pS, pN, pA, pC, pZ]
  refine do_ rfl (.slice xa251 (rootT ([] : List Pr)).length xc252) (ex_move _) ?_
  simp only [pS, pN, pA, pC, pZ]
  refine stTells (v := (.bool true)) S244 rfl (ex_fn (vs := #[(.slice xa240 (rootF g).length xc241), (.slice xa251 (rootT ([] : List Pr)).length xc252)]) (map2 rfl rfl) rfl (ent_19 _ _)) (tells_bool (tells_same (same_spec _ _ _ _ (rootF g) (rootT ([] : List Pr)) (S244).sat (r239.mono le246) r250)) (beq_iff_eq.2 (by rw [hg0]; rfl))) (fun w254 S255 => ?_)
  simp only [pS, pN, pA, pC, pZ]
  refine do_ rfl (.bool true) (ex_pick (b := true) rfl) ?_
  simp only [pS, pN, pA, pC, pZ]
  refine do_ rfl (.bool true) (ex_move _) ?_
  simp only [pS, pN, pA, pC, pZ]
  refine do_ rfl (.slice xa240 (rootF g).length xc241) (ex_move _) ?_
  simp only [pS, pN, pA, pC, pZ]
  refine do_ rfl (.int .i64 (((rootF g).length : Nat) : Int)) (ex_len Tryd.underlying23 rfl) ?_
  simp only [pS, pN, pA, pC, pZ]
  refine do_ rfl (.bool true) (ex_eql (m := (((rootF g).length : Nat) : Int)) (n := (32 : Int)) (b := true) rfl rfl (beq_iff_eq.2 (by rw [rootF_len]; rfl))) ?_
  simp only [pS, pN, pA, pC, pZ]
  refine do_ rfl (.bool true) (ex_pick (b := true) rfl) ?_
  simp only [pS, pN, pA, pC, pZ]
  refine do_ rfl (.bool true) (ex_assign _) ?_
  simp only [pS, pN, pA, pC, pZ]
  refine wl_nil (hK253 _ _ ?_)
  refine wp_ret ?_
  (try simp only [Exit.then, Exit.inBlock, ↓reduceIte, Nat.reduceEqDiff])
  refine bodyPost_ret (v := (.bool true)) ?_ rfl ?_
  ·exact res_t rfl rfl
  ·exact ⟨rfl, S255.gr.below⟩
end Go.Proofs.YtikklmjengkliaaDoor
