/- Rules, plain laws and walks: F3 F4 K4 K5 K6 S8 S9 S10 BY -/
import Derived.Test.YtilgpdpooildcaaGreatDoorBV2
import Derived.Test.YtilgpdpooildcaaGreatDoorBV4
import Derived.Test.YtilgpdpooildcaaGreatDoorBV3
import Derived.OrdersHeld
import Derived.Test.YtilgpdpooildcaaGreatDoorBV1
namespace Go.Proofs.YtilgpdpooildcaaGreatDoor
set_option maxHeartbeats 8000000
open Go.RowKit
set_option maxRecDepth 100000
set_option linter.unusedVariables false
set_option linter.unusedSimpArgs false
theorem wr_bad {l : Forest} {r : Wr} (h : wrE r ≠ 0) : applyR l [r] = (wrE r, []) := by unfold applyR; rw [if_pos h]
theorem wr_none {l : Forest} {r : Wr} (h : wrE r = 0) (hw : writeF l r = none) : applyR l [r] = (11, []) := by unfold applyR; rw [if_neg (by simp [h]), hw]
theorem wr_some {l g : Forest} {r : Wr} (h : wrE r = 0) (hw : writeF l r = some g) : applyR l [r] = (0, g) := by unfold applyR; rw [if_neg (by simp [h]), hw]; rfl
theorem delBad_spec (F : Fz) (w : World) (v u : Value) (l : List Pr) (k : By) (hs : Sat w F) (hv : Prs F v l) (hu : Bs F u k) (ok : TreeOk 60 l) (hk : checkN k.length ≠ 0) :
    Calls Tryz.prog 47 #[v, u] w (Gives w F (PrsE [] (checkN k.length))) := by
 have := delete_spec F w v u l k hs hv hu ok
 unfold delR delE at this
 rwa [if_neg hk] at this
theorem putBad_spec (F : Fz) (w : World) (v u : Value) (l : List Pr) (p : Pr) (hs : Sat w F) (hv : Prs F v l) (hu : Pr2V F u p) (ok : TreeOk 60 l) (hk : p.1.length ≤ 100000) (hx : p.2.length ≤ 100000) (h : pairE p ≠ 0) :
    Calls Tryz.prog 48 #[v, u] w (Gives w F (PrsE [] (pairE p))) := by
 have := put_spec F w v u l p hs hv hu ok hk hx
 have he : putE l p = pairE p := by unfold putE; rw [if_pos h]
 unfold putR at this
 rwa [he, if_neg h] at this
theorem putFull_spec (F : Fz) (w : World) (v u : Value) (l : List Pr) (p : Pr) (hs : Sat w F) (hv : Prs F v l) (hu : Pr2V F u p) (ok : TreeOk 60 l) (hk : p.1.length ≤ 100000) (hx : p.2.length ≤ 100000) (h : pairE p = 0) (h2 : 60 < (putT l p.1 p.2).length) :
    Calls Tryz.prog 48 #[v, u] w (Gives w F (PrsE [] 11)) := by
 have := put_spec F w v u l p hs hv hu ok hk hx
 have he : putE l p = 11 := by unfold putE; rw [if_neg (by simp [h]), if_pos h2]
 unfold putR at this
 rwa [he, if_neg (by decide)] at this
theorem putFit_spec (F : Fz) (w : World) (v u : Value) (l : List Pr) (p : Pr) (hs : Sat w F) (hv : Prs F v l) (hu : Pr2V F u p) (ok : TreeOk 60 l) (hk : p.1.length ≤ 100000) (hx : p.2.length ≤ 100000) (h : pairE p = 0) (h2 : ¬ 60 < (putT l p.1 p.2).length) :
    Calls Tryz.prog 48 #[v, u] w (Gives w F (PrsE (putT l p.1 p.2) 0)) := by
 have := put_spec F w v u l p hs hv hu ok hk hx
 have he : putE l p = 0 := by unfold putE; rw [if_neg (by simp [h]), if_neg h2]
 unfold putR at this
 rwa [he, if_pos rfl] at this
theorem find_is {F : Fz} {w : World} {v u : Value} {l : Forest} {k : By} {b : Bool} (hs : Sat w F) (hv : Tns F v l) (hu : Bs F u k) (hr : Rise l) (hl : l.length ≤ 1000000) (h : hasT l k = b) :
    Calls Tryz.prog 46 #[v, u] w (Tells w (.tuple #[.int .i64 (posT l k : Nat), .bool b])) := by
 subst h; exact findT_spec F w v u l k hs hv hu hr hl
theorem writeF_is {l : Forest} {r : Wr} {O N : List Pr} (hO : treeF l r.name = O) (hN : nextT r O = N) : writeF l r = if r.gone = false ∧ 60 < N.length then none else if N = [] then some (delT l r.name) else if 8 < (putT l r.name N).length then none else some (putT l r.name N) := by
 subst hO; subst hN; rfl
theorem next_gone {r : Wr} {O : List Pr} (h : r.gone = true) : nextT r O = delT O r.key := by unfold nextT; rw [if_pos h]
theorem next_put {r : Wr} {O : List Pr} (h : r.gone = false) : nextT r O = putT O r.key r.value := by unfold nextT; rw [if_neg (by rw [h]; simp)]
theorem nil_len {N : List Pr} (h : N.length = 0) : N = [] := List.eq_nil_of_length_eq_zero h
theorem not_nil {N : List Pr} (h : ¬ N.length = 0) : N ≠ [] := fun e => h (by rw [e]; rfl)
theorem putF_set {l : Forest} (hr : Rise l) {k : By} (h : hasT l k = true) (N : List Pr) : putT l k N = l.set (posT l k) (k, N) := by unfold putT; rw [if_pos h]
theorem putF_new {l : Forest} {k : By} (h : hasT l k = false) (N : List Pr) : putT l k N = l.take (posT l k) ++ (k, N) :: l.drop (posT l k) := by unfold putT; rw [if_neg (by rw [h]; simp)]
theorem delF_has {l : Forest} {k : By} (h : hasT l k = true) : delT l k = l.take (posT l k) ++ l.drop (posT l k + 1) := by unfold delT; rw [if_pos h]
theorem delF_not {l : Forest} {k : By} (h : hasT l k = false) : delT l k = l := by unfold delT; rw [if_neg (by rw [h]; simp)]
theorem write_spec {w0 w : World} {F0 F : Fz} {L0 : List Blk} {M0 : List RowP} {v u : Value} {l : Forest} {r : Wr}
    (S : St w0 F0 w F L0 (ownP 2 TnC TnC.mono 66 w0.heap.size v l :: M0)) (hu : WrV F u r) (ok : ForestOk 60 l) (hb0 : r.name.length ≤ 100000) (hb1 : r.key.length ≤ 100000) (hb2 : r.value.length ≤ 100000) :
    Calls Tryz.prog 34 #[v, u] w fun e w' => ∃ v', e = .returned (.tuple #[v', .int .i64 (applyR l [r]).1]) ∧ ∃ F', Le F F' ∧
      (((applyR l [r]).1 = 0 ∧ St w0 F0 w' F' L0 (ownP 2 TnC TnC.mono 66 w0.heap.size v' (applyR l [r]).2 :: M0)) ∨ ((applyR l [r]).1 ≠ 0 ∧ v' = .slice none 0 0 ∧ St w0 F0 w' F' L0 M0)) := by
 obtain ⟨a, c, rfl, hc1, hc2⟩ := (S.own (i := 0) rfl).shape
 obtain ⟨x0, y0, x1, y1, x3, y3, rfl, h0, h1, h3⟩ := hu
 unfold maxLen at hc2
 obtain ⟨i66, hi66, hz66, hs66, hb66⟩ := info_parts info_66
 go_enter Tryz.func34, Tryz.ntmps34
 refine sk fun K1 hK1 => ?_
 refine stNew S (v := fun n => .pointer (aA n 0)) rfl (ex_box (v := (.agg #[(.slice x0 r.name.length y0), (.slice x1 r.key.length y1), (.bool r.gone), (.slice x3 r.value.length y3)])) rfl) (fun n2 w3 S4 => ?_)
 iterate 2 refine dy ?_
 refine wn hK1 ?_
 refine wp_seq_k (fun K5 hK5 => ?_)
 refine sk fun K6 hK6 => ?_
 refine df (fa_39_0 _ _) ?_
 refine dl (nagg_25 _) S4 0 ?_
 simp only [pq]
 refine stTells (v := (.int .i64 (nameN r.name.length))) S4 rfl (fn1 (ent_42 _ _)) (tells_same (name_len _ _ _ _)) (fun w7 S8 => ?_)
 refine dy ?_
 refine wn hK6 ?_
 refine sk fun K9 hK9 => ?_
 refine dx ?_
 simp only [pq]
 by_cases hc16 : (nameN r.name.length) = (0 : Int)
 refine neqF ?_
 refine wn hK9 ?_
 refine wp_cond_false rfl ?_
 refine wp_skip ?_
 refine hK5 _ _ ?_
 refine wp_seq_k (fun K10 hK10 => ?_)
 have hl8 := ok.len
 have hpl : posT l r.name ≤ l.length := posBy_le _ _ _
 cases hh : hasT l r.name with
 | false =>
  have hO := treeF_not hh
  refine region_wl ?_
  refine dx ?_
  refine df (fa_39_0 _ _) ?_
  refine dl (nagg_25 _) S8 0 ?_
  simp only [pq]
  obtain ⟨F11, hs12, le13, hsl14⟩ := own_peek S8 (i := 0) rfl
  refine stTells (v := (.tuple #[(nI (posT l r.name)), bF])) S8 rfl (fn2 (ent_46 _ _)) (find_is hs12 hsl14 (h0.mono le13) ok.rise (by omega) hh) (fun w15 S16 => ?_)
  refine dx ?_
  iterate 2 refine de ?_
  simp only [pq]
  iterate 2 refine dy ?_
  refine wl_nil (hK10 _ _ ?_)
  refine sk fun K17 hK17 => ?_
  iterate 2 refine dy ?_
  simp only [pq]
  refine wn hK17 ?_
  refine wp_seq_k (fun K18 hK18 => ?_)
  refine sk fun K19 hK19 => ?_
  refine dx ?_
  refine wn hK19 ?_
  refine wp_cond_false rfl ?_
  refine wp_skip ?_
  refine hK18 _ _ ?_
  refine sk fun K20 hK20 => ?_
  refine dy ?_
  refine wn hK20 ?_
  refine wp_seq_k (fun K21 hK21 => ?_)
  refine sk fun K22 hK22 => ?_
  refine df (fa_39_2 _ _) ?_
  refine dl (nagg_4 _) S16 0 ?_
  simp only [pq]
  refine wn hK22 ?_
  refine wp_cond_split rfl (fun hgone => ?_) (fun hgone => ?_)
  refine wp_seq_k (fun K23 hK23 => ?_)
  by_cases hk : checkN r.key.length = 0
  refine region_wl ?_
  refine dx ?_
  refine df (fa_39_1 _ _) ?_
  refine dl (nagg_25 _) S16 0 ?_
  simp only [pq]
  refine stGives S16 rfl (fn2 (ent_47 _ _)) (delOk_spec _ _ _ _ ([] : List Pr) r.key (S16).sat (Sl.nil _ _ _) h1 (TreeOk.nil 60) (checkN_zero.1 hk)) ?_
  intro v29 w24 F26 S25 le27 R28
  obtain ⟨_, rfl, r32⟩ := R28
  obtain ⟨a30, c31, rfl, h33, h34⟩ := Sl.shape r32
  unfold maxLen at h34
  have h33 : (delT ([] : List Pr) r.key).length ≤ c31 := h33
  have r32 : Prs _ (.slice a30 (delT ([] : List Pr) r.key).length c31) (delT ([] : List Pr) r.key) := r32
  refine dx ?_
  iterate 2 refine de ?_
  simp only [pq]
  iterate 2 refine dy ?_
  refine wl_nil (hK23 _ _ ?_)
  refine sk fun K35 hK35 => ?_
  refine dx ?_
  refine dr bT (ex_eql (b := true) rfl rfl (by decide)) ?_
  refine dx ?_
  simp only [pq]
  refine df (fa_39_3 _ _) ?_
  refine dl (nagg_25 _) S25 0 ?_
  refine dn Tryz.underlying25 ?_
  simp only [pq]
  by_cases hc46 : 0 < r.value.length
  refine gtrT ?_
  refine dp ?_
  refine wn hK35 ?_
  refine wp_cond_true rfl ?_
  refine region_wl ?_
  refine dy ?_
  simp only [pq]
  refine wl_nil (hK21 _ _ ?_)
  refine wp_seq_k (fun K36 hK36 => ?_)
  refine wp_block ?_
  refine sk fun K37 hK37 => ?_
  refine dx ?_
  refine dr bT (ex_neq (b := true) rfl rfl (by decide)) ?_
  refine dy ?_
  simp only [pq]
  refine wn hK37 ?_
  refine wp_cond_true rfl ?_
  refine sk fun K38 hK38 => ?_
  refine dx ?_
  iterate 2 refine dy ?_
  simp only [pq]
  refine wn hK38 ?_
  refine wp_ret ?_
  (try simp only [Exit.then, Exit.inBlock, ↓reduceIte, Nat.reduceEqDiff])
  refine bR (res_tt rfl (gD rfl) (gD rfl)) ?_
  skip
  have hwe : wrE r = 4 := by unfold wrE; rw [if_neg (by omega), if_pos hgone, if_neg (by omega), if_pos (by omega)]
  have hne : wrE r ≠ 0 := by rw [hwe]; decide
  have S39 := St.drop S25 (.cons _ (List.Sublist.refl _))
  rw [wr_bad hne]
  refine ⟨_, by rw [hwe], _, le27, .inr ⟨hne, rfl, St.dropRow S39 (.cons _ (.refl _))⟩⟩
  refine gtrF ?_
  refine dp ?_
  refine wn hK35 ?_
  refine wp_cond_false rfl ?_
  refine wp_skip ?_
  refine hK21 _ _ ?_
  refine wp_seq_k (fun K41 hK41 => ?_)
  refine wp_block ?_
  refine sk fun K42 hK42 => ?_
  refine dx ?_
  refine dr bF (ex_neq (b := false) rfl rfl (by decide)) ?_
  refine dy ?_
  simp only [pq]
  refine wn hK42 ?_
  refine wp_cond_false rfl ?_
  refine sk fun K43 hK43 => ?_
  iterate 2 refine dx ?_
  refine nO ?_
  simp only [pq]
  iterate 2 refine nO ?_
  refine dp ?_
  refine dy ?_
  simp only [pq]
  refine wn hK43 ?_
  refine wp_cond_false rfl ?_
  refine sk fun K44 hK44 => ?_
  refine dx ?_
  refine dy ?_
  refine wn hK44 ?_
  refine wp_cond_false rfl ?_
  refine sk fun K45 hK45 => ?_
  refine dx ?_
  refine dn Tryz.underlying47 ?_
  simp only [pq]
  by_cases hc85 : (delT ([] : List Pr) r.key).length = 0
  refine eqlT ?_
  refine dy ?_
  refine wn hK45 ?_
  refine wp_cond_true rfl ?_
  refine sk fun K46 hK46 => ?_
  refine dx ?_
  iterate 2 refine dy ?_
  simp only [pq]
  refine wn hK46 ?_
  refine wp_ret ?_
  (try simp only [Exit.then, Exit.inBlock, ↓reduceIte, Nat.reduceEqDiff])
  refine bR (res_tt rfl (gD rfl) (gD rfl)) ?_
  skip
  have hw0 : wrE r = 0 := by unfold wrE; rw [if_neg (by omega), if_pos hgone, if_neg (by omega), if_neg (by omega)]
  have hwf := writeF_is hO (next_gone hgone)
  rw [if_neg (fun h => by rw [hgone] at h; simp at h)] at hwf
  rw [if_pos (nil_len hc85), delF_not hh] at hwf
  have S47 := St.drop S25 (.cons _ (List.Sublist.refl _))
  rw [wr_some hw0 hwf]
  exact ⟨_, rfl, _, le27, .inl ⟨rfl, S47⟩⟩
  refine eqlF ?_
  refine dy ?_
  refine wn hK45 ?_
  refine wp_cond_false rfl ?_
  refine sk fun K49 hK49 => ?_
  refine dx ?_
  refine dn Tryz.underlying24 ?_
  simp only [pq]
  by_cases hc90 : l.length = 8
  refine eqlT ?_
  refine dy ?_
  refine wn hK49 ?_
  refine wp_cond_true rfl ?_
  refine sk fun K50 hK50 => ?_
  iterate 2 refine dy ?_
  simp only [pq]
  refine wn hK50 ?_
  refine wp_ret ?_
  (try simp only [Exit.then, Exit.inBlock, ↓reduceIte, Nat.reduceEqDiff])
  refine bR (res_tt rfl (gD rfl) (gD rfl)) ?_
  skip
  have hw0 : wrE r = 0 := by unfold wrE; rw [if_neg (by omega), if_pos hgone, if_neg (by omega), if_neg (by omega)]
  have hwf := writeF_is hO (next_gone hgone)
  rw [if_neg (fun h => by rw [hgone] at h; simp at h)] at hwf
  rw [if_neg (not_nil hc85), if_pos (by rw [len_putT, if_neg (by rw [hh]; simp)]; omega)] at hwf
  have S51 := St.drop S25 (.cons _ (List.Sublist.refl _))
  rw [wr_none hw0 hwf]
  refine ⟨_, rfl, _, le27, .inr ⟨(by decide : (11 : Int) ≠ 0), rfl, St.dropRow S51 (.cons _ (.refl _))⟩⟩
  refine eqlF ?_
  refine dy ?_
  refine wn hK49 ?_
  refine wp_cond_false rfl ?_
  refine wp_skip ?_
  refine hK41 _ _ ?_
  refine sk fun K53 hK53 => ?_
  iterate 2 refine dx ?_
  refine df (fa_39_0 _ _) ?_
  simp only [pq]
  refine dl (nagg_25 _) S25 0 ?_
  refine stGives S25 rfl (fn1 (ent_45 _ _)) (clone_spec _ _ _ r.name (S25).sat (h0.mono le27) (by omega)) ?_
  intro v59 w54 F56 S55 le57 R58
  obtain ⟨xa60, xc61, rfl, _⟩ := R58.shape
  refine dx ?_
  refine dr (.agg #[(.slice xa60 r.name.length xc61), (.slice a30 (delT ([] : List Pr) r.key).length c31)]) (ex_build (bmap2 rfl rfl) (by kernel_rfl)) ?_
  simp only [pq]
  refine stNew S55 (v := fun n => .slice (aA n 0) 1 1) rfl (ex_lit (ps := #[(0, (.agg #[(.slice xa60 r.name.length xc61), (.slice a30 (delT ([] : List Pr) r.key).length c31)]))]) (cells := #[(.slice xa60 r.name.length xc61), (.slice a30 (delT ([] : List Pr) r.key).length c31)]) (E := 66) (bmap1 rfl) (fun w => by kernel_rfl)) (fun n62 w63 S64 => ?_)
  refine stOwn (L := (⟨n2, [(.slice x0 r.name.length y0), (.slice x1 r.key.length y1), (.bool r.gone), (.slice x3 r.value.length y3)], 39⟩ :: L0)) (M := fun v_ => (ownP 2 TnC TnC.mono 66 w0.heap.size v_ (l.take (posT l r.name) ++ (r.name, (delT ([] : List Pr) r.key)) :: l.drop (posT l r.name)) :: M0)) rfl (ex_fn (vs := #[(.slice a l.length c), (nI (posT l r.name)), (.slice (aA n62 0) 1 1)]) (map3 rfl rfl rfl) rfl (ent_50 _ _)) (insertTenant (p := (r.name, (delT ([] : List Pr) r.key))) TnC.one S64 rfl ⟨_, _, rfl, R58, (r32.mono le57)⟩ (by omega) hpl) ?_
  intro v65 w66 S67
  simp only [pq]
  iterate 2 refine dy ?_
  refine wn hK53 ?_
  refine wp_ret ?_
  (try simp only [Exit.then, Exit.inBlock, ↓reduceIte, Nat.reduceEqDiff])
  refine bR (res_tt rfl (gD rfl) (gD rfl)) ?_
  skip
  have hw0 : wrE r = 0 := by unfold wrE; rw [if_neg (by omega), if_pos hgone, if_neg (by omega), if_neg (by omega)]
  have hwf := writeF_is hO (next_gone hgone)
  rw [if_neg (fun h => by rw [hgone] at h; simp at h)] at hwf
  rw [if_neg (not_nil hc85), if_neg (by rw [len_putT, if_neg (by rw [hh]; simp)]; omega), putF_new hh] at hwf
  have S68 := St.drop S67 (.cons _ (List.Sublist.refl _))
  rw [wr_some hw0 hwf]
  exact ⟨_, rfl, _, (le27.trans le57), .inl ⟨rfl, S68⟩⟩
  refine region_wl ?_
  refine dx ?_
  refine df (fa_39_1 _ _) ?_
  refine dl (nagg_25 _) S16 0 ?_
  simp only [pq]
  refine stGives S16 rfl (fn2 (ent_47 _ _)) (delBad_spec _ _ _ _ ([] : List Pr) r.key (S16).sat (Sl.nil _ _ _) h1 (TreeOk.nil 60) hk) ?_
  intro v75 w70 F72 S71 le73 R74
  obtain ⟨_, rfl, r78⟩ := R74
  obtain ⟨a76, c77, rfl, _⟩ := Sl.shape r78
  refine dx ?_
  iterate 2 refine de ?_
  simp only [pq]
  iterate 2 refine dy ?_
  refine wl_nil (hK23 _ _ ?_)
  refine sk fun K79 hK79 => ?_
  refine dx ?_
  refine dr bF (ex_eql (m := (checkN r.key.length)) (n := (0 : Int)) (b := false) rfl rfl (beq_eq_false_iff_ne.2 (hk))) ?_
  refine dx ?_
  simp only [pq]
  iterate 3 refine nO ?_
  simp only [pq]
  refine nO ?_
  refine dp ?_
  refine wn hK79 ?_
  refine wp_cond_false rfl ?_
  refine wp_skip ?_
  refine hK21 _ _ ?_
  refine wp_seq_k (fun K80 hK80 => ?_)
  refine wp_block ?_
  refine sk fun K81 hK81 => ?_
  refine dx ?_
  refine dr bT (ex_neq (m := (checkN r.key.length)) (n := (0 : Int)) (b := true) rfl rfl (bne_iff_ne.2 (hk))) ?_
  refine dy ?_
  simp only [pq]
  refine wn hK81 ?_
  refine wp_cond_true rfl ?_
  refine sk fun K82 hK82 => ?_
  refine dx ?_
  iterate 2 refine dy ?_
  simp only [pq]
  refine wn hK82 ?_
  refine wp_ret ?_
  (try simp only [Exit.then, Exit.inBlock, ↓reduceIte, Nat.reduceEqDiff])
  refine bodyPost_ret (v := (.tuple #[(.slice none 0 0), (.int .i64 (checkN r.key.length))])) ?_ rfl ?_
  exact res_tt rfl rfl rfl
  skip
  have hwe : wrE r = checkN r.key.length := by unfold wrE; rw [if_neg (by omega), if_pos hgone, if_pos hk]
  have hne : wrE r ≠ 0 := by rw [hwe]; exact hk
  have S83 := St.drop S71 (L' := L0) (.cons _ (List.Sublist.refl _))
  rw [wr_bad hne]
  refine ⟨_, by rw [hwe], _, le73, .inr ⟨hne, rfl, St.dropRow S83 (.cons _ (.refl _))⟩⟩
  by_cases hp : pairE (r.key, r.value) = 0
  by_cases h60 : 60 < (putT ([] : List Pr) r.key r.value).length
  refine region_wl ?_
  refine dx ?_
  refine df (fa_39_1 _ _) ?_
  refine dl (nagg_25 _) S16 0 ?_
  simp only [pq]
  refine df (fa_39_3 _ _) ?_
  refine dl (nagg_25 _) S16 0 ?_
  refine dr (.agg #[(.slice x1 r.key.length y1), (.slice x3 r.value.length y3)]) (ex_build (bmap2 rfl rfl) (by kernel_rfl)) ?_
  simp only [pq]
  refine stGives S16 rfl (fn2 (ent_48 _ _)) (putFull_spec _ _ _ _ ([] : List Pr) (r.key, r.value) (S16).sat (Sl.nil _ _ _) ⟨_, _, _, _, rfl, h1, h3⟩ (TreeOk.nil 60) hb1 hb2 hp h60) ?_
  intro v90 w85 F87 S86 le88 R89
  obtain ⟨_, rfl, r93⟩ := R89
  obtain ⟨a91, c92, rfl, h94, h95⟩ := Sl.shape r93
  unfold maxLen at h95
  refine dx ?_
  iterate 2 refine de ?_
  simp only [pq]
  iterate 2 refine dy ?_
  refine wl_nil (hK21 _ _ ?_)
  refine wp_seq_k (fun K96 hK96 => ?_)
  refine wp_block ?_
  refine sk fun K97 hK97 => ?_
  refine dx ?_
  refine dr bT (ex_neq (b := true) rfl rfl (by decide)) ?_
  refine dy ?_
  simp only [pq]
  refine wn hK97 ?_
  refine wp_cond_true rfl ?_
  refine sk fun K98 hK98 => ?_
  refine dx ?_
  iterate 2 refine dy ?_
  simp only [pq]
  refine wn hK98 ?_
  refine wp_ret ?_
  (try simp only [Exit.then, Exit.inBlock, ↓reduceIte, Nat.reduceEqDiff])
  refine bR (res_tt rfl (gD rfl) (gD rfl)) ?_
  skip
  have hw0 : wrE r = 0 := by unfold wrE; rw [if_neg (by omega), if_neg (by rw [hgone]; simp)]; exact hp
  have hwf := writeF_is hO (next_put hgone)
  rw [if_pos ⟨hgone, h60⟩] at hwf
  have S99 := St.drop S86 (.cons _ (List.Sublist.refl _))
  rw [wr_none hw0 hwf]
  refine ⟨_, rfl, _, le88, .inr ⟨(by decide : (11 : Int) ≠ 0), rfl, St.dropRow S99 (.cons _ (.refl _))⟩⟩
  refine region_wl ?_
  refine dx ?_
  refine df (fa_39_1 _ _) ?_
  refine dl (nagg_25 _) S16 0 ?_
  simp only [pq]
  refine df (fa_39_3 _ _) ?_
  refine dl (nagg_25 _) S16 0 ?_
  refine dr (.agg #[(.slice x1 r.key.length y1), (.slice x3 r.value.length y3)]) (ex_build (bmap2 rfl rfl) (by kernel_rfl)) ?_
  simp only [pq]
  refine stGives S16 rfl (fn2 (ent_48 _ _)) (putFit_spec _ _ _ _ ([] : List Pr) (r.key, r.value) (S16).sat (Sl.nil _ _ _) ⟨_, _, _, _, rfl, h1, h3⟩ (TreeOk.nil 60) hb1 hb2 hp h60) ?_
  intro v106 w101 F103 S102 le104 R105
  obtain ⟨_, rfl, r109⟩ := R105
  obtain ⟨a107, c108, rfl, h110, h111⟩ := Sl.shape r109
  unfold maxLen at h111
  have h110 : (putT ([] : List Pr) r.key r.value).length ≤ c108 := h110
  have r109 : Prs _ (.slice a107 (putT ([] : List Pr) r.key r.value).length c108) (putT ([] : List Pr) r.key r.value) := r109
  refine dx ?_
  iterate 2 refine de ?_
  simp only [pq]
  iterate 2 refine dy ?_
  refine wl_nil (hK21 _ _ ?_)
  refine wp_seq_k (fun K112 hK112 => ?_)
  refine wp_block ?_
  refine sk fun K113 hK113 => ?_
  refine dx ?_
  refine dr bF (ex_neq (b := false) rfl rfl (by decide)) ?_
  refine dy ?_
  simp only [pq]
  refine wn hK113 ?_
  refine wp_cond_false rfl ?_
  refine sk fun K114 hK114 => ?_
  iterate 2 refine dx ?_
  refine nO ?_
  simp only [pq]
  iterate 2 refine nO ?_
  refine dp ?_
  refine dy ?_
  simp only [pq]
  refine wn hK114 ?_
  refine wp_cond_false rfl ?_
  refine sk fun K115 hK115 => ?_
  refine dx ?_
  refine dy ?_
  refine wn hK115 ?_
  refine wp_cond_false rfl ?_
  refine sk fun K116 hK116 => ?_
  refine dx ?_
  refine dn Tryz.underlying47 ?_
  simp only [pq]
  by_cases hc85 : (putT ([] : List Pr) r.key r.value).length = 0
  refine eqlT ?_
  refine dy ?_
  refine wn hK116 ?_
  refine wp_cond_true rfl ?_
  refine sk fun K117 hK117 => ?_
  refine dx ?_
  iterate 2 refine dy ?_
  simp only [pq]
  refine wn hK117 ?_
  refine wp_ret ?_
  (try simp only [Exit.then, Exit.inBlock, ↓reduceIte, Nat.reduceEqDiff])
  refine bR (res_tt rfl (gD rfl) (gD rfl)) ?_
  skip
  have hw0 : wrE r = 0 := by unfold wrE; rw [if_neg (by omega), if_neg (by rw [hgone]; simp)]; exact hp
  have hwf := writeF_is hO (next_put hgone)
  rw [if_neg (fun h => h60 h.2)] at hwf
  rw [if_pos (nil_len hc85), delF_not hh] at hwf
  have S118 := St.drop S102 (.cons _ (List.Sublist.refl _))
  rw [wr_some hw0 hwf]
  exact ⟨_, rfl, _, le104, .inl ⟨rfl, S118⟩⟩
  refine eqlF ?_
  refine dy ?_
  refine wn hK116 ?_
  refine wp_cond_false rfl ?_
  refine sk fun K120 hK120 => ?_
  refine dx ?_
  refine dn Tryz.underlying24 ?_
  simp only [pq]
  by_cases hc90 : l.length = 8
  refine eqlT ?_
  refine dy ?_
  refine wn hK120 ?_
  refine wp_cond_true rfl ?_
  refine sk fun K121 hK121 => ?_
  iterate 2 refine dy ?_
  simp only [pq]
  refine wn hK121 ?_
  refine wp_ret ?_
  (try simp only [Exit.then, Exit.inBlock, ↓reduceIte, Nat.reduceEqDiff])
  refine bR (res_tt rfl (gD rfl) (gD rfl)) ?_
  skip
  have hw0 : wrE r = 0 := by unfold wrE; rw [if_neg (by omega), if_neg (by rw [hgone]; simp)]; exact hp
  have hwf := writeF_is hO (next_put hgone)
  rw [if_neg (fun h => h60 h.2)] at hwf
  rw [if_neg (not_nil hc85), if_pos (by rw [len_putT, if_neg (by rw [hh]; simp)]; omega)] at hwf
  have S122 := St.drop S102 (.cons _ (List.Sublist.refl _))
  rw [wr_none hw0 hwf]
  refine ⟨_, rfl, _, le104, .inr ⟨(by decide : (11 : Int) ≠ 0), rfl, St.dropRow S122 (.cons _ (.refl _))⟩⟩
  refine eqlF ?_
  refine dy ?_
  refine wn hK120 ?_
  refine wp_cond_false rfl ?_
  refine wp_skip ?_
  refine hK112 _ _ ?_
  refine sk fun K124 hK124 => ?_
  iterate 2 refine dx ?_
  refine df (fa_39_0 _ _) ?_
  simp only [pq]
  refine dl (nagg_25 _) S102 0 ?_
  refine stGives S102 rfl (fn1 (ent_45 _ _)) (clone_spec _ _ _ r.name (S102).sat (h0.mono le104) (by omega)) ?_
  intro v130 w125 F127 S126 le128 R129
  obtain ⟨xa131, xc132, rfl, _⟩ := R129.shape
  refine dx ?_
  refine dr (.agg #[(.slice xa131 r.name.length xc132), (.slice a107 (putT ([] : List Pr) r.key r.value).length c108)]) (ex_build (bmap2 rfl rfl) (by kernel_rfl)) ?_
  simp only [pq]
  refine stNew S126 (v := fun n => .slice (aA n 0) 1 1) rfl (ex_lit (ps := #[(0, (.agg #[(.slice xa131 r.name.length xc132), (.slice a107 (putT ([] : List Pr) r.key r.value).length c108)]))]) (cells := #[(.slice xa131 r.name.length xc132), (.slice a107 (putT ([] : List Pr) r.key r.value).length c108)]) (E := 66) (bmap1 rfl) (fun w => by kernel_rfl)) (fun n133 w134 S135 => ?_)
  refine stOwn (L := (⟨n2, [(.slice x0 r.name.length y0), (.slice x1 r.key.length y1), (.bool r.gone), (.slice x3 r.value.length y3)], 39⟩ :: L0)) (M := fun v_ => (ownP 2 TnC TnC.mono 66 w0.heap.size v_ (l.take (posT l r.name) ++ (r.name, (putT ([] : List Pr) r.key r.value)) :: l.drop (posT l r.name)) :: M0)) rfl (ex_fn (vs := #[(.slice a l.length c), (nI (posT l r.name)), (.slice (aA n133 0) 1 1)]) (map3 rfl rfl rfl) rfl (ent_50 _ _)) (insertTenant (p := (r.name, (putT ([] : List Pr) r.key r.value))) TnC.one S135 rfl ⟨_, _, rfl, R129, (r109.mono le128)⟩ (by omega) hpl) ?_
  intro v136 w137 S138
  simp only [pq]
  iterate 2 refine dy ?_
  refine wn hK124 ?_
  refine wp_ret ?_
  (try simp only [Exit.then, Exit.inBlock, ↓reduceIte, Nat.reduceEqDiff])
  refine bR (res_tt rfl (gD rfl) (gD rfl)) ?_
  skip
  have hw0 : wrE r = 0 := by unfold wrE; rw [if_neg (by omega), if_neg (by rw [hgone]; simp)]; exact hp
  have hwf := writeF_is hO (next_put hgone)
  rw [if_neg (fun h => h60 h.2)] at hwf
  rw [if_neg (not_nil hc85), if_neg (by rw [len_putT, if_neg (by rw [hh]; simp)]; omega), putF_new hh] at hwf
  have S139 := St.drop S138 (.cons _ (List.Sublist.refl _))
  rw [wr_some hw0 hwf]
  exact ⟨_, rfl, _, (le104.trans le128), .inl ⟨rfl, S139⟩⟩
  refine region_wl ?_
  refine dx ?_
  refine df (fa_39_1 _ _) ?_
  refine dl (nagg_25 _) S16 0 ?_
  simp only [pq]
  refine df (fa_39_3 _ _) ?_
  refine dl (nagg_25 _) S16 0 ?_
  refine dr (.agg #[(.slice x1 r.key.length y1), (.slice x3 r.value.length y3)]) (ex_build (bmap2 rfl rfl) (by kernel_rfl)) ?_
  simp only [pq]
  refine stGives S16 rfl (fn2 (ent_48 _ _)) (putBad_spec _ _ _ _ ([] : List Pr) (r.key, r.value) (S16).sat (Sl.nil _ _ _) ⟨_, _, _, _, rfl, h1, h3⟩ (TreeOk.nil 60) hb1 hb2 hp) ?_
  intro v146 w141 F143 S142 le144 R145
  obtain ⟨_, rfl, r149⟩ := R145
  obtain ⟨a147, c148, rfl, _⟩ := Sl.shape r149
  refine dx ?_
  iterate 2 refine de ?_
  simp only [pq]
  iterate 2 refine dy ?_
  refine wl_nil (hK21 _ _ ?_)
  refine wp_seq_k (fun K150 hK150 => ?_)
  refine wp_block ?_
  refine sk fun K151 hK151 => ?_
  refine dx ?_
  refine dr bT (ex_neq (m := (pairE (r.key, r.value))) (n := (0 : Int)) (b := true) rfl rfl (bne_iff_ne.2 (hp))) ?_
  refine dy ?_
  simp only [pq]
  refine wn hK151 ?_
  refine wp_cond_true rfl ?_
  refine sk fun K152 hK152 => ?_
  refine dx ?_
  iterate 2 refine dy ?_
  simp only [pq]
  refine wn hK152 ?_
  refine wp_ret ?_
  (try simp only [Exit.then, Exit.inBlock, ↓reduceIte, Nat.reduceEqDiff])
  refine bodyPost_ret (v := (.tuple #[(.slice none 0 0), (.int .i64 (pairE (r.key, r.value)))])) ?_ rfl ?_
  exact res_tt rfl rfl rfl
  skip
  have hwe : wrE r = pairE (r.key, r.value) := by unfold wrE; rw [if_neg (by omega), if_neg (by rw [hgone]; simp)]
  have hne : wrE r ≠ 0 := by rw [hwe]; exact hp
  have S153 := St.drop S142 (L' := L0) (.cons _ (List.Sublist.refl _))
  rw [wr_bad hne]
  refine ⟨_, by rw [hwe], _, le144, .inr ⟨hne, rfl, St.dropRow S153 (.cons _ (.refl _))⟩⟩
 | true =>
  have hpos := hasF_pos ok.rise hh
  obtain ⟨t, ht⟩ : ∃ t, l[posT l r.name]? = some t := ⟨l[posT l r.name], List.getElem?_eq_getElem hpos⟩
  have hO := treeF_has ok.rise hh ht
  have htn : t.1 = r.name := by obtain ⟨_, h2⟩ := (hasBy_at ok.rise).1 hh; obtain ⟨_, rfl⟩ := List.getElem?_eq_some_iff.1 ht; exact h2
  obtain ⟨g155, rfl⟩ := Own.addr0 (S8.own (i := 0) rfl) (by omega)
  refine region_wl ?_
  refine dx ?_
  refine df (fa_39_0 _ _) ?_
  refine dl (nagg_25 _) S8 0 ?_
  simp only [pq]
  obtain ⟨F156, hs157, le158, hsl159⟩ := own_peek S8 (i := 0) rfl
  refine stTells (v := (.tuple #[(nI (posT l r.name)), bT])) S8 rfl (fn2 (ent_46 _ _)) (find_is hs157 hsl159 (h0.mono le158) ok.rise (by omega) hh) (fun w160 S161 => ?_)
  refine dx ?_
  iterate 2 refine de ?_
  simp only [pq]
  iterate 2 refine dy ?_
  refine wl_nil (hK10 _ _ ?_)
  refine sk fun K162 hK162 => ?_
  iterate 2 refine dy ?_
  simp only [pq]
  refine wn hK162 ?_
  refine wp_seq_k (fun K163 hK163 => ?_)
  refine sk fun K164 hK164 => ?_
  refine dx ?_
  refine wn hK164 ?_
  refine wp_cond_true rfl ?_
  obtain ⟨g165, ha166, xa168, xc169, xa172, xc173, c167, c171, r170, r174⟩ := tn_at (S161.own (i := 0) rfl) ht
  injection ha166 with ha166; injection ha166 with ha166; subst ha166
  refine region_wl ?_
  iterate 2 refine dx ?_
  refine dr (pP g155 (0 + (posT l r.name) * 2)) (ex_at (i := (posT l r.name)) (sz := 2) Tryz.underlying24 (sizeof_66 _) rfl rfl rfl (hpos) rfl) ?_
  simp only [pq]
  refine df (fa_66_1 _ _) ?_
  refine dr _ (ex_load rfl (load1 (nagg_47 _) c171)) ?_
  refine dy ?_
  simp only [pq]
  refine wl_nil (hK163 _ _ ?_)
  refine sk fun K175 hK175 => ?_
  refine dy ?_
  refine wn hK175 ?_
  refine wp_seq_k (fun K176 hK176 => ?_)
  refine sk fun K177 hK177 => ?_
  refine df (fa_39_2 _ _) ?_
  refine dl (nagg_4 _) S161 0 ?_
  simp only [pq]
  refine wn hK177 ?_
  refine wp_cond_split rfl (fun hgone => ?_) (fun hgone => ?_)
  refine wp_seq_k (fun K178 hK178 => ?_)
  by_cases hk : checkN r.key.length = 0
  refine region_wl ?_
  refine dx ?_
  refine df (fa_39_1 _ _) ?_
  refine dl (nagg_25 _) S161 0 ?_
  simp only [pq]
  refine stGives S161 rfl (fn2 (ent_47 _ _)) (delOk_spec _ _ _ _ t.2 r.key (S161).sat r174 h1 (show TreeOk 60 t.2 from ok.tree t (List.mem_of_getElem? ht)) (checkN_zero.1 hk)) ?_
  intro v184 w179 F181 S180 le182 R183
  obtain ⟨_, rfl, r187⟩ := R183
  obtain ⟨a185, c186, rfl, h188, h189⟩ := Sl.shape r187
  unfold maxLen at h189
  have h188 : (delT t.2 r.key).length ≤ c186 := h188
  have r187 : Prs _ (.slice a185 (delT t.2 r.key).length c186) (delT t.2 r.key) := r187
  refine dx ?_
  iterate 2 refine de ?_
  simp only [pq]
  iterate 2 refine dy ?_
  refine wl_nil (hK178 _ _ ?_)
  refine sk fun K190 hK190 => ?_
  refine dx ?_
  refine dr bT (ex_eql (b := true) rfl rfl (by decide)) ?_
  refine dx ?_
  simp only [pq]
  refine df (fa_39_3 _ _) ?_
  refine dl (nagg_25 _) S180 0 ?_
  refine dn Tryz.underlying25 ?_
  simp only [pq]
  by_cases hc46 : 0 < r.value.length
  refine gtrT ?_
  refine dp ?_
  refine wn hK190 ?_
  refine wp_cond_true rfl ?_
  refine region_wl ?_
  refine dy ?_
  simp only [pq]
  refine wl_nil (hK176 _ _ ?_)
  refine wp_seq_k (fun K191 hK191 => ?_)
  refine wp_block ?_
  refine sk fun K192 hK192 => ?_
  refine dx ?_
  refine dr bT (ex_neq (b := true) rfl rfl (by decide)) ?_
  refine dy ?_
  simp only [pq]
  refine wn hK192 ?_
  refine wp_cond_true rfl ?_
  refine sk fun K193 hK193 => ?_
  refine dx ?_
  iterate 2 refine dy ?_
  simp only [pq]
  refine wn hK193 ?_
  refine wp_ret ?_
  (try simp only [Exit.then, Exit.inBlock, ↓reduceIte, Nat.reduceEqDiff])
  refine bR (res_tt rfl (gD rfl) (gD rfl)) ?_
  skip
  have hwe : wrE r = 4 := by unfold wrE; rw [if_neg (by omega), if_pos hgone, if_neg (by omega), if_pos (by omega)]
  have hne : wrE r ≠ 0 := by rw [hwe]; decide
  have S194 := St.drop S180 (.cons _ (List.Sublist.refl _))
  rw [wr_bad hne]
  refine ⟨_, by rw [hwe], _, le182, .inr ⟨hne, rfl, St.dropRow S194 (.cons _ (.refl _))⟩⟩
  refine gtrF ?_
  refine dp ?_
  refine wn hK190 ?_
  refine wp_cond_false rfl ?_
  refine wp_skip ?_
  refine hK176 _ _ ?_
  refine wp_seq_k (fun K196 hK196 => ?_)
  refine wp_block ?_
  refine sk fun K197 hK197 => ?_
  refine dx ?_
  refine dr bF (ex_neq (b := false) rfl rfl (by decide)) ?_
  refine dy ?_
  simp only [pq]
  refine wn hK197 ?_
  refine wp_cond_false rfl ?_
  refine sk fun K198 hK198 => ?_
  iterate 3 refine dx ?_
  simp only [pq]
  refine dn Tryz.underlying47 ?_
  simp only [pq]
  by_cases hc67 : (delT t.2 r.key).length = 0
  refine eqlT ?_
  refine dp ?_
  refine dy ?_
  simp only [pq]
  refine wn hK198 ?_
  refine wp_cond_true rfl ?_
  refine sk fun K199 hK199 => ?_
  iterate 3 refine dx ?_
  simp only [pq]
  refine dAdd ((posT l r.name) + 1) ?_
  refine stOwn (L := (⟨n2, [(.slice x0 r.name.length y0), (.slice x1 r.key.length y1), (.bool r.gone), (.slice x3 r.value.length y3)], 39⟩ :: L0)) (M := fun v_ => (ownP 2 TnC TnC.mono 66 w0.heap.size v_ (l.take (posT l r.name) ++ l.drop ((posT l r.name) + 1)) :: M0)) rfl (ex_fn (vs := #[(.slice (aA g155 0) l.length c), (nI (posT l r.name)), (nI ((posT l r.name) + 1))]) (map3 rfl rfl rfl) rfl (ent_49 _ _)) (deleteTenant TnC.one S180 (by omega) hpos) ?_
  intro v200 w201 S202
  iterate 2 refine dy ?_
  simp only [pq]
  refine wn hK199 ?_
  refine wp_ret ?_
  (try simp only [Exit.then, Exit.inBlock, ↓reduceIte, Nat.reduceEqDiff])
  refine bR (res_tt rfl (gD rfl) (gD rfl)) ?_
  skip
  have hw0 : wrE r = 0 := by unfold wrE; rw [if_neg (by omega), if_pos hgone, if_neg (by omega), if_neg (by omega)]
  have hwf := writeF_is hO (next_gone hgone)
  rw [if_neg (fun h => by rw [hgone] at h; simp at h)] at hwf
  rw [if_pos (nil_len hc67), delF_has hh] at hwf
  have S203 := St.drop S202 (.cons _ (List.Sublist.refl _))
  rw [wr_some hw0 hwf]
  exact ⟨_, rfl, _, le182, .inl ⟨rfl, S203⟩⟩
  refine eqlF ?_
  refine dp ?_
  refine dy ?_
  simp only [pq]
  refine wn hK198 ?_
  refine wp_cond_false rfl ?_
  refine sk fun K205 hK205 => ?_
  refine dx ?_
  refine dy ?_
  refine wn hK205 ?_
  refine wp_cond_true rfl ?_
  refine sk fun K206 hK206 => ?_
  iterate 3 refine dx ?_
  simp only [pq]
  refine dr (pP g155 (0 + (posT l r.name) * 2)) (ex_at (i := (posT l r.name)) (sz := 2) Tryz.underlying24 (sizeof_66 _) rfl rfl rfl (hpos) rfl) ?_
  refine df (fa_66_1 _ _) ?_
  refine stSetCell (r := 0) (i := (posT l r.name)) (j := 1) (p := (r.name, (delT t.2 r.key))) (u := (.slice a185 (delT t.2 r.key).length c186)) S180 rfl rfl (by omega) (by decide) rfl rfl (by omega) (size_47) rfl rfl (fun cs q hq hR => ?_) (Nat.le_refl _) (fun w207 S208 => ?_)
  obtain ⟨x, y, rfl, hx, hy⟩ := hR
  obtain rfl : q = t := by rw [hq] at ht; exact Option.some.inj ht
  exact ⟨_, _, rfl, by rw [← htn]; exact hx, r187⟩
  refine wn hK206 ?_
  refine sk fun K209 hK209 => ?_
  refine dx ?_
  iterate 2 refine dy ?_
  simp only [pq]
  refine wn hK209 ?_
  refine wp_ret ?_
  (try simp only [Exit.then, Exit.inBlock, ↓reduceIte, Nat.reduceEqDiff])
  refine bR (res_tt rfl (gD rfl) (gD rfl)) ?_
  skip
  have hw0 : wrE r = 0 := by unfold wrE; rw [if_neg (by omega), if_pos hgone, if_neg (by omega), if_neg (by omega)]
  have hwf := writeF_is hO (next_gone hgone)
  rw [if_neg (fun h => by rw [hgone] at h; simp at h)] at hwf
  rw [if_neg (not_nil hc67), if_neg (by rw [len_putT, if_pos hh]; omega), putF_set ok.rise hh] at hwf
  have S210 := St.drop S208 (.cons _ (List.Sublist.refl _))
  rw [wr_some hw0 hwf]
  exact ⟨_, rfl, _, le182, .inl ⟨rfl, S210⟩⟩
  refine region_wl ?_
  refine dx ?_
  refine df (fa_39_1 _ _) ?_
  refine dl (nagg_25 _) S161 0 ?_
  simp only [pq]
  refine stGives S161 rfl (fn2 (ent_47 _ _)) (delBad_spec _ _ _ _ t.2 r.key (S161).sat r174 h1 (show TreeOk 60 t.2 from ok.tree t (List.mem_of_getElem? ht)) hk) ?_
  intro v217 w212 F214 S213 le215 R216
  obtain ⟨_, rfl, r220⟩ := R216
  obtain ⟨a218, c219, rfl, _⟩ := Sl.shape r220
  refine dx ?_
  iterate 2 refine de ?_
  simp only [pq]
  iterate 2 refine dy ?_
  refine wl_nil (hK178 _ _ ?_)
  refine sk fun K221 hK221 => ?_
  refine dx ?_
  refine dr bF (ex_eql (m := (checkN r.key.length)) (n := (0 : Int)) (b := false) rfl rfl (beq_eq_false_iff_ne.2 (hk))) ?_
  refine dx ?_
  simp only [pq]
  iterate 3 refine nO ?_
  simp only [pq]
  refine nO ?_
  refine dp ?_
  refine wn hK221 ?_
  refine wp_cond_false rfl ?_
  refine wp_skip ?_
  refine hK176 _ _ ?_
  refine wp_seq_k (fun K222 hK222 => ?_)
  refine wp_block ?_
  refine sk fun K223 hK223 => ?_
  refine dx ?_
  refine dr bT (ex_neq (m := (checkN r.key.length)) (n := (0 : Int)) (b := true) rfl rfl (bne_iff_ne.2 (hk))) ?_
  refine dy ?_
  simp only [pq]
  refine wn hK223 ?_
  refine wp_cond_true rfl ?_
  refine sk fun K224 hK224 => ?_
  refine dx ?_
  iterate 2 refine dy ?_
  simp only [pq]
  refine wn hK224 ?_
  refine wp_ret ?_
  (try simp only [Exit.then, Exit.inBlock, ↓reduceIte, Nat.reduceEqDiff])
  refine bodyPost_ret (v := (.tuple #[(.slice none 0 0), (.int .i64 (checkN r.key.length))])) ?_ rfl ?_
  exact res_tt rfl rfl rfl
  skip
  have hwe : wrE r = checkN r.key.length := by unfold wrE; rw [if_neg (by omega), if_pos hgone, if_pos hk]
  have hne : wrE r ≠ 0 := by rw [hwe]; exact hk
  have S225 := St.drop S213 (L' := L0) (.cons _ (List.Sublist.refl _))
  rw [wr_bad hne]
  refine ⟨_, by rw [hwe], _, le215, .inr ⟨hne, rfl, St.dropRow S225 (.cons _ (.refl _))⟩⟩
  by_cases hp : pairE (r.key, r.value) = 0
  by_cases h60 : 60 < (putT t.2 r.key r.value).length
  refine region_wl ?_
  refine dx ?_
  refine df (fa_39_1 _ _) ?_
  refine dl (nagg_25 _) S161 0 ?_
  simp only [pq]
  refine df (fa_39_3 _ _) ?_
  refine dl (nagg_25 _) S161 0 ?_
  refine dr (.agg #[(.slice x1 r.key.length y1), (.slice x3 r.value.length y3)]) (ex_build (bmap2 rfl rfl) (by kernel_rfl)) ?_
  simp only [pq]
  refine stGives S161 rfl (fn2 (ent_48 _ _)) (putFull_spec _ _ _ _ t.2 (r.key, r.value) (S161).sat r174 ⟨_, _, _, _, rfl, h1, h3⟩ (show TreeOk 60 t.2 from ok.tree t (List.mem_of_getElem? ht)) hb1 hb2 hp h60) ?_
  intro v232 w227 F229 S228 le230 R231
  obtain ⟨_, rfl, r235⟩ := R231
  obtain ⟨a233, c234, rfl, h236, h237⟩ := Sl.shape r235
  unfold maxLen at h237
  refine dx ?_
  iterate 2 refine de ?_
  simp only [pq]
  iterate 2 refine dy ?_
  refine wl_nil (hK176 _ _ ?_)
  refine wp_seq_k (fun K238 hK238 => ?_)
  refine wp_block ?_
  refine sk fun K239 hK239 => ?_
  refine dx ?_
  refine dr bT (ex_neq (b := true) rfl rfl (by decide)) ?_
  refine dy ?_
  simp only [pq]
  refine wn hK239 ?_
  refine wp_cond_true rfl ?_
  refine sk fun K240 hK240 => ?_
  refine dx ?_
  iterate 2 refine dy ?_
  simp only [pq]
  refine wn hK240 ?_
  refine wp_ret ?_
  (try simp only [Exit.then, Exit.inBlock, ↓reduceIte, Nat.reduceEqDiff])
  refine bR (res_tt rfl (gD rfl) (gD rfl)) ?_
  skip
  have hw0 : wrE r = 0 := by unfold wrE; rw [if_neg (by omega), if_neg (by rw [hgone]; simp)]; exact hp
  have hwf := writeF_is hO (next_put hgone)
  rw [if_pos ⟨hgone, h60⟩] at hwf
  have S241 := St.drop S228 (.cons _ (List.Sublist.refl _))
  rw [wr_none hw0 hwf]
  refine ⟨_, rfl, _, le230, .inr ⟨(by decide : (11 : Int) ≠ 0), rfl, St.dropRow S241 (.cons _ (.refl _))⟩⟩
  refine region_wl ?_
  refine dx ?_
  refine df (fa_39_1 _ _) ?_
  refine dl (nagg_25 _) S161 0 ?_
  simp only [pq]
  refine df (fa_39_3 _ _) ?_
  refine dl (nagg_25 _) S161 0 ?_
  refine dr (.agg #[(.slice x1 r.key.length y1), (.slice x3 r.value.length y3)]) (ex_build (bmap2 rfl rfl) (by kernel_rfl)) ?_
  simp only [pq]
  refine stGives S161 rfl (fn2 (ent_48 _ _)) (putFit_spec _ _ _ _ t.2 (r.key, r.value) (S161).sat r174 ⟨_, _, _, _, rfl, h1, h3⟩ (show TreeOk 60 t.2 from ok.tree t (List.mem_of_getElem? ht)) hb1 hb2 hp h60) ?_
  intro v248 w243 F245 S244 le246 R247
  obtain ⟨_, rfl, r251⟩ := R247
  obtain ⟨a249, c250, rfl, h252, h253⟩ := Sl.shape r251
  unfold maxLen at h253
  have h252 : (putT t.2 r.key r.value).length ≤ c250 := h252
  have r251 : Prs _ (.slice a249 (putT t.2 r.key r.value).length c250) (putT t.2 r.key r.value) := r251
  refine dx ?_
  iterate 2 refine de ?_
  simp only [pq]
  iterate 2 refine dy ?_
  refine wl_nil (hK176 _ _ ?_)
  refine wp_seq_k (fun K254 hK254 => ?_)
  refine wp_block ?_
  refine sk fun K255 hK255 => ?_
  refine dx ?_
  refine dr bF (ex_neq (b := false) rfl rfl (by decide)) ?_
  refine dy ?_
  simp only [pq]
  refine wn hK255 ?_
  refine wp_cond_false rfl ?_
  refine sk fun K256 hK256 => ?_
  iterate 3 refine dx ?_
  simp only [pq]
  refine dn Tryz.underlying47 ?_
  simp only [pq]
  by_cases hc67 : (putT t.2 r.key r.value).length = 0
  refine eqlT ?_
  refine dp ?_
  refine dy ?_
  simp only [pq]
  refine wn hK256 ?_
  refine wp_cond_true rfl ?_
  refine sk fun K257 hK257 => ?_
  iterate 3 refine dx ?_
  simp only [pq]
  refine dAdd ((posT l r.name) + 1) ?_
  refine stOwn (L := (⟨n2, [(.slice x0 r.name.length y0), (.slice x1 r.key.length y1), (.bool r.gone), (.slice x3 r.value.length y3)], 39⟩ :: L0)) (M := fun v_ => (ownP 2 TnC TnC.mono 66 w0.heap.size v_ (l.take (posT l r.name) ++ l.drop ((posT l r.name) + 1)) :: M0)) rfl (ex_fn (vs := #[(.slice (aA g155 0) l.length c), (nI (posT l r.name)), (nI ((posT l r.name) + 1))]) (map3 rfl rfl rfl) rfl (ent_49 _ _)) (deleteTenant TnC.one S244 (by omega) hpos) ?_
  intro v258 w259 S260
  iterate 2 refine dy ?_
  simp only [pq]
  refine wn hK257 ?_
  refine wp_ret ?_
  (try simp only [Exit.then, Exit.inBlock, ↓reduceIte, Nat.reduceEqDiff])
  refine bR (res_tt rfl (gD rfl) (gD rfl)) ?_
  skip
  have hw0 : wrE r = 0 := by unfold wrE; rw [if_neg (by omega), if_neg (by rw [hgone]; simp)]; exact hp
  have hwf := writeF_is hO (next_put hgone)
  rw [if_neg (fun h => h60 h.2)] at hwf
  rw [if_pos (nil_len hc67), delF_has hh] at hwf
  have S261 := St.drop S260 (.cons _ (List.Sublist.refl _))
  rw [wr_some hw0 hwf]
  exact ⟨_, rfl, _, le246, .inl ⟨rfl, S261⟩⟩
  refine eqlF ?_
  refine dp ?_
  refine dy ?_
  simp only [pq]
  refine wn hK256 ?_
  refine wp_cond_false rfl ?_
  refine sk fun K263 hK263 => ?_
  refine dx ?_
  refine dy ?_
  refine wn hK263 ?_
  refine wp_cond_true rfl ?_
  refine sk fun K264 hK264 => ?_
  iterate 3 refine dx ?_
  simp only [pq]
  refine dr (pP g155 (0 + (posT l r.name) * 2)) (ex_at (i := (posT l r.name)) (sz := 2) Tryz.underlying24 (sizeof_66 _) rfl rfl rfl (hpos) rfl) ?_
  refine df (fa_66_1 _ _) ?_
  refine stSetCell (r := 0) (i := (posT l r.name)) (j := 1) (p := (r.name, (putT t.2 r.key r.value))) (u := (.slice a249 (putT t.2 r.key r.value).length c250)) S244 rfl rfl (by omega) (by decide) rfl rfl (by omega) (size_47) rfl rfl (fun cs q hq hR => ?_) (Nat.le_refl _) (fun w265 S266 => ?_)
  obtain ⟨x, y, rfl, hx, hy⟩ := hR
  obtain rfl : q = t := by rw [hq] at ht; exact Option.some.inj ht
  exact ⟨_, _, rfl, by rw [← htn]; exact hx, r251⟩
  refine wn hK264 ?_
  refine sk fun K267 hK267 => ?_
  refine dx ?_
  iterate 2 refine dy ?_
  simp only [pq]
  refine wn hK267 ?_
  refine wp_ret ?_
  (try simp only [Exit.then, Exit.inBlock, ↓reduceIte, Nat.reduceEqDiff])
  refine bR (res_tt rfl (gD rfl) (gD rfl)) ?_
  skip
  have hw0 : wrE r = 0 := by unfold wrE; rw [if_neg (by omega), if_neg (by rw [hgone]; simp)]; exact hp
  have hwf := writeF_is hO (next_put hgone)
  rw [if_neg (fun h => h60 h.2)] at hwf
  rw [if_neg (not_nil hc67), if_neg (by rw [len_putT, if_pos hh]; omega), putF_set ok.rise hh] at hwf
  have S268 := St.drop S266 (.cons _ (List.Sublist.refl _))
  rw [wr_some hw0 hwf]
  exact ⟨_, rfl, _, le246, .inl ⟨rfl, S268⟩⟩
  refine region_wl ?_
  refine dx ?_
  refine df (fa_39_1 _ _) ?_
  refine dl (nagg_25 _) S161 0 ?_
  simp only [pq]
  refine df (fa_39_3 _ _) ?_
  refine dl (nagg_25 _) S161 0 ?_
  refine dr (.agg #[(.slice x1 r.key.length y1), (.slice x3 r.value.length y3)]) (ex_build (bmap2 rfl rfl) (by kernel_rfl)) ?_
  simp only [pq]
  refine stGives S161 rfl (fn2 (ent_48 _ _)) (putBad_spec _ _ _ _ t.2 (r.key, r.value) (S161).sat r174 ⟨_, _, _, _, rfl, h1, h3⟩ (show TreeOk 60 t.2 from ok.tree t (List.mem_of_getElem? ht)) hb1 hb2 hp) ?_
  intro v275 w270 F272 S271 le273 R274
  obtain ⟨_, rfl, r278⟩ := R274
  obtain ⟨a276, c277, rfl, _⟩ := Sl.shape r278
  refine dx ?_
  iterate 2 refine de ?_
  simp only [pq]
  iterate 2 refine dy ?_
  refine wl_nil (hK176 _ _ ?_)
  refine wp_seq_k (fun K279 hK279 => ?_)
  refine wp_block ?_
  refine sk fun K280 hK280 => ?_
  refine dx ?_
  refine dr bT (ex_neq (m := (pairE (r.key, r.value))) (n := (0 : Int)) (b := true) rfl rfl (bne_iff_ne.2 (hp))) ?_
  refine dy ?_
  simp only [pq]
  refine wn hK280 ?_
  refine wp_cond_true rfl ?_
  refine sk fun K281 hK281 => ?_
  refine dx ?_
  iterate 2 refine dy ?_
  simp only [pq]
  refine wn hK281 ?_
  refine wp_ret ?_
  (try simp only [Exit.then, Exit.inBlock, ↓reduceIte, Nat.reduceEqDiff])
  refine bodyPost_ret (v := (.tuple #[(.slice none 0 0), (.int .i64 (pairE (r.key, r.value)))])) ?_ rfl ?_
  exact res_tt rfl rfl rfl
  skip
  have hwe : wrE r = pairE (r.key, r.value) := by unfold wrE; rw [if_neg (by omega), if_neg (by rw [hgone]; simp)]
  have hne : wrE r ≠ 0 := by rw [hwe]; exact hp
  have S282 := St.drop S271 (L' := L0) (.cons _ (List.Sublist.refl _))
  rw [wr_bad hne]
  refine ⟨_, by rw [hwe], _, le273, .inr ⟨hne, rfl, St.dropRow S282 (.cons _ (.refl _))⟩⟩
 refine neqT ?_
 refine wn hK9 ?_
 refine wp_cond_true rfl ?_
 refine sk fun K284 hK284 => ?_
 refine dx ?_
 iterate 2 refine dy ?_
 simp only [pq]
 refine wn hK284 ?_
 refine wp_ret ?_
 (try simp only [Exit.then, Exit.inBlock, ↓reduceIte, Nat.reduceEqDiff])
 refine bR (res_tt rfl (gD rfl) (gD rfl)) ?_
 skip
 have hwe : wrE r = nameN r.name.length := by unfold wrE; rw [if_pos hc16]
 have hne : wrE r ≠ 0 := by rw [hwe]; exact hc16
 have S285 := St.drop S8 (.cons _ (List.Sublist.refl _))
 rw [wr_bad hne]
 refine ⟨_, by rw [hwe], _, (Le.refl _), .inr ⟨hne, rfl, St.dropRow S285 (.cons _ (.refl _))⟩⟩
def TnsE (r : Forest) (e : Int) (F : Fz) (u : Value) : Prop := ∃ x, u = .tuple #[x, .int .i64 e] ∧ Tns F x r
theorem applyR_cons (f : Forest) (x : Wr) (ws : List Wr) : applyR f (x :: ws) = if wrE x ≠ 0 then (wrE x, []) else match writeF f x with | none => (11, []) | some g => applyR g ws := rfl
theorem applyR_snoc : ∀ {ws : List Wr} {f : Forest} {w : Wr}, (applyR f ws).1 = 0 → applyR f (ws ++ [w]) = applyR (applyR f ws).2 [w]
  | [], f, w, _ => rfl
  | x :: ws, f, w, h => by
    rw [applyR_cons] at h
    rw [List.cons_append, applyR_cons f x (ws ++ [w]), applyR_cons f x ws]
    by_cases hx : wrE x ≠ 0
    · rw [if_pos hx] at h; exact absurd h hx
    · rw [if_neg hx] at h
      rw [if_neg hx, if_neg hx]
      cases hw : writeF f x with
      | none => rw [hw] at h; simp at h
      | some g =>
        rw [hw] at h
        simp only at h ⊢
        exact applyR_snoc h
theorem applyR_stop : ∀ {ws us : List Wr} {f : Forest}, (applyR f ws).1 ≠ 0 → applyR f (ws ++ us) = applyR f ws
  | [], us, f, h => by simp [applyR] at h
  | x :: ws, us, f, h => by
    rw [applyR_cons] at h
    rw [List.cons_append, applyR_cons f x (ws ++ us), applyR_cons f x ws]
    by_cases hx : wrE x ≠ 0
    · rw [if_pos hx, if_pos hx]
    · rw [if_neg hx] at h
      rw [if_neg hx, if_neg hx]
      cases hw : writeF f x with
      | none => rfl
      | some g =>
        rw [hw] at h
        simp only at h ⊢
        exact applyR_stop h
theorem applyR_ok60 : ∀ {ws : List Wr} {f : Forest}, ForestOk 60 f → (applyR f ws).1 = 0 → ForestOk 60 (applyR f ws).2
  | [], f, hf, _ => hf
  | x :: ws, f, hf, h => by
    unfold applyR at h ⊢
    by_cases hx : wrE x ≠ 0
    · rw [if_pos hx] at h; exact absurd h hx
    · rw [if_neg hx] at h ⊢
      cases hw : writeF f x with
      | none => rw [hw] at h; simp at h
      | some g =>
        rw [hw] at h
        simp only at h ⊢
        exact applyR_ok60 (writeF_ok60 hf (wrE_ok.1 (Classical.not_not.1 hx)) hw) h
/-- What forest.Apply tells of so many writes. -/
def applyE (f : Forest) (ws : List Wr) : Int × Forest := if 10 < ws.length then (1, []) else applyR f ws
theorem bad_nil : ∀ {ws : List Wr} {f : Forest}, (applyR f ws).1 ≠ 0 → (applyR f ws).2 = []
  | [], f, h => by simp [applyR] at h
  | x :: ws, f, h => by
    unfold applyR at h ⊢
    by_cases hx : wrE x ≠ 0
    · rw [if_pos hx]
    · rw [if_neg hx] at h ⊢
      cases hw : writeF f x with
      | none => rfl
      | some g => rw [hw] at h; exact bad_nil h
theorem apply_spec (F : Fz) (w : World) (v u : Value) (l : Forest) (ws : List Wr) (hs : Sat w F) (hv : Tns F v l) (hw : Wrs F u ws) (ok1 : ForestOk 60 l) (hb : ∀ r ∈ ws, r.name.length ≤ 100000 ∧ r.key.length ≤ 100000 ∧ r.value.length ≤ 100000) :
    Calls Tryz.prog 22 #[v, u] w (Gives w F (TnsE (applyE l ws).2 (applyE l ws).1)) := by
 have ok := forestE_ok.2 ok1
 have hl8 := ok1.len
 obtain ⟨a, c, rfl, hc1, hc2⟩ := Sl.shape hv
 obtain ⟨a2, c2, rfl, hc3, hc4⟩ := Sl.shape hw
 unfold maxLen at hc2 hc4
 obtain ⟨i66, hi66, hz66, hs66, hb66⟩ := info_parts info_66
 have S := St.start hs
 go_enter Tryz.func22, Tryz.ntmps22
 refine sk fun K1 hK1 => ?_
 iterate 2 refine dy ?_
 refine wn hK1 ?_
 refine wp_seq_k (fun K2 hK2 => ?_)
 refine sk fun K3 hK3 => ?_
 refine dx ?_
 simp only [pq]
 refine stTells (v := (.int .i64 (forestE l))) S rfl (fn1 (ent_32 _ _)) (forestCheck_spec _ _ _ l (S).sat hv) (fun w4 S5 => ?_)
 refine dy ?_
 refine wn hK3 ?_
 refine sk fun K6 hK6 => ?_
 refine dx ?_
 refine dr bF (ex_neq (m := (forestE l)) (n := (0 : Int)) (b := false) rfl rfl (bne_eq_false_iff_eq.2 (ok))) ?_
 simp only [pq]
 refine wn hK6 ?_
 refine wp_cond_false rfl ?_
 refine wp_skip ?_
 refine hK2 _ _ ?_
 refine wp_seq_k (fun K7 hK7 => ?_)
 refine sk fun K8 hK8 => ?_
 refine dx ?_
 refine dn Tryz.underlying40 ?_
 simp only [pq]
 by_cases hc19 : 10 < ws.length
 refine gtrT ?_
 refine wn hK8 ?_
 refine wp_cond_true rfl ?_
 refine sk fun K9 hK9 => ?_
 iterate 2 refine dy ?_
 simp only [pq]
 refine wn hK9 ?_
 refine wp_ret ?_
 (try simp only [Exit.then, Exit.inBlock, ↓reduceIte, Nat.reduceEqDiff])
 refine bR (res_tt rfl (gD rfl) (gD rfl)) ?_
 have hall : applyE l ws = (1, []) := by unfold applyE; rw [if_pos (by omega)]
 rw [hall]
 exact ⟨_, _, rfl, S5.gr, _, rfl, Sl.nil _ _ _⟩
 refine gtrF ?_
 refine wn hK8 ?_
 refine wp_cond_false rfl ?_
 refine wp_skip ?_
 refine hK7 _ _ ?_
 refine sk fun K10 hK10 => ?_
 refine dx ?_
 refine stGivesO TnC.mono S5 rfl (fn1 (ent_33 _ _)) (ownT_spec _ _ _ l (S5).sat hv (by omega) (fun t ht => ok1.small ht)) ?_
 intro v15 w11 F13 S12 le14
 refine dy ?_
 simp only [pq]
 refine wn hK10 ?_
 refine wp_seq_k (fun K16 hK16 => ?_)
 refine sk fun K17 hK17 => ?_
 refine dx ?_
 refine dn Tryz.underlying40 ?_
 refine dx ?_
 simp only [pq]
 refine wn hK17 ?_
 refine wp_block ?_
 refine wp_loop_g (fun mm aa w20 => ∃ (k : Nat) (v : Value) (F18 : Fz) (u19 : Nat → Value), mm = ws.length - k ∧ u19 = slots aa ∧ aa = ⟨#[(.slice a l.length c), (.slice a2 ws.length c2), undef, undef, (u19 4), (u19 5), (.int .i64 (forestE l)), v, undef, (u19 9), (u19 10), (u19 11), (.slice a l.length c), (.int .i64 (forestE l)), (.int .i64 (forestE l)), bF, undef, (.slice a2 ws.length c2), (nI ws.length), bF, (.slice a l.length c), v15, (.slice a2 ws.length c2), (nI ws.length), (nI k), (u19 25), (u19 26), (u19 27), (u19 28), (u19 29), (u19 30), (u19 31), (u19 32), (u19 33), (u19 34), (u19 35), (u19 36), (u19 37), (u19 38), undef], []⟩ ∧ St w F w20 F18 [] [ownP 2 TnC TnC.mono 66 w.heap.size v ((applyR l (ws.take k)).2)] ∧ Le F13 F18 ∧ (k ≤ ws.length) ∧ ((applyR l (ws.take k)).1 = 0)) _ ⟨0, v15, F13, _, rfl, rfl, rfl, S12, Le.refl _, (by omega), rfl⟩ ?_
 rintro m21 a22 w23 ⟨k, v, F18, u19, rfl, -, rfl, S24, le25, hk, hz⟩ K26 hK26
 refine sk fun K27 hK27 => ?_
 by_cases hc25 : k < ws.length
 refine lssT ?_
 refine wn hK27 ?_
 refine wp_seq_k (fun K28 hK28 => ?_)
 refine wp_cond_true rfl ?_
 refine wp_skip ?_
 refine hK28 _ _ ?_
 refine wp_seq_k (fun K29 hK29 => ?_)
 refine wp_block ?_
 refine wp_seq_k (fun K30 hK30 => ?_)
 obtain ⟨p, hp⟩ : ∃ p, ws[k]? = some p := ⟨ws[k], List.getElem?_eq_getElem hc25⟩
 obtain ⟨hb0, hb1, hb2⟩ := hb p (List.mem_of_getElem? hp)
 have okk := applyR_ok60 ok1 hz
 obtain ⟨b31, o32, ha33, xa35, xc36, xa39, xc40, xa44, xc45, c34, c38, c42, c43, r37, r41, r46⟩ := Wrs.get (hw.mono (le14.trans le25)) hp
 refine region_wl ?_
 refine dr (pP b31 (o32 + k * 4)) (ex_at (i := k) (sz := 4) Tryz.underlying40 (sizeof_39 _) rfl ha33 rfl (by omega) rfl) ?_
 refine dr _ (ex_load rfl (loadM Tryz.underlying39 rfl (size_39) (range4 (St.fz S24 c34) (St.fz S24 c38) (St.fz S24 c42) (St.fz S24 c43)))) ?_
 simp only [pq]
 refine sA S24 (zero_39 _) fun n47 w48 S49 => ?_
 refine sW 0 S49 (size_39) fun w50 S51 => ?_
 refine wl_nil (hK30 _ _ ?_)
 refine sk fun K52 hK52 => ?_
 refine dx ?_
 refine dR S51 0 Tryz.underlying39 (size_39) ?_
 simp only [pq]
 have hwr := write_spec (St.drop S51 (L' := []) (.cons _ (List.Sublist.refl _))) (r := p) ⟨_, _, _, _, _, _, rfl, r37, r41, r46⟩ okk hb0 hb1 hb2
 refine doC rfl (fn2 (ent_34 _ _)) hwr ?_
 rintro e w54 ⟨v53, rfl, F55, le56, ⟨hz58, S57⟩ | ⟨hz58, rfl, S57⟩⟩
 refine ⟨_, rfl, ?_⟩
 rw [hz58]
 have hz2 := hz58
 rw [← applyR_snoc hz, ← take_snoc hp] at S57
 refine dx ?_
 iterate 2 refine de ?_
 simp only [pq]
 iterate 2 refine dy ?_
 refine wn hK52 ?_
 refine wp_seq_k (fun K59 hK59 => ?_)
 refine sk fun K60 hK60 => ?_
 refine dx ?_
 refine dr bF (ex_neq (b := false) rfl rfl (by decide)) ?_
 simp only [pq]
 refine wn hK60 ?_
 refine wp_cond_false rfl ?_
 refine wp_skip ?_
 refine hK59 _ _ ?_
 refine region_wl ?_
 refine dx ?_
 refine dy ?_
 refine wl_nil (hK29 _ _ ?_)
 refine region_wl ?_
 refine dAdd (k + 1) ?_
 refine dx ?_
 simp only [pq]
 refine wl_nil ?_
 exact hK26 _ _ _ (by omega) ⟨(k + 1), v53, F55, _, rfl, rfl, rfl, S57, (le25.trans le56), (by omega), (by rw [take_snoc hp, applyR_snoc hz]; exact hz2)⟩
 refine ⟨_, rfl, ?_⟩
 have hbad := hz58
 refine dx ?_
 iterate 2 refine de ?_
 simp only [pq]
 iterate 2 refine dy ?_
 refine wn hK52 ?_
 refine wp_seq_k (fun K61 hK61 => ?_)
 refine sk fun K62 hK62 => ?_
 refine dx ?_
 refine dr bT (ex_neq (m := (applyR ((applyR l (ws.take k)).2) [p]).1) (n := (0 : Int)) (b := true) rfl rfl (bne_iff_ne.2 (hbad))) ?_
 simp only [pq]
 refine wn hK62 ?_
 refine wp_cond_true rfl ?_
 refine sk fun K63 hK63 => ?_
 refine dx ?_
 iterate 2 refine dy ?_
 simp only [pq]
 refine wn hK63 ?_
 refine wp_ret ?_
 (try simp only [Exit.then, Exit.inBlock, ↓reduceIte, Nat.reduceEqDiff])
 refine bR (res_tt rfl (gD rfl) (gD rfl)) ?_
 have hall : applyE l ws = applyR l (ws.take (k + 1)) := by
  unfold applyE
  rw [if_neg (by omega)]
  have h := applyR_stop (us := ws.drop (k + 1)) (ws := ws.take (k + 1)) (f := l) (by rw [take_snoc hp, applyR_snoc hz]; exact hbad)
  rwa [List.take_append_drop] at h
 rw [hall, take_snoc hp, applyR_snoc hz, bad_nil hbad]
 exact ⟨_, _, rfl, S57.gr, _, rfl, Sl.nil _ _ _⟩
 refine lssF ?_
 refine wn hK27 ?_
 refine wp_seq_k (fun K64 hK64 => ?_)
 refine wp_cond_false rfl ?_
 refine wp_exit ?_
 refine hK16 _ _ ?_
 refine sk fun K65 hK65 => ?_
 refine dx ?_
 iterate 2 refine dy ?_
 simp only [pq]
 refine wn hK65 ?_
 refine wp_ret ?_
 (try simp only [Exit.then, Exit.inBlock, ↓reduceIte, Nat.reduceEqDiff])
 refine bR (res_tt rfl (gD rfl) (gD rfl)) ?_
 have hall : applyE l ws = applyR l (ws.take k) := by unfold applyE; rw [if_neg (by omega), List.take_of_length_le (by omega)]
 rw [hall, hz]
 obtain ⟨F66, S67, le68, hv69⟩ := St.freeze S24 (i := 0) rfl (Nat.le_refl _)
 have hv69 : Tns _ v ((applyR l (ws.take k)).2) := hv69
 exact ⟨_, _, rfl, S67.gr, _, rfl, hv69⟩
theorem checkedOk_spec (F : Fz) (w : World) (v u : Value) (l : Forest) (k : By) (hs : Sat w F) (hv : Tns F v l) (hu : Bs F u k) (ok1 : ForestOk 60 l) {e : Int} (he : nameN k.length = e) :
    Calls Tryz.prog 38 #[v, u] w (Tells w (.int .i64 e)) := by
 subst he; exact checkedT_spec F w v u l k hs hv hu ok1
theorem stTree {P : Program} {w0 w : World} {F0 F : Fz} {L : List Blk} {M : List RowP} {ops : Array Oper} {Q : Exit → Act → World → Prop} {a : Act} {rest : List Oper} {o : Oper} {k : FuncId} {vs : Array Value} {l : List Pr} (S : St w0 F0 w F L M) (hw : Region.wanted o (yielded ops a.tmps) = true)
    (hr : (execOp a.eval o).run P w = .ok (.enter k vs) w) (hc : Calls P k vs w fun e w' => ∃ x, e = .returned x ∧ Below w.heap.size w w' ∧ Prs F x l)
    (h : ∀ x w', St w0 F0 w' F L M → Prs F x l → WL P ops Q rest (a.put o.dst x) w') : WL P ops Q (o :: rest) a w :=
  doC hw hr hc fun e w' ⟨x, he, hb, hp⟩ => ⟨x, he, h x w' (S.tells hb) hp⟩
theorem getF_spec (F : Fz) (w : World) (v u z : Value) (l : Forest) (n k : By) (hs : Sat w F) (hv : Tns F v l) (hn : Bs F u n) (hk : Bs F z k) (ok1 : ForestOk 60 l) (hnn : 1 ≤ n.length ∧ n.length ≤ 8) (hkk : 1 ≤ k.length ∧ k.length ≤ 16) :
    Calls Tryz.prog 29 #[v, u, z] w (Gives w F (GetR (getF l n k) 0)) := by
 have hn0 := nameN_ok hnn.1 hnn.2
 have hl8 := ok1.len
 obtain ⟨a, c, rfl, hc1, hc2⟩ := Sl.shape hv
 obtain ⟨a2, c2, rfl, _⟩ := hn.shape
 obtain ⟨a3, c3, rfl, _⟩ := hk.shape
 have S := St.start hs
 go_enter Tryz.func29, Tryz.ntmps29
 refine sk fun K1 hK1 => ?_
 refine sA S (zero_72 _) fun n2 w3 S4 => ?_
 refine dy ?_
 refine wn hK1 ?_
 refine wp_seq_k (fun K5 hK5 => ?_)
 refine sk fun K6 hK6 => ?_
 iterate 2 refine dx ?_
 simp only [pq]
 refine stTells (v := (iI 0)) S4 rfl (fn2 (ent_38 _ _)) (checkedOk_spec _ _ _ _ l n (S4).sat hv hn ok1 hn0) (fun w7 S8 => ?_)
 refine dy ?_
 refine wn hK6 ?_
 refine sk fun K9 hK9 => ?_
 refine dx ?_
 refine dr bF (ex_neq (b := false) rfl rfl (by decide)) ?_
 simp only [pq]
 refine wn hK9 ?_
 refine wp_cond_false rfl ?_
 refine wp_skip ?_
 refine hK5 _ _ ?_
 refine sk fun K10 hK10 => ?_
 iterate 2 refine dx ?_
 refine stTree S8 rfl (ex_fn (vs := #[(.slice a l.length c), (.slice a2 n.length c2)]) (map2 rfl rfl) rfl (ent_40 _ _)) (pairsT_spec _ _ _ _ l n (S8).sat hv hn ok1.rise (by omega)) ?_
 intro x11 w12 S13 hp14
 obtain ⟨a15, c16, rfl, _⟩ := Sl.shape hp14
 refine dx ?_
 simp only [pq]
 refine stGives S13 rfl (fn2 (ent_39 _ _)) (getIs_spec _ _ _ _ (treeF l n) k (S13).sat hp14 hk (TreeOk.mono (show TreeOk 60 (treeF l n) from treeF_ok ok1 n) (by omega)) (hkk) (rfl)) ?_
 intro v22 w17 F19 S18 le20 R21
 obtain ⟨_, rfl, a23, c24, rfl, r25⟩ := R21
 have r25 : Bs _ (.slice a23 ((getT (treeF l n) k).getD []).length c24) ((getT (treeF l n) k).getD []) := r25
 iterate 2 refine de ?_
 refine sW 0 S18 (size_72) fun w26 S27 => ?_
 simp only [pq]
 refine dy ?_
 refine wn hK10 ?_
 refine wp_ret ?_
 try simp only [xt]
 refine bR (res_ct rfl ⟨_, rfl, lR S27 0 Tryz.underlying72 (size_72)⟩ (gD rfl)) ?_
 exact ⟨_, _, rfl, S27.gr, _, rfl, _, _, rfl, r25⟩
theorem rangeF_spec (F : Fz) (w : World) (v u z y : Value) (l : Forest) (n k j : By) (hs : Sat w F) (hv : Tns F v l) (hn : Bs F u n) (hk : Bs F z k) (hj : Bs F y j) (ok1 : ForestOk 60 l) (hnn : 1 ≤ n.length ∧ n.length ≤ 8) (hkk : 1 ≤ k.length ∧ k.length ≤ 16) (hjj : 1 ≤ j.length ∧ j.length ≤ 16) :
    Calls Tryz.prog 107 #[v, u, z, y] w (Gives w F (PrsE (rangeT (treeF l n) k j) 0)) := by
 have hn0 := nameN_ok hnn.1 hnn.2
 have hl8 := ok1.len
 obtain ⟨a, c, rfl, hc1, hc2⟩ := Sl.shape hv
 obtain ⟨a2, c2, rfl, _⟩ := hn.shape
 obtain ⟨a3, c3, rfl, _⟩ := hk.shape
 obtain ⟨a4, c4, rfl, _⟩ := hj.shape
 have S := St.start hs
 go_enter Tryz.func107, Tryz.ntmps107
 refine sk fun K1 hK1 => ?_
 iterate 2 refine dy ?_
 refine wn hK1 ?_
 refine wp_seq_k (fun K2 hK2 => ?_)
 refine sk fun K3 hK3 => ?_
 iterate 2 refine dx ?_
 simp only [pq]
 refine stTells (v := (iI 0)) S rfl (fn2 (ent_38 _ _)) (checkedOk_spec _ _ _ _ l n (S).sat hv hn ok1 hn0) (fun w4 S5 => ?_)
 refine dy ?_
 refine wn hK3 ?_
 refine sk fun K6 hK6 => ?_
 refine dx ?_
 refine dr bF (ex_neq (b := false) rfl rfl (by decide)) ?_
 simp only [pq]
 refine wn hK6 ?_
 refine wp_cond_false rfl ?_
 refine wp_skip ?_
 refine hK2 _ _ ?_
 refine sk fun K7 hK7 => ?_
 iterate 2 refine dx ?_
 refine stTree S5 rfl (ex_fn (vs := #[(.slice a l.length c), (.slice a2 n.length c2)]) (map2 rfl rfl) rfl (ent_40 _ _)) (pairsT_spec _ _ _ _ l n (S5).sat hv hn ok1.rise (by omega)) ?_
 intro x8 w9 S10 hp11
 obtain ⟨a12, c13, rfl, _⟩ := Sl.shape hp11
 iterate 2 refine dx ?_
 simp only [pq]
 refine stGives S10 rfl (fn3 (ent_131 _ _)) (rangeOk_spec _ _ _ _ _ (treeF l n) k j (S10).sat hp11 hk hj (TreeOk.mono (show TreeOk 60 (treeF l n) from treeF_ok ok1 n) (by omega)) (hkk) (hjj)) ?_
 intro v19 w14 F16 S15 le17 R18
 obtain ⟨_, rfl, r22⟩ := R18
 obtain ⟨a20, c21, rfl, h23, h24⟩ := Sl.shape r22
 unfold maxLen at h24
 have h23 : (rangeT (treeF l n) k j).length ≤ c21 := h23
 have r22 : Prs _ (.slice a20 (rangeT (treeF l n) k j).length c21) (rangeT (treeF l n) k j) := r22
 iterate 2 refine de ?_
 refine dy ?_
 simp only [pq]
 refine dy ?_
 refine wn hK7 ?_
 refine wp_ret ?_
 try simp only [xt]
 refine bR (res_tt rfl (gD rfl) (gD rfl)) ?_
 exact ⟨_, _, rfl, S15.gr, _, rfl, r22⟩
theorem apply_is {F : Fz} {w : World} {v u : Value} {l g : Forest} {ws : List Wr} {e : Int} (hs : Sat w F) (hv : Tns F v l) (hw : Wrs F u ws) (ok1 : ForestOk 60 l) (hb : ∀ r ∈ ws, WrOk r) (h : applyE l ws = (e, g)) :
    Calls Tryz.prog 22 #[v, u] w (Gives w F (TnsE g e)) := by
 have := apply_spec F w v u l ws hs hv hw ok1 fun r hr => by have h := hb r hr; have := h.name.2; have := h.key2; have := h.value; omega
 rwa [h] at this
theorem applyE_one {l : Forest} {r : Wr} (h : WrOk r) : applyE l [r] = match writeF l r with | some g => (0, g) | none => (11, []) := by
 unfold applyE
 rw [if_neg (by simp), applyR_ok (by simpa using h), applyF_one]
 cases writeF l r <;> rfl
theorem sameForest_spec (F : Fz) (w : World) (v u : Value) (l m : Forest) (hs : Sat w F) (hv : Tns F v l) (hu : Tns F u m) (hl : l.length ≤ 1000000) (hL : ∀ t ∈ l, t.2.length ≤ 1000000) :
    Calls Tryz.prog 36 #[v, u] w (Tells w (.bool (decide (l = m)))) := by
 obtain ⟨a, c, rfl, hc1, hc2⟩ := Sl.shape hv
 obtain ⟨a2, c2, rfl, hc3, hc4⟩ := Sl.shape hu
 unfold maxLen at hc2 hc4
 have S := St.start hs
 go_enter Tryz.func36, Tryz.ntmps36
 refine sk fun K1 hK1 => ?_
 refine dy ?_
 refine wn hK1 ?_
 refine wp_seq_k (fun K2 hK2 => ?_)
 refine sk fun K3 hK3 => ?_
 refine dx ?_
 refine dn Tryz.underlying24 ?_
 refine dx ?_
 simp only [pq]
 refine dn Tryz.underlying24 ?_
 simp only [pq]
 by_cases hc10 : l.length = m.length
 refine neqF ?_
 refine wn hK3 ?_
 refine wp_cond_false rfl ?_
 refine wp_skip ?_
 refine hK2 _ _ ?_
 refine wp_seq_k (fun K4 hK4 => ?_)
 refine sk fun K5 hK5 => ?_
 refine dy ?_
 refine wn hK5 ?_
 refine wp_block ?_
 refine wp_loop_g (fun mm aa w7 => ∃ (k : Nat) (u6 : Nat → Value), mm = l.length - k ∧ u6 = slots aa ∧ aa = ⟨#[(.slice a l.length c), (.slice a2 m.length c2), undef, undef, (u6 4), (nI k), (.slice a l.length c), (nI l.length), (.slice a2 m.length c2), (nI m.length), bF, (u6 11), (u6 12), (u6 13), (u6 14), (u6 15), (u6 16), (u6 17), (u6 18), (u6 19), (u6 20), (u6 21), (u6 22), (u6 23), (u6 24), (u6 25), (u6 26), (u6 27), (u6 28), (u6 29), (u6 30), (u6 31), (u6 32), (u6 33), (u6 34), (u6 35), (u6 36), (u6 37), (u6 38), (u6 39), (u6 40), (u6 41), (u6 42)], []⟩ ∧ St w F w7 F [] [] ∧ (k ≤ l.length) ∧ (∀ i, i < k → l[i]? = m[i]?)) _ ⟨0, _, rfl, rfl, rfl, S, (by omega), (fun i hi => absurd hi (by omega))⟩ ?_
 rintro m8 a9 w10 ⟨k, u6, rfl, -, rfl, S11, hk, hsm⟩ K13 hK13
 refine wp_seq_k (fun K14 hK14 => ?_)
 refine sk fun K15 hK15 => ?_
 iterate 2 refine dx ?_
 refine dn Tryz.underlying24 ?_
 simp only [pq]
 by_cases hc14 : k < l.length
 refine lssT ?_
 refine wn hK15 ?_
 refine wp_cond_true rfl ?_
 refine wp_skip ?_
 refine hK14 _ _ ?_
 refine wp_seq_k (fun K16 hK16 => ?_)
 refine wp_block ?_
 refine wp_seq_k (fun K17 hK17 => ?_)
 obtain ⟨t, hp⟩ : ∃ t, l[k]? = some t := ⟨l[k], List.getElem?_eq_getElem hc14⟩
 obtain ⟨q, hq⟩ : ∃ q, m[k]? = some q := ⟨m[k]'(by omega), List.getElem?_eq_getElem (by omega)⟩
 have htl := hL t (List.mem_of_getElem? hp)
 obtain ⟨b18, o19, ha20, xa22, xc23, xa26, xc27, c21, c25, r24, r28⟩ := Tns.get hv hp
 obtain ⟨b29, o30, ha31, xa33, xc34, xa37, xc38, c32, c36, r35, r39⟩ := Tns.get hu hq
 by_cases e1 : t.1 = q.1
 refine region_gw F 23 [(10, .is bT)] (by kernel_rfl) (by kernel_rfl) ?_
 simp only [List.take_succ_cons, List.take_zero]
 iterate 2 refine gm ?_
 simp only [pq]
 refine gv (pP b18 (o19 + k * 2)) (fun _ _ => ex_at (i := k) (sz := 2) Tryz.underlying24 (sizeof_66 _) rfl ha20 rfl (by omega) rfl) ?_
 refine gf (fa_66_0 _ _) ?_
 refine gv _ (fun _ C40 => ex_load rfl (load1 (nagg_25 _) (St.fz (St.tells S11 C40) c21))) ?_
 simp only [pq]
 iterate 2 refine gm ?_
 refine gv (pP b29 (o30 + k * 2)) (fun _ _ => ex_at (i := k) (sz := 2) Tryz.underlying24 (sizeof_66 _) rfl ha31 rfl (by omega) rfl) ?_
 simp only [pq]
 refine gf (fa_66_0 _ _) ?_
 refine gv _ (fun _ C40 => ex_load rfl (load1 (nagg_25 _) (St.fz (St.tells S11 C40) c32))) ?_
 simp only [pq]
 refine gw_const rfl rfl (v := bT) (fun w40 C40 _ => does_call (ex_fn (vs := #[(.slice xa22 t.1.length xc23), (.slice xa33 q.1.length xc34)]) (map2 rfl rfl) rfl (ent_53 _ _)) (call_tells (tells_bool (tells_same (same_spec _ _ _ _ t.1 q.1 ((St.tells S11 C40)).sat r24 r35)) (beq_iff_eq.2 (e1))))) ?_
 refine gv bF (fun _ _ => ex_not (b := true) rfl rfl) ?_
 iterate 2 refine gm ?_
 simp only [pq]
 refine gm ?_
 refine gv (pP b18 (o19 + k * 2)) (fun _ _ => ex_at (i := k) (sz := 2) Tryz.underlying24 (sizeof_66 _) rfl ha20 rfl (by omega) rfl) ?_
 refine gf (fa_66_1 _ _) ?_
 simp only [pq]
 refine gv _ (fun _ C40 => ex_load rfl (load1 (nagg_47 _) (St.fz (St.tells S11 C40) c25))) ?_
 iterate 2 refine gm ?_
 simp only [pq]
 refine gv (pP b29 (o30 + k * 2)) (fun _ _ => ex_at (i := k) (sz := 2) Tryz.underlying24 (sizeof_66 _) rfl ha31 rfl (by omega) rfl) ?_
 refine gf (fa_66_1 _ _) ?_
 refine gv _ (fun _ C40 => ex_load rfl (load1 (nagg_47 _) (St.fz (St.tells S11 C40) c36))) ?_
 simp only [pq]
 refine gw_nil ?_
 intro w41 hC43 hF44
 clear hF44
 have S42 := St.tells S11 hC43
 simp only [List.drop_succ_cons, List.drop_zero]
 refine stTells (v := (.bool (decide (t.2 = q.2)))) S42 rfl (fn2 (ent_54 _ _)) (samePairs_spec _ _ _ _ t.2 q.2 (S42).sat r28 r39 (by omega)) (fun w45 S46 => ?_)
 simp only [pq]
 refine dr (.bool (!(decide (t.2 = q.2)))) (ex_not rfl rfl) ?_
 refine dp ?_
 refine wl_nil (hK17 _ _ ?_)
 refine wp_cond_split rfl (fun hc47 => ?_) (fun hc47 => ?_)
 refine sk fun K48 hK48 => ?_
 refine dy ?_
 simp only [pq]
 refine wn hK48 ?_
 refine wp_ret ?_
 (try simp only [Exit.then, Exit.inBlock, ↓reduceIte, Nat.reduceEqDiff])
 refine bR (res_t rfl (gD rfl)) ?_
 exact ⟨by rw [decide_eq_false (fun e => by rw [e] at hp; rw [hp] at hq; cases hq; first | exact e1 rfl | simp at hc47)], S46.gr.below⟩
 refine wp_skip ?_
 refine hK16 _ _ ?_
 refine region_wl ?_
 refine dx ?_
 refine dAdd (k + 1) ?_
 refine dy ?_
 simp only [pq]
 refine wl_nil ?_
 exact hK13 _ _ _ (by omega) ⟨(k + 1), _, rfl, rfl, rfl, S46, (by omega), (fun i hi => by rcases Nat.lt_succ_iff_lt_or_eq.1 hi with h | rfl; exact hsm i h; rw [hp, hq, show t = q from Prod.ext e1 (by simpa using hc47)])⟩
 refine region_gw F 23 [(10, .is bF)] (by kernel_rfl) (by kernel_rfl) ?_
 simp only [List.take_succ_cons, List.take_zero]
 iterate 2 refine gm ?_
 refine gv (pP b18 (o19 + k * 2)) (fun _ _ => ex_at (i := k) (sz := 2) Tryz.underlying24 (sizeof_66 _) rfl ha20 rfl (by omega) rfl) ?_
 simp only [pq]
 refine gf (fa_66_0 _ _) ?_
 refine gv _ (fun _ C49 => ex_load rfl (load1 (nagg_25 _) (St.fz (St.tells S11 C49) c21))) ?_
 refine gm ?_
 simp only [pq]
 refine gm ?_
 refine gv (pP b29 (o30 + k * 2)) (fun _ _ => ex_at (i := k) (sz := 2) Tryz.underlying24 (sizeof_66 _) rfl ha31 rfl (by omega) rfl) ?_
 refine gf (fa_66_0 _ _) ?_
 simp only [pq]
 refine gv _ (fun _ C49 => ex_load rfl (load1 (nagg_25 _) (St.fz (St.tells S11 C49) c32))) ?_
 simp only [pq]
 refine gw_const rfl rfl (v := bF) (fun w49 C49 _ => does_call (ex_fn (vs := #[(.slice xa22 t.1.length xc23), (.slice xa33 q.1.length xc34)]) (map2 rfl rfl) rfl (ent_53 _ _)) (call_tells (tells_bool (tells_same (same_spec _ _ _ _ t.1 q.1 ((St.tells S11 C49)).sat r24 r35)) (beq_eq_false_iff_ne.2 (e1))))) ?_
 refine gv bT (fun _ _ => ex_not (b := false) rfl rfl) ?_
 refine gm ?_
 simp only [pq]
 refine gw_skip (wanted_no rfl rfl rfl (c := true) rfl (by decide)) ?_
 simp only [pq]
 refine gw_skip (wanted_no rfl rfl rfl (c := true) rfl (by decide)) ?_
 simp only [pq]
 refine gw_skip (wanted_no rfl rfl rfl (c := true) rfl (by decide)) ?_
 simp only [pq]
 refine gw_skip (wanted_no rfl rfl rfl (c := true) rfl (by decide)) ?_
 simp only [pq]
 refine gw_skip (wanted_no rfl rfl rfl (c := true) rfl (by decide)) ?_
 simp only [pq]
 refine gw_skip (wanted_no rfl rfl rfl (c := true) rfl (by decide)) ?_
 simp only [pq]
 refine gw_skip (wanted_no rfl rfl rfl (c := true) rfl (by decide)) ?_
 simp only [pq]
 refine gw_skip (wanted_no rfl rfl rfl (c := true) rfl (by decide)) ?_
 simp only [pq]
 refine gw_skip (wanted_no rfl rfl rfl (c := true) rfl (by decide)) ?_
 simp only [pq]
 refine gw_skip (wanted_no rfl rfl rfl (c := true) rfl (by decide)) ?_
 refine gw_nil ?_
 intro w50 hC52 hF53
 clear hF53
 have S51 := St.tells S11 hC52
 simp only [List.drop_succ_cons, List.drop_zero]
 refine nO ?_
 simp only [pq]
 refine nO ?_
 refine dp ?_
 refine wl_nil (hK17 _ _ ?_)
 refine wp_cond_true rfl ?_
 refine sk fun K54 hK54 => ?_
 refine dy ?_
 simp only [pq]
 refine wn hK54 ?_
 refine wp_ret ?_
 (try simp only [Exit.then, Exit.inBlock, ↓reduceIte, Nat.reduceEqDiff])
 refine bR (res_t rfl (gD rfl)) ?_
 exact ⟨by rw [decide_eq_false (fun e => by rw [e] at hp; rw [hp] at hq; cases hq; first | exact e1 rfl | simp at hc47)], S51.gr.below⟩
 refine lssF ?_
 refine wn hK15 ?_
 refine wp_cond_false rfl ?_
 refine wp_exit ?_
 refine hK4 _ _ ?_
 refine sk fun K55 hK55 => ?_
 refine dy ?_
 refine wn hK55 ?_
 refine wp_ret ?_
 (try simp only [Exit.then, Exit.inBlock, ↓reduceIte, Nat.reduceEqDiff])
 refine bR (res_t rfl (gD rfl)) ?_
 exact ⟨by rw [decide_eq_true (List.ext_getElem? fun i => by rcases Nat.lt_or_ge i k with h | h; exact hsm i h; rw [List.getElem?_eq_none (by omega), List.getElem?_eq_none (by omega)])], S11.gr.below⟩
 refine neqT ?_
 simp only [pq]
 refine wn hK3 ?_
 refine wp_cond_true rfl ?_
 refine sk fun K56 hK56 => ?_
 refine dy ?_
 refine wn hK56 ?_
 refine wp_ret ?_
 (try simp only [Exit.then, Exit.inBlock, ↓reduceIte, Nat.reduceEqDiff])
 refine bR (res_t rfl (gD rfl)) ?_
 exact ⟨by rw [decide_eq_false (fun e => hc10 (by rw [e]))], S.gr.below⟩
section
variable {α β : Type} {k k2 E E2 base base2 : Nat} {R : Fz → List Value → α → Prop} {R2 : Fz → List Value → β → Prop} {w0 W w w' : World} {F0 F F' : Fz} {L : List Blk} {M : List RowP} {v v2 : Value} {l : List α} {l2 : List β}
theorem Own.at_heap (h : Own k R E base w F v l) {g : Nat} (hg : v.ownBlock = some g) : ∃ cur : Array Value, w.heap[g]? = some (.cells cur E (0, 0)) := by
 obtain ⟨el, ⟨_, h2⟩, _⟩ := h.ex
 rcases h2 with ⟨rfl, _⟩ | ⟨b, cap, cur, rfl, _, h3, _⟩
 ·cases hg
 ·cases hg; exact ⟨cur, h3⟩
theorem own_apart (h1 : Own k R E base w F v l) (h2 : Own k2 R2 E2 base2 w F v2 l2) (hE : E ≠ E2) : ∀ g, v.ownBlock = some g → v2.ownBlock ≠ some g := by
 intro g hg hc
 obtain ⟨c1, e1⟩ := h1.at_heap hg
 obtain ⟨c2, e2⟩ := h2.at_heap hc
 rw [e1] at e2
 injection e2 with e2
 injection e2 with _ e2
 exact hE e2
/-- What a call has made that is a row of its own. -/
def MadeO {α : Type} (W : World) (F : Fz) (k : Nat) (R : Fz → List Value → α → Prop) (E : Nat) (l : List α) (v : Value) (w : World) : Prop := ∃ F', Gr W F w F' ∧ Own k R E W.heap.size w F' v l
theorem MadeO.stable (hR : ∀ F F' x p, Le F F' → R F x p → R F' x p) (W : World) (F : Fz) (k E : Nat) (l : List α) : Stable (MadeO W F k R E l) :=
  fun v w w' ⟨F', g, h⟩ hb => ⟨F', g.trans (Gr.of_below g.sat hb), h.gr hR g.sat (Gr.of_below g.sat hb)⟩
theorem call_madeO {P : Program} {f : FuncId} {args : Array Value} (hs : Sat W F) (hC : Below W.heap.size W w) (h : Calls P f args w (GivesO w F k R E l)) : Calls P f args w (CallPost (RelPost (MadeO W F k R E l) w)) :=
  h.mono fun e w' ⟨v, F', he, g, ho⟩ => ⟨v, he, ⟨F', (Gr.of_below hs hC).trans g, ho.rebase fun b hb => Nat.le_trans hC.size (ho.lt b hb).1⟩, g.below⟩
theorem Own.dropF (h : Own k R E base w F v l) {n : Nat} (hx : ∀ cs p, R F cs p → R (Proofs.YtilgpdpooildcaaGreatDoor.dropF F n) cs p) : Own k R E base w (Proofs.YtilgpdpooildcaaGreatDoor.dropF F n) v l := by
 obtain ⟨el, h1, h2, h3⟩ := h.ex
 refine ⟨⟨el, h1, h2.imp hx, h3⟩, fun g hg => ?_⟩
 unfold Proofs.YtilgpdpooildcaaGreatDoor.dropF
 split
 rfl
 exact h.out g hg
theorem St.addBlkRow {hR : ∀ F F' x p, Le F F' → R F x p → R F' x p} {n : Nat} {cs : List Value} {T : TypeId} (S : St w0 F0 W F L M) (g : Gr W F w F') (ho : Own k R E W.heap.size w F' v l) (hn : W.heap.size ≤ n) (hb : w.heap[n]? = some (.cells cs.toArray T (0, 0))) (hE : E ≠ T) (hx : ∀ cs p, R F' cs p → R (Proofs.YtilgpdpooildcaaGreatDoor.dropF F' n) cs p) :
    St w0 F0 w (Proofs.YtilgpdpooildcaaGreatDoor.dropF F' n) (⟨n, cs, T⟩ :: L) (ownP k R hR E w0.heap.size v l :: M) := by
 have g' := g.dropF S.sat hn
 have ho' := ho.dropF (n := n) hx
 have S' := S.addRow (hR := hR) g' ho'
 refine ⟨S'.gr, fun x hx => ?_, S'.row, List.pairwise_cons.2 ⟨fun y hy => ?_, S'.bb⟩, fun r hr x hx => ?_, S'.rr⟩
 rcases List.mem_cons.1 hx with rfl | hx
 exact ⟨hb, dropF_at _ _, Nat.le_trans S.gr.below.size hn⟩
 exact S'.blk x hx
 have := S.blk_lt hy
 simp only
 omega
 rcases List.mem_cons.1 hx with rfl | hx
 rcases List.mem_cons.1 hr with rfl | hr
 intro e
 obtain ⟨c, e1⟩ := ho'.at_heap e
 rw [hb] at e1
 injection e1 with e1
 injection e1 with _ e1
 exact hE e1.symm
 intro e
 have := ((S.row r hr).2 _ e).1
 simp at this
 omega
 exact S'.rb r hr x hx
theorem St.addRow2 {hR : ∀ F F' x p, Le F F' → R F x p → R F' x p} {hR2 : ∀ F F' x p, Le F F' → R2 F x p → R2 F' x p} (S : St w0 F0 w F L M) (g : Gr w F w' F') (h1 : Own k R E w.heap.size w' F' v l) (h2 : Own k2 R2 E2 w.heap.size w' F' v2 l2) (hE : E ≠ E2) :
    St w0 F0 w' F' L (ownP k R hR E w0.heap.size v l :: ownP k2 R2 hR2 E2 w0.heap.size v2 l2 :: M) := by
 have S' := S.addRow (hR := hR2) g h2
 have hlt := h1.lt
 have ho' : Own k R E w0.heap.size w' F' v l := h1.rebase fun b hb => Nat.le_trans S.gr.below.size (hlt b hb).1
 refine ⟨S'.gr, S'.blk, fun r hr => ?_, S'.bb, fun r hr x hx => ?_, List.pairwise_cons.2 ⟨fun s hs b hb hc => ?_, S'.rr⟩⟩
 rcases List.mem_cons.1 hr with rfl | hr
 exact ⟨ho', fun b hb => ⟨(hlt b hb).2, h1.out b hb, Nat.le_trans S.gr.below.size (hlt b hb).1⟩⟩
 exact S'.row r hr
 rcases List.mem_cons.1 hr with rfl | hr
 intro e
 have h1 := (hlt _ e).1
 have h2 := S.blk_lt hx
 omega
 exact S'.rb r hr x hx
 rcases List.mem_cons.1 hs with rfl | hs
 exact own_apart h1 h2 hE b hb hc
 have h1 := (hlt b hb).1
 have h2 := ((S.row s hs).2 b hc).1
 omega
end
section
variable {w : World} {F : Fz} {n : Nat} {cs : List Value} {T : TypeId}
theorem WrC.dropF (hs : Sat w F) (hb : w.heap[n]? = some (.cells cs.toArray T (0, 0))) (hc : ∀ u ∈ cs, ∀ x, u ≠ bv x) (c : List Value) (p : Wr) (h : WrC F c p) : WrC (Proofs.YtilgpdpooildcaaGreatDoor.dropF F n) c p := by
 obtain ⟨a0, a1, a2, a3, rfl, h0, h1, h2, h3⟩ := h
 exact ⟨a0, a1, a2, a3, rfl, h0.dropF hs hb hc, h1.dropF hs hb hc, h2, h3.dropF hs hb hc⟩
theorem RdC.dropF (hs : Sat w F) (hb : w.heap[n]? = some (.cells cs.toArray T (0, 0))) (hc : ∀ u ∈ cs, ∀ x, u ≠ bv x) (c : List Value) (p : Rd) (h : RdC F c p) : RdC (Proofs.YtilgpdpooildcaaGreatDoor.dropF F n) c p := by
 obtain ⟨a0, a1, a2, a3, rfl, h0, h1, h2, h3⟩ := h
 exact ⟨a0, a1, a2, a3, rfl, h0.dropF hs hb hc, h1.dropF hs hb hc, h2, h3.dropF hs hb hc⟩
end
theorem FactsAt.getR {md : Region.Mode} {ops : Array Oper} {W : World} {F : Fz} {L : List (Nat × Mark)} {Vs : Vals} {w : World} {j : Nat} (h : FactsAt md ops (specOf W F L) j Vs w) (i : Nat) {v : Value} {R : Value → World → Prop} (ha : ancB md ops ops.size j i = true) (hv : Vs i = some v) (hL : specOf W F L i = .rel R) : R v w := by
 have := h i v ha hv
 rw [hL] at this
 exact this
theorem gives_of_own {P : Program} {f : FuncId} {vs : Array Value} {α : Type} {k E : Nat} {R : Fz → List Value → α → Prop} (hR : ∀ F F' x p, Le F F' → R F x p → R F' x p) {w : World} {F : Fz} {l : List α} (h : Calls P f vs w (GivesO w F k R E l)) : Calls P f vs w (Gives w F fun F' u => Sl k R F' u l) :=
  h.mono fun e w' ⟨v, F', he, g, ho⟩ => by
    obtain ⟨F2, g2, _, h2⟩ := ho.freeze hR g (Nat.le_refl _)
    exact ⟨v, F2, he, g2, h2⟩
/-- A transaction with two rows of its own. -/
def GivesTx (w : World) (F : Fz) (Er Ew : Nat) (t : Tx) (e : Ending) (w' : World) : Prop := ∃ v1 v2 F', e = .returned (.agg #[.int .i64 t.start, v1, v2]) ∧ Gr w F w' F' ∧ Own 4 RdC Er w.heap.size w' F' v1 t.reads ∧ Own 4 WrC Ew w.heap.size w' F' v2 t.writes
theorem stGivesTx {P : Program} {ops : Array Oper} {Q : Exit → Act → World → Prop} {a : Act} {rest : List Oper} {o : Oper} {kf : FuncId} {vs : Array Value} {w0 w : World} {F0 F : Fz} {L : List Blk} {M : List RowP} {Er Ew : Nat} {t : Tx} (S : St w0 F0 w F L M) (hw : Region.wanted o (yielded ops a.tmps) = true)
    (hr : (execOp a.eval o).run P w = .ok (.enter kf vs) w) (hc : Calls P kf vs w (GivesTx w F Er Ew t)) (hE : Er ≠ Ew)
    (h : ∀ a1 c1 a2 c2 w' F', St w0 F0 w' F' L (ownP 4 RdC RdC.mono Er w0.heap.size (.slice a1 t.reads.length c1) t.reads :: ownP 4 WrC WrC.mono Ew w0.heap.size (.slice a2 t.writes.length c2) t.writes :: M) → Le F F' → c1 ≤ maxLen → c2 ≤ maxLen → WL P ops Q rest (a.put o.dst (.agg #[.int .i64 t.start, .slice a1 t.reads.length c1, .slice a2 t.writes.length c2])) w') : WL P ops Q (o :: rest) a w :=
  doC hw hr hc fun e w' ⟨v1, v2, F', he, g, h1, h2⟩ => by
    obtain ⟨a1, c1, rfl, _, q1⟩ := h1.shape
    obtain ⟨a2, c2, rfl, _, q2⟩ := h2.shape
    exact ⟨_, he, h a1 c1 a2 c2 w' F' (S.addRow2 g h1 h2 hE) (g.le S.sat) q1 q2⟩
section
variable {P : Program} {ops : Array Oper} {md : Region.Mode} {C : World → Prop} {Sp : Nat → OpSpec}
/-- The walk in an order of our own. -/
def wpGP (P : Program) (md : Region.Mode) (ops : Array Oper) (C : World → Prop) (Sp : Nat → OpSpec) (Lq : Act → Vals → Prop) : List (Nat × Oper) → Act → Vals → Prop
  | [], a, Vs => Lq a Vs
  | (k, o) :: l, a, Vs => if Region.wanted o (yielded ops a.tmps) = true then ∃ S, Ob P md ops C Sp k o a Vs S ∧ ∀ v, S v → wpGP P md ops C Sp Lq l (a.put o.dst v) (next (Sp k) Vs k v) else wpGP P md ops C Sp Lq l (a.put o.dst undef) Vs
def seqL (md : Region.Mode) (ops : Array Oper) : List Nat → Array Bool → Bool
  | [], listed => (Region.ready md ops listed).isEmpty
  | k :: ks, listed => decide (Region.ready md ops listed = [k]) && seqL md ops ks (listed.setIfInBounds k true)
theorem seqL_ready {T : List Nat} {listed : Array Bool} (h : seqL md ops T listed = true) : ∀ j ∈ Region.ready md ops listed, j ∈ T := by
 cases T with
 | nil => intro j hj; simp only [seqL, List.isEmpty_iff] at h; rw [h] at hj; cases hj
 | cons t T =>
  intro j hj
  simp only [seqL, Bool.and_eq_true, decide_eq_true_eq] at h
  rw [h.1] at hj
  have : j = t := by simpa using hj
  subst this
  exact List.mem_cons_self ..
theorem wpAny_of_seqL {Q' : Exit → Act → World → Prop} : ∀ (l : List (Nat × Oper)) (listed : Array Bool) (a : Act) (w : World), (∀ p ∈ l, ops[p.1]? = some p.2) →
    seqL md ops (l.map (·.1)) listed = true → wpList P ops Q' (l.map (·.2)) a w → wpAny P md ops Q' l.length listed a w
  | [], _, _, _, _, hB, h => ⟨by simpa [seqL] using hB, h⟩
  | (k, o) :: l, listed, a, w, hl, hB, h => by
    have h0 : ops[k]? = some o := hl (k, o) (List.mem_cons_self ..)
    simp only [List.map_cons, seqL, Bool.and_eq_true, decide_eq_true_eq] at hB
    refine ⟨fun h1 => (by rw [hB.1] at h1; cases h1), fun i hi => ?_⟩
    rw [hB.1] at hi
    have hik : i = k := by simpa using hi
    subst hik
    have hw : wpOp P ops Q' i (wpList P ops Q' (l.map (·.2))) a w := by unfold wpOp; simp only [h0]; exact h
    exact wpOp_mono (fun a' w' h' => wpAny_of_seqL l _ a' w' (fun p hp => hl p (List.mem_cons_of_mem _ hp)) hB.2 h') hw
end
def opsAt (l : List Oper) : List Nat → List (Nat × Oper)
  | [] => []
  | k :: ks => match l[k]? with
    | some o => (k, o) :: opsAt l ks
    | none => opsAt l ks
theorem opsAt_at {l : List Oper} : ∀ {ks : List Nat} {p : Nat × Oper}, p ∈ opsAt l ks → l.toArray[p.1]? = some p.2
  | [], p, h => by cases h
  | k :: ks, p, h => by
    unfold opsAt at h
    split at h
    · rename_i o ho
      rcases List.mem_cons.1 h with rfl | h
      · simpa using ho
      · exact opsAt_at h
    · exact opsAt_at h
structure GP (P : Program) (md : Region.Mode) (ops : Array Oper) (C : World → Prop) (Sp : Nat → OpSpec) (Lq : Act → Vals → Prop) (l : List (Nat × Oper)) (a : Act) (Vs : Vals) : Prop where
  out : wpGP P md ops C Sp Lq l a Vs
section
variable {P : Program} {ops : Array Oper} {md : Region.Mode} {C : World → Prop} {Sp : Nat → OpSpec} {Lq : Act → Vals → Prop} {o : Oper} {l : List (Nat × Oper)} {k : Nat} {a : Act} {Vs : Vals}
theorem gp_nil (h : Lq a Vs) : GP P md ops C Sp Lq [] a Vs := ⟨h⟩
theorem gp_pure (hw : Region.wanted o (yielded ops a.tmps) = true) (hs : Sp k = .pure) (v : Value) (h : ∀ w, C w → PureAt P o a w v) (hn : GP P md ops C Sp Lq l (a.put o.dst v) Vs) : GP P md ops C Sp Lq ((k, o) :: l) a Vs := by
 refine ⟨?_⟩
 unfold wpGP
 rw [if_pos hw]
 refine ⟨fun u => u = v, by unfold Ob; rw [hs]; exact ⟨v, rfl, h⟩, fun u hu => ?_⟩
 subst hu
 rw [hs]
 exact hn.out
theorem gp_rel (hw : Region.wanted o (yielded ops a.tmps) = true) {R : Value → World → Prop} (hs : Sp k = .rel R) (h : ∀ w, C w → FactsAt md ops Sp k Vs w → Does P o a w (RelPost R w)) (hn : ∀ v, GP P md ops C Sp Lq l (a.put o.dst v) (upd Vs k v)) : GP P md ops C Sp Lq ((k, o) :: l) a Vs := by
 refine ⟨?_⟩
 unfold wpGP
 rw [if_pos hw]
 refine ⟨fun _ => True, by unfold Ob; rw [hs]; exact ⟨rfl, h⟩, fun u _ => ?_⟩
 rw [hs]
 exact (hn u).out
end
/-! Late. -/
/-- The store, behind which nothing of the region is left to look at the memory. -/
structure LT (P : Program) (ops : Array Oper) (Q : Exit → Act → World → Prop) (os : Oper) (rest : List Oper) (a : Act) (w : World) : Prop where
  out : ∃ w', os.guard = none ∧ os.dst = none ∧ (execOp a.eval os).run P w = .ok .skip w' ∧ wpList P ops Q rest a w'
section
variable {P : Program} {ops : Array Oper} {md : Region.Mode} {C : World → Prop} {Sp : Nat → OpSpec}
def wpAnyH (P : Program) (md : Region.Mode) (ops : Array Oper) (C : World → Prop) (Sp : Nat → OpSpec) (s : Nat) (L E : Array Bool → Act → Vals → Prop) : Nat → Array Bool → Act → Vals → Prop
  | 0, listed, a, Vs => L listed a Vs
  | f + 1, listed, a, Vs => Region.ready md ops listed ≠ [] ∧ ∀ i ∈ Region.ready md ops listed, (i ≠ s → gOp P md ops C Sp i (wpAnyH P md ops C Sp s L E f (listed.setIfInBounds i true)) a Vs) ∧ (i = s → f = 0 ∧ E listed a Vs)
theorem wpAnyH_first (hC : ∃ w, C w) {i s : Nat} {oi : Oper} {T : List Nat} {L E : Array Bool → Act → Vals → Prop} (hi : ops[i]? = some oi) (hsel : ∀ (j : Nat) (o : Oper) cs b, ops[j]? = some o → o.op ≠ .select cs b)
    (hdone : ∀ listed a Vs, L listed a Vs → ∀ j ∈ Region.ready md ops listed, j ∈ T) (hT : ∀ t ∈ T, ancB md ops ops.size t i = true) (hsT : s ∈ T) (his : i ≠ s) :
    ∀ (f : Nat) (listed : Array Bool) (a : Act) (Vs : Vals), HeadInv md ops ops.size listed →
      (∀ j oj, ops[j]? = some oj → j ≠ i → listed.getD j true = false → (∀ e ∈ oj.after, Region.binds md e = true → e.on ≠ i) → oi.apart ops oj = true) →
      i ∈ Region.ready md ops listed →
      gOp P md ops C Sp i (wpAnyH P md ops C Sp s L E f (listed.setIfInBounds i true)) a Vs → wpAnyH P md ops C Sp s L E (f + 1) listed a Vs := by
 intro f
 induction f with
 | zero =>
  intro listed a Vs inv _ hr H
  have hun := (mem_ready.1 hr).1
  refine ⟨fun h => (by rw [h] at hr; cases hr), fun j hj => ?_⟩
  by_cases hji : j = i
  subst hji; exact ⟨fun _ => H, fun e => absurd e his⟩
  obtain ⟨a', Vs', hL⟩ := gOp_some H
  have h1 := hdone _ _ _ hL j (ready_mono hj hji)
  have h2 := anc_ready inv hj _ _ (hT j h1)
  rw [getD_both hun] at h2
  cases h2
 | succ f ih =>
  intro listed a Vs inv hfree hr H
  have hun := (mem_ready.1 hr).1
  refine ⟨fun h => (by rw [h] at hr; cases hr), fun j hj => ?_⟩
  obtain ⟨hjun, oj, hoj, hall⟩ := mem_ready.1 hj
  have hjn : j < ops.size := (Array.getElem?_eq_some_iff.1 hoj).1
  by_cases hji : j = i
  subst hji; exact ⟨fun _ => H, fun e => absurd e his⟩
  by_cases hjs : j = s
  subst hjs
  have h2 := anc_ready inv hj _ _ (hT j hsT)
  rw [getD_both hun] at h2
  cases h2
  refine ⟨fun _ => ?_, fun e => absurd e hjs⟩
  have hnot : ∀ e ∈ oj.after, Region.binds md e = true → e.on ≠ i := fun e he hb heq => by
   have h1 := hall e he hb
   rw [heq, getD_both hun] at h1
   cases h1
  have a1 : ancB md ops ops.size j i = false := by
   cases hx : ancB md ops ops.size j i with
   | false => rfl
   | true => have := anc_ready inv hj _ _ hx; rw [getD_both hun] at this; cases this
  have a2 : ancB md ops ops.size i j = false := by
   cases hx : ancB md ops ops.size i j with
   | false => rfl
   | true => have := anc_ready inv hr _ _ hx; rw [getD_both hjun] at this; cases this
  have H1 : gOp P md ops C Sp i (gOp P md ops C Sp j (wpAnyH P md ops C Sp s L E f ((listed.setIfInBounds i true).setIfInBounds j true))) a Vs :=
   gOp_mono (fun a' Vs' h => (h.2 j (ready_mono hj hji)).1 hjs) H
  have H2 := gOp_swap hC hi hoj (Ne.symm hji) (hfree j oj hoj hji hjun hnot) (fun cs b => hsel i oi cs b hi) (fun cs b => hsel j oj cs b hoj) a1 a2 H1
  have hfree' : ∀ k ok, ops[k]? = some ok → k ≠ i → (listed.setIfInBounds j true).getD k true = false →
    (∀ e ∈ ok.after, Region.binds md e = true → e.on ≠ i) → oi.apart ops ok = true := fun k ok hk hki hun' hno => by
   refine hfree k ok hk hki ?_ hno
   by_cases hjk : j = k
   subst hjk; exact hjun
   rw [getD_set_ne true hjk] at hun'; exact hun'
  refine gOp_mono (fun a' Vs' h3 => ih (listed.setIfInBounds j true) a' Vs' (inv.set hj hjn) hfree' (ready_mono hr (Ne.symm hji)) ?_) H2
  rw [Array.setIfInBounds_comm _ _ hji]
  exact h3
/-- What is left when only the pure operation p, the store s and the tail are. -/
def LateD (P : Program) (md : Region.Mode) (ops : Array Oper) (Q : Exit → Act → World → Prop) (C : World → Prop) (Sp : Nat → OpSpec) (p : Nat) (op os : Oper) (tail : List Oper) (a : Act) (Vs : Vals) : Prop :=
  op.guard = none ∧ ∃ v, Sp p = .const v ∧ (∀ w, C w → FactsAt md ops Sp p Vs w → ∀ w1, PureAt P op a w1 v) ∧ ∀ w, C w → Facts Sp Vs w → LT P ops Q os tail (a.put op.dst v) w
def lateL (md : Region.Mode) (ops : Array Oper) (p s : Nat) (T : List Nat) (listed : Array Bool) : Bool :=
  ((Region.ready md ops listed).all fun j => j == p || j == s) && (Region.ready md ops listed).contains p && Region.free md ops listed p && seqL md ops (s :: T) (listed.setIfInBounds p true) && seqL md ops (p :: T) (listed.setIfInBounds s true)
def headH (md : Region.Mode) (ops : Array Oper) (p s : Nat) (T : List Nat) : List Nat → Array Bool → Bool
  | [], listed => lateL md ops p s T listed
  | k :: ks, listed => (Region.ready md ops listed).contains k && Region.free md ops listed k && headH md ops p s T ks (listed.setIfInBounds k true)
theorem does_of_pure {o : Oper} {a : Act} {w : World} {v : Value} (h : PureAt P o a w v) : Does P o a w (IsPost v w) := by
 unfold Does PureAt at *
 generalize (execOp a.eval o).run P w = r at *
 cases r with
 | ok n w' =>
  cases n <;> simp only [PureR] at h <;> simp only [DoesR]
  ·obtain ⟨rfl, rfl⟩ := h; exact ⟨rfl, Below.refl _ _⟩
  ·obtain ⟨rfl, rfl⟩ := h; exact ⟨rfl, Below.refl _ _⟩
 | halt x w' => simp only [PureR] at h
theorem wanted_free {o : Oper} {t : Array Value} (h : o.guard = none) : Region.wanted o (yielded ops t) = true := by unfold Region.wanted; rw [h]
theorem wpAnyH_list (hC : ∃ w, C w) {p s : Nat} {T : List Nat} {op os : Oper} {tail : List Oper} {Q : Exit → Act → World → Prop} (hp : ops[p]? = some op) (hps : p ≠ s) (hsel : Region.noSelect ops = true) :
    ∀ (l : List (Nat × Oper)) (listed : Array Bool) (a : Act) (Vs : Vals), (∀ q ∈ l, ops[q.1]? = some q.2) → (∀ t ∈ s :: T, ∀ q ∈ l, ancB md ops ops.size t q.1 = true) → (∀ q ∈ l, q.1 ≠ s) → HeadInv md ops ops.size listed →
    headH md ops p s T (l.map (·.1)) listed = true → wpGP P md ops C Sp (LateD P md ops Q C Sp p op os tail) l a Vs →
    wpAnyH P md ops C Sp s (fun listed' a' Vs' => seqL md ops (s :: T) listed' = true ∧ ∀ w, C w → Facts Sp Vs' w → LT P ops Q os tail a' w) (fun listed' a' Vs' => lateL md ops p s T listed' = true ∧ LateD P md ops Q C Sp p op os tail a' Vs') (l.length + 1) listed a Vs
  | [], listed, a, Vs, _, _, _, _, hB, h => by
    have hB0 := hB
    simp only [List.map_nil, headH, lateL, Bool.and_eq_true] at hB
    obtain ⟨⟨⟨⟨h1, h2⟩, h3⟩, h4⟩, h5⟩ := hB
    have hr : p ∈ Region.ready md ops listed := by simpa using h2
    refine ⟨fun e => (by rw [e] at hr; cases hr), fun j hj => ⟨fun hjs => ?_, fun e => ⟨rfl, hB0, h⟩⟩⟩
    have hj2 := List.all_eq_true.1 h1 j hj
    simp only [Bool.or_eq_true, beq_iff_eq] at hj2
    have hjp : j = p := hj2.resolve_right hjs
    subst hjp
    obtain ⟨hg, v, hs, hpu, hn⟩ := h
    unfold gOp
    simp only [hp]
    rw [if_pos (wanted_free hg)]
    refine ⟨fun u => u = v, ?_, fun u hu => ?_⟩
    · unfold Ob; rw [hs]; exact ⟨rfl, fun w hc hF => does_of_pure (hpu w hc hF w)⟩
    · subst hu
      rw [hs]
      exact ⟨h4, hn⟩
  | (k, o) :: l, listed, a, Vs, hl, hT, hns, inv, hB, h => by
    have h0 : ops[k]? = some o := hl (k, o) (List.mem_cons_self ..)
    have hkn : k < ops.size := (Array.getElem?_eq_some_iff.1 h0).1
    simp only [List.map_cons, headH, Bool.and_eq_true] at hB
    obtain ⟨⟨hr, hf⟩, hB'⟩ := hB
    have hr' : k ∈ Region.ready md ops listed := by simpa using hr
    have hg : gOp P md ops C Sp k (wpGP P md ops C Sp (LateD P md ops Q C Sp p op os tail) l) a Vs := by unfold gOp; simp only [h0]; exact h
    exact wpAnyH_first hC h0 (Region.noSelect_spec hsel) (fun listed' a' Vs' hL => seqL_ready hL.1) (fun t ht => hT t ht (k, o) (List.mem_cons_self ..)) (List.mem_cons_self ..) (hns (k, o) (List.mem_cons_self ..)) (l.length + 1) listed a Vs inv (Region.free_spec h0 hf) hr'
      (gOp_mono (fun a' Vs' h' => wpAnyH_list hC hp hps hsel l _ a' Vs' (fun p hp => hl p (List.mem_cons_of_mem _ hp)) (fun t ht p hp => hT t ht p (List.mem_cons_of_mem _ hp)) (fun q hq => hns q (List.mem_cons_of_mem _ hq)) (inv.set hr' hkn) hB' h') hg)
theorem wpAny_of_H (hst : ∀ i v w w', factOf (Sp i) v w → Below w.heap.size w w' → factOf (Sp i) v w') (hCE : ∀ w w', C w → Below w.heap.size w w' → C w') {s g : Nat} {L E : Array Bool → Act → Vals → Prop} {Q' : Exit → Act → World → Prop}
    (hL : ∀ listed a Vs w, C w → Facts Sp Vs w → L listed a Vs → wpAny P md ops Q' g listed a w)
    (hE : ∀ listed a Vs w, C w → Facts Sp Vs w → s ∈ Region.ready md ops listed → E listed a Vs → wpOp P ops Q' s (wpAny P md ops Q' g (listed.setIfInBounds s true)) a w) :
    ∀ (f : Nat) (listed : Array Bool) (a : Act) (Vs : Vals) (w : World), C w → Facts Sp Vs w → wpAnyH P md ops C Sp s L E f listed a Vs → wpAny P md ops Q' (f + g) listed a w
  | 0, listed, a, Vs, w, hc, hF, h => by rw [Nat.zero_add]; exact hL _ _ _ _ hc hF h
  | f + 1, listed, a, Vs, w, hc, hF, h => by
    rw [show f + 1 + g = (f + g) + 1 by omega]
    refine ⟨fun h0 => absurd h0 h.1, fun i hi => ?_⟩
    by_cases his : i = s
    · subst his
      obtain ⟨hf0, he⟩ := (h.2 i hi).2 rfl
      subst hf0
      rw [Nat.zero_add]
      exact hE listed a Vs w hc hF hi he
    have hg := (h.2 i hi).1 his
    unfold gOp at hg
    unfold wpOp
    split
    · rename_i e
      simp only [e] at hg
      exact wpAny_of_H hst hCE hL hE f _ a Vs w hc hF hg
    · rename_i o e
      simp only [e] at hg
      split
      · rename_i hw
        rw [if_pos hw] at hg
        obtain ⟨S, hS, hall⟩ := hg
        left
        unfold Ob at hS
        split at hS
        · rename_i es
          obtain ⟨v, rfl, hp⟩ := hS
          have hn := hall v rfl
          simp only [es, next] at hn
          exact Oper.wp_of_pure (hp w hc) (wpAny_of_H hst hCE hL hE f _ _ Vs w hc hF hn)
        · rename_i v es
          obtain ⟨rfl, hp⟩ := hS
          have hn := hall v rfl
          simp only [es, next] at hn
          refine Oper.wp_of_does (hp w hc fun i' v' _ hv => hF i' v' hv) fun u w' ⟨hu, hb⟩ => ?_
          subst hu
          exact wpAny_of_H hst hCE hL hE f _ _ Vs w' (hCE w w' hc hb) (fun i' v' hv => hst i' v' w w' (hF i' v' hv) hb) hn
        · rename_i R es
          obtain ⟨rfl, hp⟩ := hS
          refine Oper.wp_of_does (hp w hc fun i' v' _ hv => hF i' v' hv) fun u w' ⟨hu, hb⟩ => ?_
          have hn := hall u trivial
          refine wpAny_of_H hst hCE hL hE f _ _ _ w' (hCE w w' hc hb) (fun i' v' hv => ?_) hn
          simp only [es, next] at hv
          unfold upd at hv
          split at hv
          · rename_i e'
            subst e'
            cases hv
            simp only [es, factOf]
            exact hu
          · exact hst i' v' w w' (hF i' v' hv) hb
      · rename_i hw
        rw [if_neg hw] at hg
        exact wpAny_of_H hst hCE hL hE f _ _ Vs w hc hF hg
theorem wpList_of_LT {Q : Exit → Act → World → Prop} {os : Oper} {tail : List Oper} {a : Act} {w : World} (h : LT P ops Q os tail a w) : wpList P ops Q (os :: tail) a w := by
 obtain ⟨w', hg, hd, hr, hk⟩ := h.out
 unfold wpList
 rw [if_pos (wanted_free hg)]
 left
 refine Oper.wp_of_does (Φ := fun u w1 => u = undef ∧ w1 = w') (by unfold Does; rw [hr]; exact ⟨rfl, rfl⟩) fun u w1 ⟨hu, hw⟩ => ?_
 subst hu; subst hw
 rw [hd]
 exact hk
end
/-- Is this an order of our own, with the pure operation p that may come behind the store s? -/
def lateB (md : Region.Mode) (ops : Array Oper) (hd : List Nat) (p s : Nat) (tl : List Nat) : Bool :=
  Region.noSelect ops && decide (hd.length + 2 + tl.length = ops.size) && headH md ops p s tl hd (Array.replicate ops.size false) && ((s :: tl).all fun t => hd.all fun i => ancB md ops ops.size t i) && (hd.all fun i => i != s) && (p != s)
theorem wp_region_late {P : Program} {id : Nat} {Q : Exit → Act → World → Prop} {a : Act} {w : World} {l : List Oper} (hd : List Nat) (p s : Nat) (tl : List Nat) (op os : Oper) (Sp : Nat → OpSpec) (hm : P.follows .mixedOrders = true) (hB : lateB .any l.toArray hd p s tl = true)
    (e1 : (opsAt l hd).map (·.1) = hd) (e2 : (opsAt l tl).map (·.1) = tl) (e3 : l[p]? = some op) (e4 : l[s]? = some os)
    (hst : ∀ i v w w', factOf (Sp i) v w → Below w.heap.size w w' → factOf (Sp i) v w')
    (h : wpGP P .any l.toArray (fun w' => Below w.heap.size w w') Sp (LateD P .any l.toArray Q (fun w' => Below w.heap.size w w') Sp p op os ((opsAt l tl).map (·.2))) (opsAt l hd) a (fun _ => none)) : (Code.region id l.toArray true).wp P Q a w := by
 simp only [lateB, Bool.and_eq_true, decide_eq_true_eq] at hB
 obtain ⟨⟨⟨⟨⟨hsel, hn⟩, hlex⟩, hanc⟩, hns⟩, hps⟩ := hB
 have hps : p ≠ s := by simpa using hps
 have hp : l.toArray[p]? = some op := by simpa using e3
 have hs : l.toArray[s]? = some os := by simpa using e4
 have inv0 : HeadInv .any l.toArray l.toArray.size (Array.replicate l.toArray.size false) :=
  ⟨by simp, fun j oj _ hl => (by rw [getD_replicate_false] at hl; cases hl), fun t h1 h2 => by omega⟩
 have mem : ∀ q ∈ opsAt l hd, q.1 ∈ hd := fun q hq => by rw [← e1]; exact List.mem_map.2 ⟨q, hq, rfl⟩
 have H := wpAnyH_list (md := .any) (T := tl) (Q := Q) ⟨w, Below.refl _ _⟩ hp hps hsel (opsAt l hd) _ a _ (fun p hp => opsAt_at hp) (fun t ht p hp => by
  have h1 := List.all_eq_true.1 hanc t ht
  exact List.all_eq_true.1 h1 p.1 (mem p hp)) (fun q hq => by have := List.all_eq_true.1 hns q.1 (mem q hq); simpa using this) inv0 (by rw [e1]; exact hlex) h
 refine wp_region_any hm ?_
 have hlh : (opsAt l hd).length = hd.length := by have := congrArg List.length e1; simpa using this
 have hlt : (opsAt l tl).length = tl.length := by have := congrArg List.length e2; simpa using this
 have := wpAny_of_H (Q' := Q) (g := (opsAt l tl).length + 1) hst (fun w1 w2 h1 h2 => h1.trans (h2.mono h1.size)) (fun listed a' Vs w' hC hF hL => by
   have := wpAny_of_seqL (md := .any) (Q' := Q) ((s, os) :: opsAt l tl) listed a' w' (fun p hp => by rcases List.mem_cons.1 hp with rfl | hp; exact hs; exact opsAt_at hp) (by rw [List.map_cons, e2]; exact hL.1) (wpList_of_LT (hL.2 w' hC hF))
   simpa using this) (fun listed a' Vs w' hC hF hsr hE => by
   obtain ⟨hB, hg, v, hsp, hpu, hn'⟩ := hE
   simp only [lateL, Bool.and_eq_true] at hB
   obtain ⟨⟨⟨⟨h1, h2⟩, h3⟩, h4⟩, h5⟩ := hB
   have hrp : p ∈ Region.ready .any l.toArray listed := by simpa using h2
   have hunp := (mem_ready.1 hrp).1
   obtain ⟨hsun, os', hos', hall⟩ := mem_ready.1 hsr
   have hoe : os' = os := Option.some.inj (hos'.symm.trans hs)
   subst hoe
   have hap := Region.free_spec hp h3 s os' hos' (Ne.symm hps) hsun (fun e he hb heq => by
    have h1 := hall e he hb
    rw [heq, getD_both hunp] at h1
    cases h1)
   obtain ⟨w1, q1, q2, q3, q4⟩ := (hn' w' hC hF).out
   rw [execOp_put os' (fun cs b => Region.noSelect_spec hsel s os' cs b hos') a' op.dst v (Oper.apart_spec hap).1] at q3
   unfold wpOp
   simp only [hos']
   rw [if_pos (wanted_free q1)]
   left
   refine Oper.wp_of_does (Φ := fun u w2 => u = undef ∧ w2 = w1) (by unfold Does; rw [q3]; exact ⟨rfl, rfl⟩) fun u w2 ⟨hu, hw⟩ => ?_
   subst hu; subst hw
   rw [q2]
   have h5' := h5
   simp only [seqL, Bool.and_eq_true, decide_eq_true_eq] at h5'
   refine ⟨fun e => (by rw [h5'.1] at e; cases e), fun i hi => ?_⟩
   rw [h5'.1] at hi
   have hip : i = p := by simpa using hi
   subst hip
   unfold wpOp
   simp only [hp]
   rw [if_pos (wanted_free hg)]
   left
   exact Oper.wp_of_pure (hpu w' hC (fun i' v' _ hv => hF i' v' hv) w2) (wpAny_of_seqL (md := .any) (Q' := Q) (opsAt l tl) _ _ _ (fun p hp => opsAt_at hp) (by rw [e2]; exact h5'.2) q4)) _ _ _ _ ({ w with drawn := w.drawn + 1 } : World) (Below.refl w.heap.size w).drew (fun i v h => by cases h) H
 rw [hlh, hlt, show hd.length + 1 + (tl.length + 1) = hd.length + 2 + tl.length by omega, hn] at this
 exact this
section
variable {P : Program} {ops : Array Oper} {md : Region.Mode} {C : World → Prop} {Sp : Nat → OpSpec}
/-- As LateD, of what is written 'WL'. -/
def LateW (P : Program) (md : Region.Mode) (ops : Array Oper) (Q : Exit → Act → World → Prop) (C : World → Prop) (Sp : Nat → OpSpec) (p : Nat) (op os : Oper) (tail : List Oper) (a : Act) (Vs : Vals) : Prop := LateD P md ops Q C Sp p op os tail a Vs
theorem late_ {p : Nat} {op os : Oper} {tail : List Oper} {Q : Exit → Act → World → Prop} {a : Act} {Vs : Vals} (hg : op.guard = none) {v : Value} (hs : Sp p = .const v) (h : ∀ w, C w → FactsAt md ops Sp p Vs w → ∀ w1, PureAt P op a w1 v)
    (hn : ∀ w, C w → Facts Sp Vs w → LT P ops Q os tail (a.put op.dst v) w) : LateW P md ops Q C Sp p op os tail a Vs := ⟨hg, v, hs, h, hn⟩
end
theorem region_late {P : Program} {id : Nat} {Q : Exit → Act → World → Prop} {a : Act} {W : World} {l : List Oper} (F : Fz) (hd : List Nat) (p s : Nat) (tl : List Nat) (L : List (Nat × Mark)) (hm : P.follows .mixedOrders = true) (hB : lateB .any l.toArray hd p s tl = true) (e1 : (opsAt l hd).map (·.1) = hd) (e2 : (opsAt l tl).map (·.1) = tl)
    {op os : Oper} (e3 : l[p]? = some op) (e4 : l[s]? = some os)
    (h : GP P .any l.toArray (fun w' => Below W.heap.size W w') (specOf W F L) (LateW P .any l.toArray Q (fun w' => Below W.heap.size W w') (specOf W F L) p op os ((opsAt l tl).map (·.2))) (opsAt l hd) a (fun _ => none)) : (Code.region id l.toArray true).wp P Q a W :=
  wp_region_late hd p s tl op os (specOf W F L) hm hB e1 e2 e3 e4 specOf_stable h.out
theorem stLate {P : Program} {w0 w : World} {F0 F : Fz} {L : List Blk} {M : List RowP} {ops : Array Oper} {Q : Exit → Act → World → Prop} {a : Act} {rest : List Oper} {t T T' : TypeId} {x y : Operand} {pos : String} {after : Array Edge} {i n j : Nat} {c : List Value} {v : Value} (S : St w0 F0 w F L M)
    (hx : a.eval x = .pointer (some ⟨n, j, none⟩)) (hy : a.eval y = v) (hL : L[i]? = some ⟨n, c, T'⟩)
    (hi : (P.info? T).map (·.size) = some v.cells.size) (h1 : v.cells.all (·.oneCell') = true) (hl : j + v.cells.size ≤ c.length)
    (h : ∀ w', St w0 F0 w' F (L.set i ⟨n, splice c j v.cells.toList, T'⟩) M → WL P ops Q rest a w') : LT P ops Q ⟨none, .store T x y, t, pos, after, none⟩ rest a w := by
 have hs := storeV (P := P) (T := T) (v := v) hi (S.there hL j v.cells.size hl) h1
 exact ⟨⟨_, rfl, rfl, ex_store hx (by rw [hy]; exact hs), (h _ (S.store hL j v.cells.toList (by simpa using hl))).out⟩⟩
theorem Sl.dropF {α : Type} {k : Nat} {R : Fz → List Value → α → Prop} {w : World} {F : Fz} {n : Nat} {cs : List Value} {T : TypeId} (hs : Sat w F) (hb : w.heap[n]? = some (.cells cs.toArray T (0, 0))) (hR : ∀ c p, R F c p → R (Proofs.YtilgpdpooildcaaGreatDoor.dropF F n) c p) (hx : ∀ (c : List Value) p, R F c p → ∃ (j : Nat) (u : Value), c[j]? = some u ∧ u ∉ cs) {v : Value} {l : List α} (h : Sl k R F v l) : Sl k R (Proofs.YtilgpdpooildcaaGreatDoor.dropF F n) v l := by
 obtain ⟨xs, ⟨a, c, h1, h2, h3, h4, h5⟩, hr, hk⟩ := h
 refine ⟨xs, ⟨a, c, h1, h2, h3, h4, ?_⟩, hr.imp hR, hk⟩
 rcases h5 with h5 | ⟨b, o, e, h6⟩
 exact .inl h5
 by_cases hbn : b = n
 cases xs with
 | nil => exact .inl rfl
 | cons x xs =>
  exfalso
  cases l with
  | nil => exact hr
  | cons p l =>
   obtain ⟨j, u, hj, hu⟩ := hx _ _ hr.1
   have h0 := h6 j u (by
    rw [List.flatten_cons, List.getElem?_append_left (List.getElem?_eq_some_iff.1 hj).1]
    exact hj)
   subst hbn
   unfold cellF at h0
   split at h0
   rename_i c0 t0 fr0 hF
   have := hs _ _ hF
   rw [hb] at this
   cases this
   have hm : u ∈ cs := by
    have : cs[o + j]? = some u := by simpa using h0
    exact List.mem_of_getElem? this
   exact hu hm
   cases h0
 refine .inr ⟨b, o, e, fun j u hu => ?_⟩
 have h0 := h6 j u hu
 unfold cellF Proofs.YtilgpdpooildcaaGreatDoor.dropF at *
 rw [if_neg hbn]
 exact h0
section
variable {w : World} {F : Fz} {n : Nat} {cs : List Value} {T : TypeId}
theorem Rds.dropF (hs : Sat w F) (hb : w.heap[n]? = some (.cells cs.toArray T (0, 0))) (hc : ∀ u ∈ cs, ∀ x, u ≠ bv x) (hc2 : ∀ b, Value.bool b ∉ cs) {v : Value} {l : List Rd} (h : Rds F v l) : Rds (Proofs.YtilgpdpooildcaaGreatDoor.dropF F n) v l :=
  Sl.dropF hs hb (RdC.dropF hs hb hc) (fun c p ⟨a0, a1, a2, a3, e, _, _, e2, _⟩ => ⟨2, a2, by rw [e]; rfl, by rw [e2]; exact hc2 _⟩) h
theorem Wrs.dropF (hs : Sat w F) (hb : w.heap[n]? = some (.cells cs.toArray T (0, 0))) (hc : ∀ u ∈ cs, ∀ x, u ≠ bv x) (hc2 : ∀ b, Value.bool b ∉ cs) {v : Value} {l : List Wr} (h : Wrs F v l) : Wrs (Proofs.YtilgpdpooildcaaGreatDoor.dropF F n) v l :=
  Sl.dropF hs hb (WrC.dropF hs hb hc) (fun c p ⟨a0, a1, a2, a3, e, _, _, e2, _⟩ => ⟨2, a2, by rw [e]; rfl, by rw [e2]; exact hc2 _⟩) h
end
structure HL (P : Program) (ops : Array Oper) (Q : Exit → Act → World → Prop) (F : Fz) (fuel : Nat) (listed : Array Bool) (a : Act) (w : World) : Prop where
  out : Go.wpAnyH P .any ops Q (fun w => Sat w F) fuel listed a w
section
variable {P : Program} {ops : Array Oper} {Q : Exit → Act → World → Prop} {F : Fz} {fuel : Nat} {listed : Array Bool} {a : Act} {w : World} {o : Oper}
theorem region_hl {id : Nat} {l : List Oper} {w0 : World} {F0 : Fz} {L : List Blk} {M : List RowP} (S : St w0 F0 w F L M) (hm : P.follows .mixedOrders = true) (h : ∀ w', St w0 F0 w' F L M → HL P l.toArray Q F l.length (Array.replicate l.length false) a w') : (Code.region id l.toArray true).wp P Q a w := by
 have := (h { w with drawn := w.drawn + 1 } (S.tells (Below.refl w.heap.size w).drew)).out
 refine wp_region_held (S := fun w => Sat w F) hm ?_
 simpa using this
def canTake (ops : Array Oper) (listed : Array Bool) (i : Nat) : Bool := Region.noSelect ops && Region.free .any ops listed i && (Region.ready .any ops listed).contains i
theorem hl_take {l : List Oper} (i : Nat) (hi : l[i]? = some o) (hc : canTake l.toArray listed i = true) {v : Value} (hQ : ∀ c a w, Q (.panic c) (a.put o.dst v) w → Q (.panic c) a w) (hS : Sat w F) (hw : Region.wanted o (yielded l.toArray a.tmps) = true)
    (hr : ∀ w1, Sat w1 F → (execOp a.eval o).run P w1 = .ok (.value v) w1) (h : HL P l.toArray Q F fuel (listed.setIfInBounds i true) (a.put o.dst v) w) : HL P l.toArray Q F (fuel + 1) listed a w := by
 simp only [canTake, Bool.and_eq_true] at hc
 exact ⟨Go.wpAnyH_take (by simpa using hi) hc.1.1 hc.1.2 hc.2 hQ (.inl ⟨hw, hr⟩) hS h.out⟩
theorem Oper.wp_exit {K K' : Act → World → Prop} (hh : o.wp P a w K (Exit.then K' Q)) : o.wp P a w K Q := by
 unfold Oper.wp at *
 generalize (execOp a.eval o).run P w = r at *
 cases r with
 | ok n w' =>
  cases n <;> simp only [Oper.upon] at hh ⊢ <;> try exact hh
 | halt x w' => cases x <;> exact hh
theorem hl_next {l : List Oper} (i : Nat) (hr : Region.ready .any l.toArray listed = [i]) (hi : l[i]? = some o) (h : WL P l.toArray (Exit.then (fun a' w' => Sat w' F ∧ Go.wpAnyH P .any l.toArray Q (fun w => Sat w F) fuel (listed.setIfInBounds i true) a' w') Q) [o] a w) : HL P l.toArray Q F (fuel + 1) listed a w := by
 refine ⟨Go.wpAnyH_all hr (by simp) fun j hj => ?_⟩
 have hji : j = i := by simpa using hj
 subst hji
 have h1 := h.out
 unfold wpList at h1
 unfold wpOp
 have hi' : l.toArray[j]? = some o := by simpa using hi
 simp only [hi']
 split
 rename_i hw
 rw [if_pos hw] at h1
 rcases h1 with h1 | h1
 left
 refine Oper.wp_mono (fun a' w' hk => ?_) (Oper.wp_exit h1)
 exact hk
 exact .inr h1
 rename_i hw
 rw [if_neg hw] at h1
 exact h1
theorem hl_back (hS : Sat w F) (h : HL P ops Q F fuel listed a w) : Exit.then (fun a' w' => Sat w' F ∧ Go.wpAnyH P .any ops Q (fun w => Sat w F) fuel listed a' w') Q .normal a w := ⟨hS, h.out⟩
theorem hl_done (hr : Region.ready .any ops listed = []) (h : Q .normal a w) : HL P ops Q F fuel listed a w := ⟨Go.wpAnyH_done hr h _⟩
end
def ByC (F : Fz) (cs : List Value) (b : UInt8) : Prop := cs = [bv b]
theorem ByC.mono (F F' : Fz) (x : List Value) (p : UInt8) (hl : Le F F') (h : ByC F x p) : ByC F' x p := h
theorem bv_one (b : UInt8) : ∀ u ∈ [bv b], u.oneCell' = true := by intro u hu; rw [List.mem_singleton.1 hu]; rfl
theorem ByC.one (F : Fz) (cs : List Value) (p : UInt8) (h : ByC F cs p) : ∀ u ∈ cs, u.oneCell' = true := by rw [h]; exact bv_one p
theorem bytes_flat : ∀ l : By, ((l.map fun b => [bv b]).flatten) = l.map bv
  | [] => rfl
  | b :: l => by simp [bytes_flat l]
theorem allR_bytes (F : Fz) : ∀ l : By, AllR (ByC F) (l.map fun b => [bv b]) l
  | [] => trivial
  | _ :: l => ⟨rfl, allR_bytes F l⟩
theorem bytes_of : ∀ {xs : List (List Value)} {l : By} {F : Fz}, AllR (ByC F) xs l → xs.flatten = l.map bv
  | [], [], _, _ => rfl
  | x :: xs, b :: l, F, h => by rw [List.flatten_cons, h.1, bytes_of h.2]; rfl
theorem Bs.sl {F : Fz} {v : Value} {l : By} (h : Bs F v l) : Sl 1 ByC F v l := ⟨l.map fun b => [bv b], by rw [bytes_flat]; exact h, allR_bytes F l, by simp⟩
theorem bs_of_sl {F : Fz} {v : Value} {l : By} (h : Sl 1 ByC F v l) : Bs F v l := by
 obtain ⟨xs, h1, h2, _⟩ := h
 rw [bytes_of h2] at h1
 exact h1
theorem conv_b8 (z : Nat) (w : World) : (convert 3 5 (.int .i64 (z : Nat))).run Tryz.prog w = .ok (bv (b8 z)) w := by
 have : (convert 3 5 (.int .i64 (z : Nat))).run Tryz.prog w = .ok (.int .u8 (IntKind.u8.wrap (z : Int))) w := by kernel_rfl
 rw [this]
 have e : IntKind.u8.wrap (z : Int) = ((b8 z).toNat : Int) := by
  rw [show IntKind.u8.wrap (z : Int) = (z : Int) % 256 from rfl]
  simp [b8]
 rw [e]; rfl
theorem conv_int (b : UInt8) (w : World) : (convert 5 3 (bv b)).run Tryz.prog w = .ok (.int .i64 ((b.toNat : Nat) : Int)) w := by
 have : (convert 5 3 (bv b)).run Tryz.prog w = .ok (.int .i64 (IntKind.i64.wrap (b.toNat : Int))) w := by kernel_rfl
 rw [this, wrap64_in (by omega) (by have := UInt8.toNat_lt b; omega)]
theorem ex_shrN {P : Program} {ρ : Operand → Value} {w : World} {d : Option Tmp} {t X Y : TypeId} {x y : Operand} {pos : String} {after : Array Edge} {guard : Option (Nat × Bool)} {m n : Nat} (hx : ρ x = .int .i64 (m : Int)) (hy : ρ y = .int .u64 (n : Int)) (hn : n ≤ 64) : (execOp ρ ⟨d, .binOp .shr X x y Y, t, pos, after, guard⟩).run P w = .ok (.value (.int .i64 ((m / 2 ^ n : Nat) : Int))) w := by
 have e : (eqGuard .shr X x y (.int .i64 (m : Int)) (.int .u64 (n : Int))).run P w = .ok () w := rfl
 have h : (binOp .shr X (.int .i64 (m : Int)) (.int .u64 (n : Int))).run P w = .ok (.int .i64 ((m / 2 ^ n : Nat) : Int)) w := by
  show (Op.shift .shr .i64 (m : Int) .u64 (n : Int)).run P w = _
  unfold Op.shift
  rw [if_neg (by omega)]
  show Result.ok (Value.int .i64 (Int.fdiv (m : Int) (2 ^ (min (n : Int).toNat 64)))) w = _
  rw [Int.toNat_natCast, Nat.min_eq_left hn, Int.fdiv_eq_ediv_of_nonneg _ (show (0 : Int) ≤ 2 ^ n from Int.le_of_lt (Int.pow_pos (by decide)))]
  simp
 simp only [execOp, hx, hy, Sem.run_bind, e, Result.andThen_ok, h, Sem.run_pure]
theorem Bs.get {F : Fz} {a : Option Addr} {n c : Nat} {l : By} (h : Bs F (.slice a n c) l) {i : Nat} {b : UInt8} (hb : l[i]? = some b) : ∃ g o, a = some ⟨g, o, none⟩ ∧ cellF F g (o + i * 1) = some (bv b) := by
 obtain ⟨a', c', e, _, _, _, h5⟩ := h
 injection e with e1 _ _
 subst e1
 rcases h5 with h5 | ⟨g, o, e, h6⟩
 ·rw [List.map_eq_nil_iff] at h5
  subst h5; cases hb
 ·exact ⟨g, o, e, by rw [Nat.mul_one]; exact h6 i (bv b) (by rw [List.getElem?_map, hb]; rfl)⟩
abbrev Bys (F : Fz) (v : Value) (l : By) : Prop := Sl 1 ByC F v l
end Go.Proofs.YtilgpdpooildcaaGreatDoor
