/- Rules, plain laws and walks: F3 F4 -/
import Derived.Test.YtlimmmidfhpakaaGB5
namespace Go.Proofs.Ytlimmmidfhpakaa
open Go.RowKit
set_option maxRecDepth 100000
set_option linter.unusedVariables false
set_option linter.unusedSimpArgs false
theorem wr_bad {l : Forest} {r : Wr} (h : wrE r ≠ 0) : applyR l [r] = (wrE r, []) := by unfold applyR; rw [if_pos h]
theorem wr_none {l : Forest} {r : Wr} (h : wrE r = 0) (hw : writeF l r = none) : applyR l [r] = (11, []) := by unfold applyR; rw [if_neg (by simp [h]), hw]
theorem wr_some {l g : Forest} {r : Wr} (h : wrE r = 0) (hw : writeF l r = some g) : applyR l [r] = (0, g) := by unfold applyR; rw [if_neg (by simp [h]), hw]; rfl
theorem delBad_spec (F : Fz) (w : World) (v u : Value) (l : List Pr) (k : By) (hs : Sat w F) (hv : Prs F v l) (hu : Bs F u k) (ok : TreeOk 60 l) (hk : checkN k.length ≠ 0) :
    Calls Try.prog 7 #[v, u] w (Gives w F (PrsE [] (checkN k.length))) := by
  have := delete_spec F w v u l k hs hv hu ok
  unfold delR delE at this
  rwa [if_neg hk] at this
theorem putBad_spec (F : Fz) (w : World) (v u : Value) (l : List Pr) (p : Pr) (hs : Sat w F) (hv : Prs F v l) (hu : Pr2V F u p) (ok : TreeOk 60 l) (hk : p.1.length ≤ 100000) (hx : p.2.length ≤ 100000) (h : pairE p ≠ 0) :
    Calls Try.prog 8 #[v, u] w (Gives w F (PrsE [] (pairE p))) := by
  have := put_spec F w v u l p hs hv hu ok hk hx
  have he : putE l p = pairE p := by unfold putE; rw [if_pos h]
  unfold putR at this
  rwa [he, if_neg h] at this
theorem putFull_spec (F : Fz) (w : World) (v u : Value) (l : List Pr) (p : Pr) (hs : Sat w F) (hv : Prs F v l) (hu : Pr2V F u p) (ok : TreeOk 60 l) (hk : p.1.length ≤ 100000) (hx : p.2.length ≤ 100000) (h : pairE p = 0) (h2 : 60 < (putT l p.1 p.2).length) :
    Calls Try.prog 8 #[v, u] w (Gives w F (PrsE [] 11)) := by
  have := put_spec F w v u l p hs hv hu ok hk hx
  have he : putE l p = 11 := by unfold putE; rw [if_neg (by simp [h]), if_pos h2]
  unfold putR at this
  rwa [he, if_neg (by decide)] at this
theorem putFit_spec (F : Fz) (w : World) (v u : Value) (l : List Pr) (p : Pr) (hs : Sat w F) (hv : Prs F v l) (hu : Pr2V F u p) (ok : TreeOk 60 l) (hk : p.1.length ≤ 100000) (hx : p.2.length ≤ 100000) (h : pairE p = 0) (h2 : ¬ 60 < (putT l p.1 p.2).length) :
    Calls Try.prog 8 #[v, u] w (Gives w F (PrsE (putT l p.1 p.2) 0)) := by
  have := put_spec F w v u l p hs hv hu ok hk hx
  have he : putE l p = 0 := by unfold putE; rw [if_neg (by simp [h]), if_neg h2]
  unfold putR at this
  rwa [he, if_pos rfl] at this
theorem find_is {F : Fz} {w : World} {v u : Value} {l : Forest} {k : By} {b : Bool} (hs : Sat w F) (hv : Tns F v l) (hu : Bs F u k) (hr : Rise l) (hl : l.length ≤ 1000000) (h : hasT l k = b) :
    Calls Try.prog 52 #[v, u] w (Tells w (.tuple #[.int .i64 (posT l k : Nat), .bool b])) := by
  subst h; exact findT_spec F w v u l k hs hv hu hr hl
/-- What a write makes of a forest, case by case. -/
theorem writeF_is {l : Forest} {r : Wr} {O N : List Pr} (hO : treeF l r.name = O) (hN : nextT r O = N) : writeF l r = if r.gone = false ∧ 60 < N.length then none else if N = [] then some (delT l r.name) else if 8 < (putT l r.name N).length then none else some (putT l r.name N) := by
  subst hO; subst hN; rfl
theorem next_gone {r : Wr} {O : List Pr} (h : r.gone = true) : nextT r O = delT O r.key := by unfold nextT; rw [if_pos h]
theorem next_put {r : Wr} {O : List Pr} (h : r.gone = false) : nextT r O = putT O r.key r.value := by unfold nextT; rw [if_neg (by rw [h]; simp)]
theorem nil_len {N : List Pr} (h : N.length = 0) : N = [] := List.eq_nil_of_length_eq_zero h
theorem not_nil {N : List Pr} (h : ¬ N.length = 0) : N ≠ [] := fun e => h (by rw [e]; rfl)
theorem putF_set {l : Forest} (hr : Rise l) {k : By} (h : hasT l k = true) (N : List Pr) : putT l k N = l.set (posT l k) (k, N) := by unfold putT; rw [if_pos h]
theorem putF_new {l : Forest} {k : By} (h : hasT l k = false) (N : List Pr) : putT l k N = l.take (posT l k) ++ (k, N) :: l.drop (posT l k) := by unfold putT; rw [if_neg (by rw [h]; simp)]
theorem delF_has {l : Forest} {k : By} (h : hasT l k = true) : delT l k = l.take (posT l k) ++ l.drop (posT l k + 1) := by unfold delT; rw [if_pos h]
theorem delF_not {l : Forest} {k : By} (h : hasT l k = false) : delT l k = l := by unfold delT; rw [if_neg (by rw [h]; simp)]
set_option maxHeartbeats 8000000 in
theorem write_spec {w0 w : World} {F0 F : Fz} {L0 : List Blk} {M0 : List RowP} {v u : Value} {l : Forest} {r : Wr}
    (S : St w0 F0 w F L0 (ownP 2 TnC TnC.mono 80 w0.heap.size v l :: M0)) (hu : WrV F u r) (ok : ForestOk 60 l) (hb0 : r.name.length ≤ 100000) (hb1 : r.key.length ≤ 100000) (hb2 : r.value.length ≤ 100000) :
    Calls Try.prog 40 #[v, u] w fun e w' => ∃ v', e = .returned (.tuple #[v', .int .i64 (applyR l [r]).1]) ∧ ∃ F', Le F F' ∧
      (((applyR l [r]).1 = 0 ∧ St w0 F0 w' F' L0 (ownP 2 TnC TnC.mono 80 w0.heap.size v' (applyR l [r]).2 :: M0)) ∨ ((applyR l [r]).1 ≠ 0 ∧ v' = .slice none 0 0 ∧ St w0 F0 w' F' L0 M0)) := by
 obtain ⟨a, c, rfl, hc1, hc2⟩ := (S.own (i := 0) rfl).shape
 obtain ⟨x0, y0, x1, y1, x3, y3, rfl, h0, h1, h3⟩ := hu
 unfold maxLen at hc2
 obtain ⟨i80, hi80, hz80, hs80, hb80⟩ := info_parts info_80
 go_enter Try.func40, Try.ntmps40
 refine wp_seq_k (fun K1 hK1 => region_wl ?_)
 refine stNew S (v := fun n => .pointer (some ⟨n, 0, none⟩)) rfl (ex_box (v := (.agg #[(.slice x0 r.name.length y0), (.slice x1 r.key.length y1), (.bool r.gone), (.slice x3 r.value.length y3)])) rfl) (fun n2 w3 S4 => ?_)
 simp only [pS, pN, pA, pC, pZ]
 have S4 : St w0 F0 w3 F (⟨n2, [(.slice x0 r.name.length y0), (.slice x1 r.key.length y1), (.bool r.gone), (.slice x3 r.value.length y3)], 27⟩ :: L0) (ownP 2 TnC TnC.mono 80 w0.heap.size (.slice a l.length c) l :: M0) := S4
 refine do_ rfl (.slice none 0 0) (ex_assign _) ?_
 simp only [pS, pN, pA, pC, pZ]
 refine do_ rfl (.int .i64 0) (ex_assign _) ?_
 simp only [pS, pN, pA, pC, pZ]
 refine wl_nil (hK1 _ _ ?_)
 refine wp_seq_k (fun K5 hK5 => ?_)
 refine wp_seq_k (fun K6 hK6 => region_wl ?_)
 refine do_ rfl (.pointer (some ⟨n2, 0, none⟩)) (ex_field (q := ⟨n2, 0, none⟩) rfl (fa_27_0 _ _)) ?_
 simp only [pS, pN, pA, pC, pZ]
 refine do_ rfl (.slice x0 r.name.length y0) (ex_load rfl (load1 (nagg_25 _) (St.cell S4 (i := 0) rfl rfl))) ?_
 simp only [pS, pN, pA, pC, pZ]
 refine stTells (v := (.int .i64 (nameN r.name.length))) S4 rfl (ex_fn (vs := #[(.slice x0 r.name.length y0)]) (map1 rfl) rfl (ent_51 _ _)) (tells_same (name_len _ _ _ _)) (fun w7 S8 => ?_)
 simp only [pS, pN, pA, pC, pZ]
 refine do_ rfl (.int .i64 (nameN r.name.length)) (ex_assign _) ?_
 simp only [pS, pN, pA, pC, pZ]
 refine wl_nil (hK6 _ _ ?_)
 refine wp_seq_k (fun K9 hK9 => region_wl ?_)
 refine do_ rfl (.int .i64 (nameN r.name.length)) (ex_move _) ?_
 simp only [pS, pN, pA, pC, pZ]
 by_cases hc16 : (nameN r.name.length) = (0 : Int)
 ·refine do_ rfl (.bool false) (ex_neq (m := (nameN r.name.length)) (n := (0 : Int)) (b := false) rfl rfl (bne_eq_false_iff_eq.2 (by omega))) ?_
  simp only [pS, pN, pA, pC, pZ]
  refine wl_nil (hK9 _ _ ?_)
  refine wp_cond_false rfl ?_
  refine wp_skip ?_
  refine hK5 _ _ ?_
  refine wp_seq_k (fun K10 hK10 => ?_)
  have hl8 := ok.len
  have hpl : posT l r.name ≤ l.length := posBy_le _ _ _
  cases hh : hasT l r.name with
  | false =>
   have hO := treeF_not hh
   refine region_wl ?_
   refine do_ rfl (.slice a l.length c) (ex_move _) ?_
   simp only [pS, pN, pA, pC, pZ]
   refine do_ rfl (.pointer (some ⟨n2, 0, none⟩)) (ex_field (q := ⟨n2, 0, none⟩) rfl (fa_27_0 _ _)) ?_
   simp only [pS, pN, pA, pC, pZ]
   refine do_ rfl (.slice x0 r.name.length y0) (ex_load rfl (load1 (nagg_25 _) (St.cell S8 (i := 0) rfl rfl))) ?_
   simp only [pS, pN, pA, pC, pZ]
   obtain ⟨F11, hs12, le13, hsl14⟩ := own_peek S8 (i := 0) rfl
   refine stTells (v := (.tuple #[(.int .i64 (((posT l r.name) : Nat) : Int)), (.bool false)])) S8 rfl (ex_fn (vs := #[(.slice a l.length c), (.slice x0 r.name.length y0)]) (map2 rfl rfl) rfl (ent_52 _ _)) (find_is hs12 hsl14 (h0.mono le13) ok.rise (by omega) hh) (fun w15 S16 => ?_)
   simp only [pS, pN, pA, pC, pZ]
   refine do_ rfl (.tuple #[(.int .i64 (((posT l r.name) : Nat) : Int)), (.bool false)]) (ex_move _) ?_
   simp only [pS, pN, pA, pC, pZ]
   refine do_ rfl (.int .i64 (((posT l r.name) : Nat) : Int)) (ex_extract rfl rfl) ?_
   simp only [pS, pN, pA, pC, pZ]
   refine do_ rfl (.bool false) (ex_extract rfl rfl) ?_
   simp only [pS, pN, pA, pC, pZ]
   refine do_ rfl (.int .i64 (((posT l r.name) : Nat) : Int)) (ex_assign _) ?_
   simp only [pS, pN, pA, pC, pZ]
   refine do_ rfl (.bool false) (ex_assign _) ?_
   simp only [pS, pN, pA, pC, pZ]
   refine wl_nil (hK10 _ _ ?_)
   refine wp_seq_k (fun K17 hK17 => region_wl ?_)
   refine do_ rfl (.slice none 0 0) (ex_assign _) ?_
   simp only [pS, pN, pA, pC, pZ]
   refine do_ rfl (.slice none 0 0) (ex_assign _) ?_
   simp only [pS, pN, pA, pC, pZ]
   refine wl_nil (hK17 _ _ ?_)
   refine wp_seq_k (fun K18 hK18 => ?_)
   refine wp_seq_k (fun K19 hK19 => region_wl ?_)
   refine do_ rfl (.bool false) (ex_move _) ?_
   simp only [pS, pN, pA, pC, pZ]
   refine wl_nil (hK19 _ _ ?_)
   refine wp_cond_false rfl ?_
   refine wp_skip ?_
   refine hK18 _ _ ?_
   refine wp_seq_k (fun K20 hK20 => region_wl ?_)
   refine do_ rfl (.int .i64 0) (ex_assign _) ?_
   simp only [pS, pN, pA, pC, pZ]
   refine wl_nil (hK20 _ _ ?_)
   refine wp_seq_k (fun K21 hK21 => ?_)
   refine wp_seq_k (fun K22 hK22 => region_wl ?_)
   refine do_ rfl (.pointer (some ⟨n2, 2, none⟩)) (ex_field (q := ⟨n2, 2, none⟩) rfl (fa_27_2 _ _)) ?_
   simp only [pS, pN, pA, pC, pZ]
   refine do_ rfl (.bool r.gone) (ex_load rfl (load1 (nagg_4 _) (St.cell S16 (i := 0) rfl rfl))) ?_
   simp only [pS, pN, pA, pC, pZ]
   refine wl_nil (hK22 _ _ ?_)
   refine wp_cond_split rfl (fun hgone => ?_) (fun hgone => ?_)
   ·refine wp_seq_k (fun K23 hK23 => ?_)
    by_cases hk : checkN r.key.length = 0
    ·refine region_wl ?_
     refine do_ rfl (.slice none 0 0) (ex_move _) ?_
     simp only [pS, pN, pA, pC, pZ]
     refine do_ rfl (.pointer (some ⟨n2, 1, none⟩)) (ex_field (q := ⟨n2, 1, none⟩) rfl (fa_27_1 _ _)) ?_
     simp only [pS, pN, pA, pC, pZ]
     refine do_ rfl (.slice x1 r.key.length y1) (ex_load rfl (load1 (nagg_25 _) (St.cell S16 (i := 0) rfl rfl))) ?_
     simp only [pS, pN, pA, pC, pZ]
     refine stGives S16 rfl (ex_fn (vs := #[(.slice none 0 0), (.slice x1 r.key.length y1)]) (map2 rfl rfl) rfl (ent_7 _ _)) (delOk_spec _ _ _ _ ([] : List Pr) r.key (S16).sat (Sl.nil _ _ _) h1 (TreeOk.nil 60) (checkN_zero.1 hk)) ?_
     intro v29 w24 F26 S25 le27 R28
     obtain ⟨_, rfl, r32⟩ := R28
     obtain ⟨a30, c31, rfl, h33, h34⟩ := Sl.shape r32
     unfold maxLen at h34
     have h33 : (delT ([] : List Pr) r.key).length ≤ c31 := h33
     have r32 : Prs _ (.slice a30 (delT ([] : List Pr) r.key).length c31) (delT ([] : List Pr) r.key) := r32
     simp only [pS, pN, pA, pC, pZ]
     refine do_ rfl (.tuple #[(.slice a30 (delT ([] : List Pr) r.key).length c31), (.int .i64 0)]) (ex_move _) ?_
     simp only [pS, pN, pA, pC, pZ]
     refine do_ rfl (.slice a30 (delT ([] : List Pr) r.key).length c31) (ex_extract rfl rfl) ?_
     simp only [pS, pN, pA, pC, pZ]
     refine do_ rfl (.int .i64 0) (ex_extract rfl rfl) ?_
     simp only [pS, pN, pA, pC, pZ]
     refine do_ rfl (.slice a30 (delT ([] : List Pr) r.key).length c31) (ex_assign _) ?_
     simp only [pS, pN, pA, pC, pZ]
     refine do_ rfl (.int .i64 0) (ex_assign _) ?_
     simp only [pS, pN, pA, pC, pZ]
     refine wl_nil (hK23 _ _ ?_)
     refine wp_seq_k (fun K35 hK35 => region_wl ?_)
     refine do_ rfl (.int .i64 0) (ex_move _) ?_
     simp only [pS, pN, pA, pC, pZ]
     refine do_ rfl (.bool true) (ex_eql (b := true) rfl rfl (by decide)) ?_
     simp only [pS, pN, pA, pC, pZ]
     refine do_ rfl (.bool true) (ex_move _) ?_
     simp only [pS, pN, pA, pC, pZ]
     refine do_ rfl (.pointer (some ⟨n2, 3, none⟩)) (ex_field (q := ⟨n2, 3, none⟩) rfl (fa_27_3 _ _)) ?_
     simp only [pS, pN, pA, pC, pZ]
     refine do_ rfl (.slice x3 r.value.length y3) (ex_load rfl (load1 (nagg_25 _) (St.cell S25 (i := 0) rfl rfl))) ?_
     simp only [pS, pN, pA, pC, pZ]
     refine do_ rfl (.int .i64 ((r.value.length : Nat) : Int)) (ex_len Try.underlying25 rfl) ?_
     simp only [pS, pN, pA, pC, pZ]
     by_cases hc46 : 0 < r.value.length
     ·refine do_ rfl (.bool true) (ex_gtr (m := ((r.value.length : Nat) : Int)) (n := (0 : Int)) (b := true) rfl rfl (decide_eq_true (by omega))) ?_
      simp only [pS, pN, pA, pC, pZ]
      refine do_ rfl (.bool true) (ex_pick (b := true) rfl) ?_
      simp only [pS, pN, pA, pC, pZ]
      refine wl_nil (hK35 _ _ ?_)
      refine wp_cond_true rfl ?_
      refine region_wl ?_
      refine do_ rfl (.int .i64 4) (ex_assign _) ?_
      simp only [pS, pN, pA, pC, pZ]
      refine wl_nil (hK21 _ _ ?_)
      refine wp_seq_k (fun K36 hK36 => ?_)
      refine wp_block ?_
      refine wp_seq_k (fun K37 hK37 => region_wl ?_)
      refine do_ rfl (.int .i64 4) (ex_move _) ?_
      simp only [pS, pN, pA, pC, pZ]
      refine do_ rfl (.bool true) (ex_neq (b := true) rfl rfl (by decide)) ?_
      simp only [pS, pN, pA, pC, pZ]
      refine do_ rfl (.bool true) (ex_assign _) ?_
      simp only [pS, pN, pA, pC, pZ]
      refine wl_nil (hK37 _ _ ?_)
      refine wp_cond_true rfl ?_
      refine wp_seq_k (fun K38 hK38 => region_wl ?_)
      refine do_ rfl (.int .i64 4) (ex_move _) ?_
      simp only [pS, pN, pA, pC, pZ]
      refine do_ rfl (.slice none 0 0) (ex_assign _) ?_
      simp only [pS, pN, pA, pC, pZ]
      refine do_ rfl (.int .i64 4) (ex_assign _) ?_
      simp only [pS, pN, pA, pC, pZ]
      refine wl_nil (hK38 _ _ ?_)
      refine wp_ret ?_
      (try simp only [Exit.then, Exit.inBlock, ↓reduceIte, Nat.reduceEqDiff])
      refine bodyPost_ret (v := (.tuple #[(.slice none 0 0), (.int .i64 4)])) ?_ rfl ?_
      ·exact res_tt rfl rfl rfl
      ·skip
       have hwe : wrE r = 4 := by unfold wrE; rw [if_neg (by omega), if_pos hgone, if_neg (by omega), if_pos (by omega)]
       have hne : wrE r ≠ 0 := by rw [hwe]; decide
       have S39 := St.drop S25 (L' := L0) (.cons _ (List.Sublist.refl _))
       rw [wr_bad hne]
       refine ⟨_, by rw [hwe], _, le27, .inr ⟨hne, rfl, St.dropRow S39 (.cons _ (.refl _))⟩⟩
     ·refine do_ rfl (.bool false) (ex_gtr (m := ((r.value.length : Nat) : Int)) (n := (0 : Int)) (b := false) rfl rfl (decide_eq_false (by omega))) ?_
      simp only [pS, pN, pA, pC, pZ]
      refine do_ rfl (.bool false) (ex_pick (b := true) rfl) ?_
      simp only [pS, pN, pA, pC, pZ]
      refine wl_nil (hK35 _ _ ?_)
      refine wp_cond_false rfl ?_
      refine wp_skip ?_
      refine hK21 _ _ ?_
      refine wp_seq_k (fun K41 hK41 => ?_)
      refine wp_block ?_
      refine wp_seq_k (fun K42 hK42 => region_wl ?_)
      refine do_ rfl (.int .i64 0) (ex_move _) ?_
      simp only [pS, pN, pA, pC, pZ]
      refine do_ rfl (.bool false) (ex_neq (b := false) rfl rfl (by decide)) ?_
      simp only [pS, pN, pA, pC, pZ]
      refine do_ rfl (.bool false) (ex_assign _) ?_
      simp only [pS, pN, pA, pC, pZ]
      refine wl_nil (hK42 _ _ ?_)
      refine wp_cond_false rfl ?_
      refine wp_seq_k (fun K43 hK43 => region_wl ?_)
      refine do_ rfl (.bool false) (ex_move _) ?_
      simp only [pS, pN, pA, pC, pZ]
      refine do_ rfl (.bool false) (ex_move _) ?_
      simp only [pS, pN, pA, pC, pZ]
      refine doN (wanted_no rfl rfl rfl (c := false) rfl (by decide)) ?_
      simp only [pS, pN, pA, pC, pZ]
      refine doN (wanted_no rfl rfl rfl (c := false) rfl (by decide)) ?_
      simp only [pS, pN, pA, pC, pZ]
      refine doN (wanted_no rfl rfl rfl (c := false) rfl (by decide)) ?_
      simp only [pS, pN, pA, pC, pZ]
      refine do_ rfl (.bool false) (ex_pick (b := false) rfl) ?_
      simp only [pS, pN, pA, pC, pZ]
      refine do_ rfl (.bool false) (ex_assign _) ?_
      simp only [pS, pN, pA, pC, pZ]
      refine wl_nil (hK43 _ _ ?_)
      refine wp_cond_false rfl ?_
      refine wp_seq_k (fun K44 hK44 => region_wl ?_)
      refine do_ rfl (.bool false) (ex_move _) ?_
      simp only [pS, pN, pA, pC, pZ]
      refine do_ rfl (.bool false) (ex_assign _) ?_
      simp only [pS, pN, pA, pC, pZ]
      refine wl_nil (hK44 _ _ ?_)
      refine wp_cond_false rfl ?_
      refine wp_seq_k (fun K45 hK45 => region_wl ?_)
      refine do_ rfl (.slice a30 (delT ([] : List Pr) r.key).length c31) (ex_move _) ?_
      simp only [pS, pN, pA, pC, pZ]
      refine do_ rfl (.int .i64 (((delT ([] : List Pr) r.key).length : Nat) : Int)) (ex_len Try.underlying23 rfl) ?_
      simp only [pS, pN, pA, pC, pZ]
      by_cases hc85 : (delT ([] : List Pr) r.key).length = 0
      ·refine do_ rfl (.bool true) (ex_eql (m := (((delT ([] : List Pr) r.key).length : Nat) : Int)) (n := (0 : Int)) (b := true) rfl rfl (beq_iff_eq.2 (by omega))) ?_
       simp only [pS, pN, pA, pC, pZ]
       refine do_ rfl (.bool true) (ex_assign _) ?_
       simp only [pS, pN, pA, pC, pZ]
       refine wl_nil (hK45 _ _ ?_)
       refine wp_cond_true rfl ?_
       refine wp_seq_k (fun K46 hK46 => region_wl ?_)
       refine do_ rfl (.slice a l.length c) (ex_move _) ?_
       simp only [pS, pN, pA, pC, pZ]
       refine do_ rfl (.slice a l.length c) (ex_assign _) ?_
       simp only [pS, pN, pA, pC, pZ]
       refine do_ rfl (.int .i64 0) (ex_assign _) ?_
       simp only [pS, pN, pA, pC, pZ]
       refine wl_nil (hK46 _ _ ?_)
       refine wp_ret ?_
       (try simp only [Exit.then, Exit.inBlock, ↓reduceIte, Nat.reduceEqDiff])
       refine bodyPost_ret (v := (.tuple #[(.slice a l.length c), (.int .i64 0)])) ?_ rfl ?_
       ·exact res_tt rfl rfl rfl
       ·skip
        have hw0 : wrE r = 0 := by unfold wrE; rw [if_neg (by omega), if_pos hgone, if_neg (by omega), if_neg (by omega)]
        have hwf := writeF_is hO (next_gone hgone)
        rw [if_neg (fun h => by rw [hgone] at h; simp at h)] at hwf
        rw [if_pos (nil_len hc85), delF_not hh] at hwf
        have S47 := St.drop S25 (L' := L0) (.cons _ (List.Sublist.refl _))
        rw [wr_some hw0 hwf]
        exact ⟨_, rfl, _, le27, .inl ⟨rfl, S47⟩⟩
      ·refine do_ rfl (.bool false) (ex_eql (m := (((delT ([] : List Pr) r.key).length : Nat) : Int)) (n := (0 : Int)) (b := false) rfl rfl (beq_eq_false_iff_ne.2 (by omega))) ?_
       simp only [pS, pN, pA, pC, pZ]
       refine do_ rfl (.bool false) (ex_assign _) ?_
       simp only [pS, pN, pA, pC, pZ]
       refine wl_nil (hK45 _ _ ?_)
       refine wp_cond_false rfl ?_
       refine wp_seq_k (fun K49 hK49 => region_wl ?_)
       refine do_ rfl (.slice a l.length c) (ex_move _) ?_
       simp only [pS, pN, pA, pC, pZ]
       refine do_ rfl (.int .i64 ((l.length : Nat) : Int)) (ex_len Try.underlying52 rfl) ?_
       simp only [pS, pN, pA, pC, pZ]
       by_cases hc90 : l.length = 8
       ·refine do_ rfl (.bool true) (ex_eql (m := ((l.length : Nat) : Int)) (n := (8 : Int)) (b := true) rfl rfl (beq_iff_eq.2 (by omega))) ?_
        simp only [pS, pN, pA, pC, pZ]
        refine do_ rfl (.bool true) (ex_assign _) ?_
        simp only [pS, pN, pA, pC, pZ]
        refine wl_nil (hK49 _ _ ?_)
        refine wp_cond_true rfl ?_
        refine wp_seq_k (fun K50 hK50 => region_wl ?_)
        refine do_ rfl (.slice none 0 0) (ex_assign _) ?_
        simp only [pS, pN, pA, pC, pZ]
        refine do_ rfl (.int .i64 11) (ex_assign _) ?_
        simp only [pS, pN, pA, pC, pZ]
        refine wl_nil (hK50 _ _ ?_)
        refine wp_ret ?_
        (try simp only [Exit.then, Exit.inBlock, ↓reduceIte, Nat.reduceEqDiff])
        refine bodyPost_ret (v := (.tuple #[(.slice none 0 0), (.int .i64 11)])) ?_ rfl ?_
        ·exact res_tt rfl rfl rfl
        ·skip
         have hw0 : wrE r = 0 := by unfold wrE; rw [if_neg (by omega), if_pos hgone, if_neg (by omega), if_neg (by omega)]
         have hwf := writeF_is hO (next_gone hgone)
         rw [if_neg (fun h => by rw [hgone] at h; simp at h)] at hwf
         rw [if_neg (not_nil hc85), if_pos (by rw [len_putT, if_neg (by rw [hh]; simp)]; omega)] at hwf
         have S51 := St.drop S25 (L' := L0) (.cons _ (List.Sublist.refl _))
         rw [wr_none hw0 hwf]
         refine ⟨_, rfl, _, le27, .inr ⟨(by decide : (11 : Int) ≠ 0), rfl, St.dropRow S51 (.cons _ (.refl _))⟩⟩
       ·refine do_ rfl (.bool false) (ex_eql (m := ((l.length : Nat) : Int)) (n := (8 : Int)) (b := false) rfl rfl (beq_eq_false_iff_ne.2 (by omega))) ?_
        simp only [pS, pN, pA, pC, pZ]
        refine do_ rfl (.bool false) (ex_assign _) ?_
        simp only [pS, pN, pA, pC, pZ]
        refine wl_nil (hK49 _ _ ?_)
        refine wp_cond_false rfl ?_
        refine wp_skip ?_
        refine hK41 _ _ ?_
        refine wp_seq_k (fun K53 hK53 => region_wl ?_)
        refine do_ rfl (.slice a l.length c) (ex_move _) ?_
        simp only [pS, pN, pA, pC, pZ]
        refine do_ rfl (.int .i64 (((posT l r.name) : Nat) : Int)) (ex_move _) ?_
        simp only [pS, pN, pA, pC, pZ]
        refine do_ rfl (.pointer (some ⟨n2, 0, none⟩)) (ex_field (q := ⟨n2, 0, none⟩) rfl (fa_27_0 _ _)) ?_
        simp only [pS, pN, pA, pC, pZ]
        refine do_ rfl (.slice x0 r.name.length y0) (ex_load rfl (load1 (nagg_25 _) (St.cell S25 (i := 0) rfl rfl))) ?_
        simp only [pS, pN, pA, pC, pZ]
        refine stGives S25 rfl (ex_fn (vs := #[(.slice x0 r.name.length y0)]) (map1 rfl) rfl (ent_30 _ _)) (clone_spec _ _ _ r.name (S25).sat (h0.mono le27) (by omega)) ?_
        intro v59 w54 F56 S55 le57 R58
        obtain ⟨xa60, xc61, rfl, _⟩ := R58.shape
        simp only [pS, pN, pA, pC, pZ]
        refine do_ rfl (.slice a30 (delT ([] : List Pr) r.key).length c31) (ex_move _) ?_
        simp only [pS, pN, pA, pC, pZ]
        refine do_ rfl (.agg #[(.slice xa60 r.name.length xc61), (.slice a30 (delT ([] : List Pr) r.key).length c31)]) (ex_build (ps := #[(0, (.slice xa60 r.name.length xc61)), (1, (.slice a30 (delT ([] : List Pr) r.key).length c31))]) (bmap2 rfl rfl) (by kernel_rfl)) ?_
        simp only [pS, pN, pA, pC, pZ]
        refine stNew S55 (v := fun n => .slice (some ⟨n, 0, none⟩) 1 1) rfl (ex_lit (ps := #[(0, (.agg #[(.slice xa60 r.name.length xc61), (.slice a30 (delT ([] : List Pr) r.key).length c31)]))]) (cells := #[(.slice xa60 r.name.length xc61), (.slice a30 (delT ([] : List Pr) r.key).length c31)]) (E := 80) (bmap1 rfl) (fun w => by kernel_rfl)) (fun n62 w63 S64 => ?_)
        simp only [pS, pN, pA, pC, pZ]
        have S64 : St w0 F0 w63 F56 (⟨n62, [(.slice xa60 r.name.length xc61), (.slice a30 (delT ([] : List Pr) r.key).length c31)], 80⟩ :: ⟨n2, [(.slice x0 r.name.length y0), (.slice x1 r.key.length y1), (.bool r.gone), (.slice x3 r.value.length y3)], 27⟩ :: L0) (ownP 2 TnC TnC.mono 80 w0.heap.size (.slice a l.length c) l :: M0) := S64
        refine stOwn (L := (⟨n2, [(.slice x0 r.name.length y0), (.slice x1 r.key.length y1), (.bool r.gone), (.slice x3 r.value.length y3)], 27⟩ :: L0)) (M := fun v_ => (ownP 2 TnC TnC.mono 80 w0.heap.size v_ (l.take (posT l r.name) ++ (r.name, (delT ([] : List Pr) r.key)) :: l.drop (posT l r.name)) :: M0)) rfl (ex_fn (vs := #[(.slice a l.length c), (.int .i64 (((posT l r.name) : Nat) : Int)), (.slice (some ⟨n62, 0, none⟩) 1 1)]) (map3 rfl rfl rfl) rfl (ent_54 _ _)) (insertTenant (p := (r.name, (delT ([] : List Pr) r.key))) TnC.one S64 rfl ⟨_, _, rfl, R58, (r32.mono le57)⟩ (by omega) hpl) ?_
        intro v65 w66 S67
        simp only [pS, pN, pA, pC, pZ]
        have S67 : St w0 F0 w66 F56 (⟨n2, [(.slice x0 r.name.length y0), (.slice x1 r.key.length y1), (.bool r.gone), (.slice x3 r.value.length y3)], 27⟩ :: L0) (ownP 2 TnC TnC.mono 80 w0.heap.size v65 (l.take (posT l r.name) ++ (r.name, (delT ([] : List Pr) r.key)) :: l.drop (posT l r.name)) :: M0) := S67
        refine do_ rfl v65 (ex_assign _) ?_
        simp only [pS, pN, pA, pC, pZ]
        refine do_ rfl (.int .i64 0) (ex_assign _) ?_
        simp only [pS, pN, pA, pC, pZ]
        refine wl_nil (hK53 _ _ ?_)
        refine wp_ret ?_
        (try simp only [Exit.then, Exit.inBlock, ↓reduceIte, Nat.reduceEqDiff])
        refine bodyPost_ret (v := (.tuple #[v65, (.int .i64 0)])) ?_ rfl ?_
        ·exact res_tt rfl rfl rfl
        ·skip
         have hw0 : wrE r = 0 := by unfold wrE; rw [if_neg (by omega), if_pos hgone, if_neg (by omega), if_neg (by omega)]
         have hwf := writeF_is hO (next_gone hgone)
         rw [if_neg (fun h => by rw [hgone] at h; simp at h)] at hwf
         rw [if_neg (not_nil hc85), if_neg (by rw [len_putT, if_neg (by rw [hh]; simp)]; omega), putF_new hh] at hwf
         have S68 := St.drop S67 (L' := L0) (.cons _ (List.Sublist.refl _))
         rw [wr_some hw0 hwf]
         exact ⟨_, rfl, _, (le27.trans le57), .inl ⟨rfl, S68⟩⟩
    ·refine region_wl ?_
     refine do_ rfl (.slice none 0 0) (ex_move _) ?_
     simp only [pS, pN, pA, pC, pZ]
     refine do_ rfl (.pointer (some ⟨n2, 1, none⟩)) (ex_field (q := ⟨n2, 1, none⟩) rfl (fa_27_1 _ _)) ?_
     simp only [pS, pN, pA, pC, pZ]
     refine do_ rfl (.slice x1 r.key.length y1) (ex_load rfl (load1 (nagg_25 _) (St.cell S16 (i := 0) rfl rfl))) ?_
     simp only [pS, pN, pA, pC, pZ]
     refine stGives S16 rfl (ex_fn (vs := #[(.slice none 0 0), (.slice x1 r.key.length y1)]) (map2 rfl rfl) rfl (ent_7 _ _)) (delBad_spec _ _ _ _ ([] : List Pr) r.key (S16).sat (Sl.nil _ _ _) h1 (TreeOk.nil 60) hk) ?_
     intro v75 w70 F72 S71 le73 R74
     obtain ⟨_, rfl, r78⟩ := R74
     obtain ⟨a76, c77, rfl, _⟩ := Sl.shape r78
     simp only [pS, pN, pA, pC, pZ]
     refine do_ rfl (.tuple #[(.slice a76 ([] : List Pr).length c77), (.int .i64 (checkN r.key.length))]) (ex_move _) ?_
     simp only [pS, pN, pA, pC, pZ]
     refine do_ rfl (.slice a76 ([] : List Pr).length c77) (ex_extract rfl rfl) ?_
     simp only [pS, pN, pA, pC, pZ]
     refine do_ rfl (.int .i64 (checkN r.key.length)) (ex_extract rfl rfl) ?_
     simp only [pS, pN, pA, pC, pZ]
     refine do_ rfl (.slice a76 ([] : List Pr).length c77) (ex_assign _) ?_
     simp only [pS, pN, pA, pC, pZ]
     refine do_ rfl (.int .i64 (checkN r.key.length)) (ex_assign _) ?_
     simp only [pS, pN, pA, pC, pZ]
     refine wl_nil (hK23 _ _ ?_)
     refine wp_seq_k (fun K79 hK79 => region_wl ?_)
     refine do_ rfl (.int .i64 (checkN r.key.length)) (ex_move _) ?_
     simp only [pS, pN, pA, pC, pZ]
     refine do_ rfl (.bool false) (ex_eql (m := (checkN r.key.length)) (n := (0 : Int)) (b := false) rfl rfl (beq_eq_false_iff_ne.2 (hk))) ?_
     simp only [pS, pN, pA, pC, pZ]
     refine do_ rfl (.bool false) (ex_move _) ?_
     simp only [pS, pN, pA, pC, pZ]
     refine doN (wanted_no rfl rfl rfl (c := false) rfl (by decide)) ?_
     simp only [pS, pN, pA, pC, pZ]
     refine doN (wanted_no rfl rfl rfl (c := false) rfl (by decide)) ?_
     simp only [pS, pN, pA, pC, pZ]
     refine doN (wanted_no rfl rfl rfl (c := false) rfl (by decide)) ?_
     simp only [pS, pN, pA, pC, pZ]
     refine doN (wanted_no rfl rfl rfl (c := false) rfl (by decide)) ?_
     simp only [pS, pN, pA, pC, pZ]
     refine do_ rfl (.bool false) (ex_pick (b := false) rfl) ?_
     simp only [pS, pN, pA, pC, pZ]
     refine wl_nil (hK79 _ _ ?_)
     refine wp_cond_false rfl ?_
     refine wp_skip ?_
     refine hK21 _ _ ?_
     refine wp_seq_k (fun K80 hK80 => ?_)
     refine wp_block ?_
     refine wp_seq_k (fun K81 hK81 => region_wl ?_)
     refine do_ rfl (.int .i64 (checkN r.key.length)) (ex_move _) ?_
     simp only [pS, pN, pA, pC, pZ]
     refine do_ rfl (.bool true) (ex_neq (m := (checkN r.key.length)) (n := (0 : Int)) (b := true) rfl rfl (bne_iff_ne.2 (hk))) ?_
     simp only [pS, pN, pA, pC, pZ]
     refine do_ rfl (.bool true) (ex_assign _) ?_
     simp only [pS, pN, pA, pC, pZ]
     refine wl_nil (hK81 _ _ ?_)
     refine wp_cond_true rfl ?_
     refine wp_seq_k (fun K82 hK82 => region_wl ?_)
     refine do_ rfl (.int .i64 (checkN r.key.length)) (ex_move _) ?_
     simp only [pS, pN, pA, pC, pZ]
     refine do_ rfl (.slice none 0 0) (ex_assign _) ?_
     simp only [pS, pN, pA, pC, pZ]
     refine do_ rfl (.int .i64 (checkN r.key.length)) (ex_assign _) ?_
     simp only [pS, pN, pA, pC, pZ]
     refine wl_nil (hK82 _ _ ?_)
     refine wp_ret ?_
     (try simp only [Exit.then, Exit.inBlock, ↓reduceIte, Nat.reduceEqDiff])
     refine bodyPost_ret (v := (.tuple #[(.slice none 0 0), (.int .i64 (checkN r.key.length))])) ?_ rfl ?_
     ·exact res_tt rfl rfl rfl
     ·skip
      have hwe : wrE r = checkN r.key.length := by unfold wrE; rw [if_neg (by omega), if_pos hgone, if_pos hk]
      have hne : wrE r ≠ 0 := by rw [hwe]; exact hk
      have S83 := St.drop S71 (L' := L0) (.cons _ (List.Sublist.refl _))
      rw [wr_bad hne]
      refine ⟨_, by rw [hwe], _, le73, .inr ⟨hne, rfl, St.dropRow S83 (.cons _ (.refl _))⟩⟩
   ·by_cases hp : pairE (r.key, r.value) = 0
    ·by_cases h60 : 60 < (putT ([] : List Pr) r.key r.value).length
     ·refine region_wl ?_
      refine do_ rfl (.slice none 0 0) (ex_move _) ?_
      simp only [pS, pN, pA, pC, pZ]
      refine do_ rfl (.pointer (some ⟨n2, 1, none⟩)) (ex_field (q := ⟨n2, 1, none⟩) rfl (fa_27_1 _ _)) ?_
      simp only [pS, pN, pA, pC, pZ]
      refine do_ rfl (.slice x1 r.key.length y1) (ex_load rfl (load1 (nagg_25 _) (St.cell S16 (i := 0) rfl rfl))) ?_
      simp only [pS, pN, pA, pC, pZ]
      refine do_ rfl (.pointer (some ⟨n2, 3, none⟩)) (ex_field (q := ⟨n2, 3, none⟩) rfl (fa_27_3 _ _)) ?_
      simp only [pS, pN, pA, pC, pZ]
      refine do_ rfl (.slice x3 r.value.length y3) (ex_load rfl (load1 (nagg_25 _) (St.cell S16 (i := 0) rfl rfl))) ?_
      simp only [pS, pN, pA, pC, pZ]
      refine do_ rfl (.agg #[(.slice x1 r.key.length y1), (.slice x3 r.value.length y3)]) (ex_build (ps := #[(0, (.slice x1 r.key.length y1)), (1, (.slice x3 r.value.length y3))]) (bmap2 rfl rfl) (by kernel_rfl)) ?_
      simp only [pS, pN, pA, pC, pZ]
      refine stGives S16 rfl (ex_fn (vs := #[(.slice none 0 0), (.agg #[(.slice x1 r.key.length y1), (.slice x3 r.value.length y3)])]) (map2 rfl rfl) rfl (ent_8 _ _)) (putFull_spec _ _ _ _ ([] : List Pr) (r.key, r.value) (S16).sat (Sl.nil _ _ _) ⟨_, _, _, _, rfl, h1, h3⟩ (TreeOk.nil 60) hb1 hb2 hp h60) ?_
      intro v90 w85 F87 S86 le88 R89
      obtain ⟨_, rfl, r93⟩ := R89
      obtain ⟨a91, c92, rfl, h94, h95⟩ := Sl.shape r93
      unfold maxLen at h95
      simp only [pS, pN, pA, pC, pZ]
      refine do_ rfl (.tuple #[(.slice a91 ([] : List Pr).length c92), (.int .i64 11)]) (ex_move _) ?_
      simp only [pS, pN, pA, pC, pZ]
      refine do_ rfl (.slice a91 ([] : List Pr).length c92) (ex_extract rfl rfl) ?_
      simp only [pS, pN, pA, pC, pZ]
      refine do_ rfl (.int .i64 11) (ex_extract rfl rfl) ?_
      simp only [pS, pN, pA, pC, pZ]
      refine do_ rfl (.slice a91 ([] : List Pr).length c92) (ex_assign _) ?_
      simp only [pS, pN, pA, pC, pZ]
      refine do_ rfl (.int .i64 11) (ex_assign _) ?_
      simp only [pS, pN, pA, pC, pZ]
      refine wl_nil (hK21 _ _ ?_)
      refine wp_seq_k (fun K96 hK96 => ?_)
      refine wp_block ?_
      refine wp_seq_k (fun K97 hK97 => region_wl ?_)
      refine do_ rfl (.int .i64 11) (ex_move _) ?_
      simp only [pS, pN, pA, pC, pZ]
      refine do_ rfl (.bool true) (ex_neq (b := true) rfl rfl (by decide)) ?_
      simp only [pS, pN, pA, pC, pZ]
      refine do_ rfl (.bool true) (ex_assign _) ?_
      simp only [pS, pN, pA, pC, pZ]
      refine wl_nil (hK97 _ _ ?_)
      refine wp_cond_true rfl ?_
      refine wp_seq_k (fun K98 hK98 => region_wl ?_)
      refine do_ rfl (.int .i64 11) (ex_move _) ?_
      simp only [pS, pN, pA, pC, pZ]
      refine do_ rfl (.slice none 0 0) (ex_assign _) ?_
      simp only [pS, pN, pA, pC, pZ]
      refine do_ rfl (.int .i64 11) (ex_assign _) ?_
      simp only [pS, pN, pA, pC, pZ]
      refine wl_nil (hK98 _ _ ?_)
      refine wp_ret ?_
      (try simp only [Exit.then, Exit.inBlock, ↓reduceIte, Nat.reduceEqDiff])
      refine bodyPost_ret (v := (.tuple #[(.slice none 0 0), (.int .i64 11)])) ?_ rfl ?_
      ·exact res_tt rfl rfl rfl
      ·skip
       have hw0 : wrE r = 0 := by unfold wrE; rw [if_neg (by omega), if_neg (by rw [hgone]; simp)]; exact hp
       have hwf := writeF_is hO (next_put hgone)
       rw [if_pos ⟨hgone, h60⟩] at hwf
       have S99 := St.drop S86 (L' := L0) (.cons _ (List.Sublist.refl _))
       rw [wr_none hw0 hwf]
       refine ⟨_, rfl, _, le88, .inr ⟨(by decide : (11 : Int) ≠ 0), rfl, St.dropRow S99 (.cons _ (.refl _))⟩⟩
     ·refine region_wl ?_
      refine do_ rfl (.slice none 0 0) (ex_move _) ?_
      simp only [pS, pN, pA, pC, pZ]
      refine do_ rfl (.pointer (some ⟨n2, 1, none⟩)) (ex_field (q := ⟨n2, 1, none⟩) rfl (fa_27_1 _ _)) ?_
      simp only [pS, pN, pA, pC, pZ]
      refine do_ rfl (.slice x1 r.key.length y1) (ex_load rfl (load1 (nagg_25 _) (St.cell S16 (i := 0) rfl rfl))) ?_
      simp only [pS, pN, pA, pC, pZ]
      refine do_ rfl (.pointer (some ⟨n2, 3, none⟩)) (ex_field (q := ⟨n2, 3, none⟩) rfl (fa_27_3 _ _)) ?_
      simp only [pS, pN, pA, pC, pZ]
      refine do_ rfl (.slice x3 r.value.length y3) (ex_load rfl (load1 (nagg_25 _) (St.cell S16 (i := 0) rfl rfl))) ?_
      simp only [pS, pN, pA, pC, pZ]
      refine do_ rfl (.agg #[(.slice x1 r.key.length y1), (.slice x3 r.value.length y3)]) (ex_build (ps := #[(0, (.slice x1 r.key.length y1)), (1, (.slice x3 r.value.length y3))]) (bmap2 rfl rfl) (by kernel_rfl)) ?_
      simp only [pS, pN, pA, pC, pZ]
      refine stGives S16 rfl (ex_fn (vs := #[(.slice none 0 0), (.agg #[(.slice x1 r.key.length y1), (.slice x3 r.value.length y3)])]) (map2 rfl rfl) rfl (ent_8 _ _)) (putFit_spec _ _ _ _ ([] : List Pr) (r.key, r.value) (S16).sat (Sl.nil _ _ _) ⟨_, _, _, _, rfl, h1, h3⟩ (TreeOk.nil 60) hb1 hb2 hp h60) ?_
      intro v106 w101 F103 S102 le104 R105
      obtain ⟨_, rfl, r109⟩ := R105
      obtain ⟨a107, c108, rfl, h110, h111⟩ := Sl.shape r109
      unfold maxLen at h111
      have h110 : (putT ([] : List Pr) r.key r.value).length ≤ c108 := h110
      have r109 : Prs _ (.slice a107 (putT ([] : List Pr) r.key r.value).length c108) (putT ([] : List Pr) r.key r.value) := r109
      simp only [pS, pN, pA, pC, pZ]
      refine do_ rfl (.tuple #[(.slice a107 (putT ([] : List Pr) r.key r.value).length c108), (.int .i64 0)]) (ex_move _) ?_
      simp only [pS, pN, pA, pC, pZ]
      refine do_ rfl (.slice a107 (putT ([] : List Pr) r.key r.value).length c108) (ex_extract rfl rfl) ?_
      simp only [pS, pN, pA, pC, pZ]
      refine do_ rfl (.int .i64 0) (ex_extract rfl rfl) ?_
      simp only [pS, pN, pA, pC, pZ]
      refine do_ rfl (.slice a107 (putT ([] : List Pr) r.key r.value).length c108) (ex_assign _) ?_
      simp only [pS, pN, pA, pC, pZ]
      refine do_ rfl (.int .i64 0) (ex_assign _) ?_
      simp only [pS, pN, pA, pC, pZ]
      refine wl_nil (hK21 _ _ ?_)
      refine wp_seq_k (fun K112 hK112 => ?_)
      refine wp_block ?_
      refine wp_seq_k (fun K113 hK113 => region_wl ?_)
      refine do_ rfl (.int .i64 0) (ex_move _) ?_
      simp only [pS, pN, pA, pC, pZ]
      refine do_ rfl (.bool false) (ex_neq (b := false) rfl rfl (by decide)) ?_
      simp only [pS, pN, pA, pC, pZ]
      refine do_ rfl (.bool false) (ex_assign _) ?_
      simp only [pS, pN, pA, pC, pZ]
      refine wl_nil (hK113 _ _ ?_)
      refine wp_cond_false rfl ?_
      refine wp_seq_k (fun K114 hK114 => region_wl ?_)
      refine do_ rfl (.bool false) (ex_move _) ?_
      simp only [pS, pN, pA, pC, pZ]
      refine do_ rfl (.bool false) (ex_move _) ?_
      simp only [pS, pN, pA, pC, pZ]
      refine doN (wanted_no rfl rfl rfl (c := false) rfl (by decide)) ?_
      simp only [pS, pN, pA, pC, pZ]
      refine doN (wanted_no rfl rfl rfl (c := false) rfl (by decide)) ?_
      simp only [pS, pN, pA, pC, pZ]
      refine doN (wanted_no rfl rfl rfl (c := false) rfl (by decide)) ?_
      simp only [pS, pN, pA, pC, pZ]
      refine do_ rfl (.bool false) (ex_pick (b := false) rfl) ?_
      simp only [pS, pN, pA, pC, pZ]
      refine do_ rfl (.bool false) (ex_assign _) ?_
      simp only [pS, pN, pA, pC, pZ]
      refine wl_nil (hK114 _ _ ?_)
      refine wp_cond_false rfl ?_
      refine wp_seq_k (fun K115 hK115 => region_wl ?_)
      refine do_ rfl (.bool false) (ex_move _) ?_
      simp only [pS, pN, pA, pC, pZ]
      refine do_ rfl (.bool false) (ex_assign _) ?_
      simp only [pS, pN, pA, pC, pZ]
      refine wl_nil (hK115 _ _ ?_)
      refine wp_cond_false rfl ?_
      refine wp_seq_k (fun K116 hK116 => region_wl ?_)
      refine do_ rfl (.slice a107 (putT ([] : List Pr) r.key r.value).length c108) (ex_move _) ?_
      simp only [pS, pN, pA, pC, pZ]
      refine do_ rfl (.int .i64 (((putT ([] : List Pr) r.key r.value).length : Nat) : Int)) (ex_len Try.underlying23 rfl) ?_
      simp only [pS, pN, pA, pC, pZ]
      by_cases hc85 : (putT ([] : List Pr) r.key r.value).length = 0
      ·refine do_ rfl (.bool true) (ex_eql (m := (((putT ([] : List Pr) r.key r.value).length : Nat) : Int)) (n := (0 : Int)) (b := true) rfl rfl (beq_iff_eq.2 (by omega))) ?_
       simp only [pS, pN, pA, pC, pZ]
       refine do_ rfl (.bool true) (ex_assign _) ?_
       simp only [pS, pN, pA, pC, pZ]
       refine wl_nil (hK116 _ _ ?_)
       refine wp_cond_true rfl ?_
       refine wp_seq_k (fun K117 hK117 => region_wl ?_)
       refine do_ rfl (.slice a l.length c) (ex_move _) ?_
       simp only [pS, pN, pA, pC, pZ]
       refine do_ rfl (.slice a l.length c) (ex_assign _) ?_
       simp only [pS, pN, pA, pC, pZ]
       refine do_ rfl (.int .i64 0) (ex_assign _) ?_
       simp only [pS, pN, pA, pC, pZ]
       refine wl_nil (hK117 _ _ ?_)
       refine wp_ret ?_
       (try simp only [Exit.then, Exit.inBlock, ↓reduceIte, Nat.reduceEqDiff])
       refine bodyPost_ret (v := (.tuple #[(.slice a l.length c), (.int .i64 0)])) ?_ rfl ?_
       ·exact res_tt rfl rfl rfl
       ·skip
        have hw0 : wrE r = 0 := by unfold wrE; rw [if_neg (by omega), if_neg (by rw [hgone]; simp)]; exact hp
        have hwf := writeF_is hO (next_put hgone)
        rw [if_neg (fun h => h60 h.2)] at hwf
        rw [if_pos (nil_len hc85), delF_not hh] at hwf
        have S118 := St.drop S102 (L' := L0) (.cons _ (List.Sublist.refl _))
        rw [wr_some hw0 hwf]
        exact ⟨_, rfl, _, le104, .inl ⟨rfl, S118⟩⟩
      ·refine do_ rfl (.bool false) (ex_eql (m := (((putT ([] : List Pr) r.key r.value).length : Nat) : Int)) (n := (0 : Int)) (b := false) rfl rfl (beq_eq_false_iff_ne.2 (by omega))) ?_
       simp only [pS, pN, pA, pC, pZ]
       refine do_ rfl (.bool false) (ex_assign _) ?_
       simp only [pS, pN, pA, pC, pZ]
       refine wl_nil (hK116 _ _ ?_)
       refine wp_cond_false rfl ?_
       refine wp_seq_k (fun K120 hK120 => region_wl ?_)
       refine do_ rfl (.slice a l.length c) (ex_move _) ?_
       simp only [pS, pN, pA, pC, pZ]
       refine do_ rfl (.int .i64 ((l.length : Nat) : Int)) (ex_len Try.underlying52 rfl) ?_
       simp only [pS, pN, pA, pC, pZ]
       by_cases hc90 : l.length = 8
       ·refine do_ rfl (.bool true) (ex_eql (m := ((l.length : Nat) : Int)) (n := (8 : Int)) (b := true) rfl rfl (beq_iff_eq.2 (by omega))) ?_
        simp only [pS, pN, pA, pC, pZ]
        refine do_ rfl (.bool true) (ex_assign _) ?_
        simp only [pS, pN, pA, pC, pZ]
        refine wl_nil (hK120 _ _ ?_)
        refine wp_cond_true rfl ?_
        refine wp_seq_k (fun K121 hK121 => region_wl ?_)
        refine do_ rfl (.slice none 0 0) (ex_assign _) ?_
        simp only [pS, pN, pA, pC, pZ]
        refine do_ rfl (.int .i64 11) (ex_assign _) ?_
        simp only [pS, pN, pA, pC, pZ]
        refine wl_nil (hK121 _ _ ?_)
        refine wp_ret ?_
        (try simp only [Exit.then, Exit.inBlock, ↓reduceIte, Nat.reduceEqDiff])
        refine bodyPost_ret (v := (.tuple #[(.slice none 0 0), (.int .i64 11)])) ?_ rfl ?_
        ·exact res_tt rfl rfl rfl
        ·skip
         have hw0 : wrE r = 0 := by unfold wrE; rw [if_neg (by omega), if_neg (by rw [hgone]; simp)]; exact hp
         have hwf := writeF_is hO (next_put hgone)
         rw [if_neg (fun h => h60 h.2)] at hwf
         rw [if_neg (not_nil hc85), if_pos (by rw [len_putT, if_neg (by rw [hh]; simp)]; omega)] at hwf
         have S122 := St.drop S102 (L' := L0) (.cons _ (List.Sublist.refl _))
         rw [wr_none hw0 hwf]
         refine ⟨_, rfl, _, le104, .inr ⟨(by decide : (11 : Int) ≠ 0), rfl, St.dropRow S122 (.cons _ (.refl _))⟩⟩
       ·refine do_ rfl (.bool false) (ex_eql (m := ((l.length : Nat) : Int)) (n := (8 : Int)) (b := false) rfl rfl (beq_eq_false_iff_ne.2 (by omega))) ?_
        simp only [pS, pN, pA, pC, pZ]
        refine do_ rfl (.bool false) (ex_assign _) ?_
        simp only [pS, pN, pA, pC, pZ]
        refine wl_nil (hK120 _ _ ?_)
        refine wp_cond_false rfl ?_
        refine wp_skip ?_
        refine hK112 _ _ ?_
        refine wp_seq_k (fun K124 hK124 => region_wl ?_)
        refine do_ rfl (.slice a l.length c) (ex_move _) ?_
        simp only [pS, pN, pA, pC, pZ]
        refine do_ rfl (.int .i64 (((posT l r.name) : Nat) : Int)) (ex_move _) ?_
        simp only [pS, pN, pA, pC, pZ]
        refine do_ rfl (.pointer (some ⟨n2, 0, none⟩)) (ex_field (q := ⟨n2, 0, none⟩) rfl (fa_27_0 _ _)) ?_
        simp only [pS, pN, pA, pC, pZ]
        refine do_ rfl (.slice x0 r.name.length y0) (ex_load rfl (load1 (nagg_25 _) (St.cell S102 (i := 0) rfl rfl))) ?_
        simp only [pS, pN, pA, pC, pZ]
        refine stGives S102 rfl (ex_fn (vs := #[(.slice x0 r.name.length y0)]) (map1 rfl) rfl (ent_30 _ _)) (clone_spec _ _ _ r.name (S102).sat (h0.mono le104) (by omega)) ?_
        intro v130 w125 F127 S126 le128 R129
        obtain ⟨xa131, xc132, rfl, _⟩ := R129.shape
        simp only [pS, pN, pA, pC, pZ]
        refine do_ rfl (.slice a107 (putT ([] : List Pr) r.key r.value).length c108) (ex_move _) ?_
        simp only [pS, pN, pA, pC, pZ]
        refine do_ rfl (.agg #[(.slice xa131 r.name.length xc132), (.slice a107 (putT ([] : List Pr) r.key r.value).length c108)]) (ex_build (ps := #[(0, (.slice xa131 r.name.length xc132)), (1, (.slice a107 (putT ([] : List Pr) r.key r.value).length c108))]) (bmap2 rfl rfl) (by kernel_rfl)) ?_
        simp only [pS, pN, pA, pC, pZ]
        refine stNew S126 (v := fun n => .slice (some ⟨n, 0, none⟩) 1 1) rfl (ex_lit (ps := #[(0, (.agg #[(.slice xa131 r.name.length xc132), (.slice a107 (putT ([] : List Pr) r.key r.value).length c108)]))]) (cells := #[(.slice xa131 r.name.length xc132), (.slice a107 (putT ([] : List Pr) r.key r.value).length c108)]) (E := 80) (bmap1 rfl) (fun w => by kernel_rfl)) (fun n133 w134 S135 => ?_)
        simp only [pS, pN, pA, pC, pZ]
        have S135 : St w0 F0 w134 F127 (⟨n133, [(.slice xa131 r.name.length xc132), (.slice a107 (putT ([] : List Pr) r.key r.value).length c108)], 80⟩ :: ⟨n2, [(.slice x0 r.name.length y0), (.slice x1 r.key.length y1), (.bool r.gone), (.slice x3 r.value.length y3)], 27⟩ :: L0) (ownP 2 TnC TnC.mono 80 w0.heap.size (.slice a l.length c) l :: M0) := S135
        refine stOwn (L := (⟨n2, [(.slice x0 r.name.length y0), (.slice x1 r.key.length y1), (.bool r.gone), (.slice x3 r.value.length y3)], 27⟩ :: L0)) (M := fun v_ => (ownP 2 TnC TnC.mono 80 w0.heap.size v_ (l.take (posT l r.name) ++ (r.name, (putT ([] : List Pr) r.key r.value)) :: l.drop (posT l r.name)) :: M0)) rfl (ex_fn (vs := #[(.slice a l.length c), (.int .i64 (((posT l r.name) : Nat) : Int)), (.slice (some ⟨n133, 0, none⟩) 1 1)]) (map3 rfl rfl rfl) rfl (ent_54 _ _)) (insertTenant (p := (r.name, (putT ([] : List Pr) r.key r.value))) TnC.one S135 rfl ⟨_, _, rfl, R129, (r109.mono le128)⟩ (by omega) hpl) ?_
        intro v136 w137 S138
        simp only [pS, pN, pA, pC, pZ]
        have S138 : St w0 F0 w137 F127 (⟨n2, [(.slice x0 r.name.length y0), (.slice x1 r.key.length y1), (.bool r.gone), (.slice x3 r.value.length y3)], 27⟩ :: L0) (ownP 2 TnC TnC.mono 80 w0.heap.size v136 (l.take (posT l r.name) ++ (r.name, (putT ([] : List Pr) r.key r.value)) :: l.drop (posT l r.name)) :: M0) := S138
        refine do_ rfl v136 (ex_assign _) ?_
        simp only [pS, pN, pA, pC, pZ]
        refine do_ rfl (.int .i64 0) (ex_assign _) ?_
        simp only [pS, pN, pA, pC, pZ]
        refine wl_nil (hK124 _ _ ?_)
        refine wp_ret ?_
        (try simp only [Exit.then, Exit.inBlock, ↓reduceIte, Nat.reduceEqDiff])
        refine bodyPost_ret (v := (.tuple #[v136, (.int .i64 0)])) ?_ rfl ?_
        ·exact res_tt rfl rfl rfl
        ·skip
         have hw0 : wrE r = 0 := by unfold wrE; rw [if_neg (by omega), if_neg (by rw [hgone]; simp)]; exact hp
         have hwf := writeF_is hO (next_put hgone)
         rw [if_neg (fun h => h60 h.2)] at hwf
         rw [if_neg (not_nil hc85), if_neg (by rw [len_putT, if_neg (by rw [hh]; simp)]; omega), putF_new hh] at hwf
         have S139 := St.drop S138 (L' := L0) (.cons _ (List.Sublist.refl _))
         rw [wr_some hw0 hwf]
         exact ⟨_, rfl, _, (le104.trans le128), .inl ⟨rfl, S139⟩⟩
    ·refine region_wl ?_
     refine do_ rfl (.slice none 0 0) (ex_move _) ?_
     simp only [pS, pN, pA, pC, pZ]
     refine do_ rfl (.pointer (some ⟨n2, 1, none⟩)) (ex_field (q := ⟨n2, 1, none⟩) rfl (fa_27_1 _ _)) ?_
     simp only [pS, pN, pA, pC, pZ]
     refine do_ rfl (.slice x1 r.key.length y1) (ex_load rfl (load1 (nagg_25 _) (St.cell S16 (i := 0) rfl rfl))) ?_
     simp only [pS, pN, pA, pC, pZ]
     refine do_ rfl (.pointer (some ⟨n2, 3, none⟩)) (ex_field (q := ⟨n2, 3, none⟩) rfl (fa_27_3 _ _)) ?_
     simp only [pS, pN, pA, pC, pZ]
     refine do_ rfl (.slice x3 r.value.length y3) (ex_load rfl (load1 (nagg_25 _) (St.cell S16 (i := 0) rfl rfl))) ?_
     simp only [pS, pN, pA, pC, pZ]
     refine do_ rfl (.agg #[(.slice x1 r.key.length y1), (.slice x3 r.value.length y3)]) (ex_build (ps := #[(0, (.slice x1 r.key.length y1)), (1, (.slice x3 r.value.length y3))]) (bmap2 rfl rfl) (by kernel_rfl)) ?_
     simp only [pS, pN, pA, pC, pZ]
     refine stGives S16 rfl (ex_fn (vs := #[(.slice none 0 0), (.agg #[(.slice x1 r.key.length y1), (.slice x3 r.value.length y3)])]) (map2 rfl rfl) rfl (ent_8 _ _)) (putBad_spec _ _ _ _ ([] : List Pr) (r.key, r.value) (S16).sat (Sl.nil _ _ _) ⟨_, _, _, _, rfl, h1, h3⟩ (TreeOk.nil 60) hb1 hb2 hp) ?_
     intro v146 w141 F143 S142 le144 R145
     obtain ⟨_, rfl, r149⟩ := R145
     obtain ⟨a147, c148, rfl, _⟩ := Sl.shape r149
     simp only [pS, pN, pA, pC, pZ]
     refine do_ rfl (.tuple #[(.slice a147 ([] : List Pr).length c148), (.int .i64 (pairE (r.key, r.value)))]) (ex_move _) ?_
     simp only [pS, pN, pA, pC, pZ]
     refine do_ rfl (.slice a147 ([] : List Pr).length c148) (ex_extract rfl rfl) ?_
     simp only [pS, pN, pA, pC, pZ]
     refine do_ rfl (.int .i64 (pairE (r.key, r.value))) (ex_extract rfl rfl) ?_
     simp only [pS, pN, pA, pC, pZ]
     refine do_ rfl (.slice a147 ([] : List Pr).length c148) (ex_assign _) ?_
     simp only [pS, pN, pA, pC, pZ]
     refine do_ rfl (.int .i64 (pairE (r.key, r.value))) (ex_assign _) ?_
     simp only [pS, pN, pA, pC, pZ]
     refine wl_nil (hK21 _ _ ?_)
     refine wp_seq_k (fun K150 hK150 => ?_)
     refine wp_block ?_
     refine wp_seq_k (fun K151 hK151 => region_wl ?_)
     refine do_ rfl (.int .i64 (pairE (r.key, r.value))) (ex_move _) ?_
     simp only [pS, pN, pA, pC, pZ]
     refine do_ rfl (.bool true) (ex_neq (m := (pairE (r.key, r.value))) (n := (0 : Int)) (b := true) rfl rfl (bne_iff_ne.2 (hp))) ?_
     simp only [pS, pN, pA, pC, pZ]
     refine do_ rfl (.bool true) (ex_assign _) ?_
     simp only [pS, pN, pA, pC, pZ]
     refine wl_nil (hK151 _ _ ?_)
     refine wp_cond_true rfl ?_
     refine wp_seq_k (fun K152 hK152 => region_wl ?_)
     refine do_ rfl (.int .i64 (pairE (r.key, r.value))) (ex_move _) ?_
     simp only [pS, pN, pA, pC, pZ]
     refine do_ rfl (.slice none 0 0) (ex_assign _) ?_
     simp only [pS, pN, pA, pC, pZ]
     refine do_ rfl (.int .i64 (pairE (r.key, r.value))) (ex_assign _) ?_
     simp only [pS, pN, pA, pC, pZ]
     refine wl_nil (hK152 _ _ ?_)
     refine wp_ret ?_
     (try simp only [Exit.then, Exit.inBlock, ↓reduceIte, Nat.reduceEqDiff])
     refine bodyPost_ret (v := (.tuple #[(.slice none 0 0), (.int .i64 (pairE (r.key, r.value)))])) ?_ rfl ?_
     ·exact res_tt rfl rfl rfl
     ·skip
      have hwe : wrE r = pairE (r.key, r.value) := by unfold wrE; rw [if_neg (by omega), if_neg (by rw [hgone]; simp)]
      have hne : wrE r ≠ 0 := by rw [hwe]; exact hp
      have S153 := St.drop S142 (L' := L0) (.cons _ (List.Sublist.refl _))
      rw [wr_bad hne]
      refine ⟨_, by rw [hwe], _, le144, .inr ⟨hne, rfl, St.dropRow S153 (.cons _ (.refl _))⟩⟩
  | true =>
   have hpos := hasF_pos ok.rise hh
   obtain ⟨t, ht⟩ : ∃ t, l[posT l r.name]? = some t := ⟨l[posT l r.name], List.getElem?_eq_getElem hpos⟩
   have hO := treeF_has ok.rise hh ht
   have htn : t.1 = r.name := by obtain ⟨_, h2⟩ := (hasBy_at ok.rise).1 hh; obtain ⟨_, rfl⟩ := List.getElem?_eq_some_iff.1 ht; exact h2
   obtain ⟨g155, rfl⟩ := Own.addr0 (S8.own (i := 0) rfl) (by omega)
   refine region_wl ?_
   refine do_ rfl (.slice (some ⟨g155, 0, none⟩) l.length c) (ex_move _) ?_
   simp only [pS, pN, pA, pC, pZ]
   refine do_ rfl (.pointer (some ⟨n2, 0, none⟩)) (ex_field (q := ⟨n2, 0, none⟩) rfl (fa_27_0 _ _)) ?_
   simp only [pS, pN, pA, pC, pZ]
   refine do_ rfl (.slice x0 r.name.length y0) (ex_load rfl (load1 (nagg_25 _) (St.cell S8 (i := 0) rfl rfl))) ?_
   simp only [pS, pN, pA, pC, pZ]
   obtain ⟨F156, hs157, le158, hsl159⟩ := own_peek S8 (i := 0) rfl
   refine stTells (v := (.tuple #[(.int .i64 (((posT l r.name) : Nat) : Int)), (.bool true)])) S8 rfl (ex_fn (vs := #[(.slice (some ⟨g155, 0, none⟩) l.length c), (.slice x0 r.name.length y0)]) (map2 rfl rfl) rfl (ent_52 _ _)) (find_is hs157 hsl159 (h0.mono le158) ok.rise (by omega) hh) (fun w160 S161 => ?_)
   simp only [pS, pN, pA, pC, pZ]
   refine do_ rfl (.tuple #[(.int .i64 (((posT l r.name) : Nat) : Int)), (.bool true)]) (ex_move _) ?_
   simp only [pS, pN, pA, pC, pZ]
   refine do_ rfl (.int .i64 (((posT l r.name) : Nat) : Int)) (ex_extract rfl rfl) ?_
   simp only [pS, pN, pA, pC, pZ]
   refine do_ rfl (.bool true) (ex_extract rfl rfl) ?_
   simp only [pS, pN, pA, pC, pZ]
   refine do_ rfl (.int .i64 (((posT l r.name) : Nat) : Int)) (ex_assign _) ?_
   simp only [pS, pN, pA, pC, pZ]
   refine do_ rfl (.bool true) (ex_assign _) ?_
   simp only [pS, pN, pA, pC, pZ]
   refine wl_nil (hK10 _ _ ?_)
   refine wp_seq_k (fun K162 hK162 => region_wl ?_)
   refine do_ rfl (.slice none 0 0) (ex_assign _) ?_
   simp only [pS, pN, pA, pC, pZ]
   refine do_ rfl (.slice none 0 0) (ex_assign _) ?_
   simp only [pS, pN, pA, pC, pZ]
   refine wl_nil (hK162 _ _ ?_)
   refine wp_seq_k (fun K163 hK163 => ?_)
   refine wp_seq_k (fun K164 hK164 => region_wl ?_)
   refine do_ rfl (.bool true) (ex_move _) ?_
   simp only [pS, pN, pA, pC, pZ]
   refine wl_nil (hK164 _ _ ?_)
   refine wp_cond_true rfl ?_
   obtain ⟨g165, ha166, xa168, xc169, xa172, xc173, c167, c171, r170, r174⟩ := tn_at (S161.own (i := 0) rfl) ht
   injection ha166 with ha166; injection ha166 with ha166; subst ha166
   refine region_wl ?_
   refine do_ rfl (.slice (some ⟨g155, 0, none⟩) l.length c) (ex_move _) ?_
   simp only [pS, pN, pA, pC, pZ]
   refine do_ rfl (.int .i64 (((posT l r.name) : Nat) : Int)) (ex_move _) ?_
   simp only [pS, pN, pA, pC, pZ]
   refine do_ rfl (.pointer (some ⟨g155, 0 + (posT l r.name) * 2, none⟩)) (ex_at (i := (posT l r.name)) (sz := 2) Try.underlying52 (sizeof_80 _) rfl rfl rfl (hpos) rfl) ?_
   simp only [pS, pN, pA, pC, pZ]
   refine do_ rfl (.pointer (some ⟨g155, 0 + (posT l r.name) * 2 + 1, none⟩)) (ex_field (q := ⟨g155, 0 + (posT l r.name) * 2 + 1, none⟩) rfl (fa_80_1 _ _)) ?_
   simp only [pS, pN, pA, pC, pZ]
   refine do_ rfl (.slice xa172 t.2.length xc173) (ex_load rfl (load1 (nagg_23 _) c171)) ?_
   simp only [pS, pN, pA, pC, pZ]
   refine do_ rfl (.slice xa172 t.2.length xc173) (ex_assign _) ?_
   simp only [pS, pN, pA, pC, pZ]
   refine wl_nil (hK163 _ _ ?_)
   refine wp_seq_k (fun K175 hK175 => region_wl ?_)
   refine do_ rfl (.int .i64 0) (ex_assign _) ?_
   simp only [pS, pN, pA, pC, pZ]
   refine wl_nil (hK175 _ _ ?_)
   refine wp_seq_k (fun K176 hK176 => ?_)
   refine wp_seq_k (fun K177 hK177 => region_wl ?_)
   refine do_ rfl (.pointer (some ⟨n2, 2, none⟩)) (ex_field (q := ⟨n2, 2, none⟩) rfl (fa_27_2 _ _)) ?_
   simp only [pS, pN, pA, pC, pZ]
   refine do_ rfl (.bool r.gone) (ex_load rfl (load1 (nagg_4 _) (St.cell S161 (i := 0) rfl rfl))) ?_
   simp only [pS, pN, pA, pC, pZ]
   refine wl_nil (hK177 _ _ ?_)
   refine wp_cond_split rfl (fun hgone => ?_) (fun hgone => ?_)
   ·refine wp_seq_k (fun K178 hK178 => ?_)
    by_cases hk : checkN r.key.length = 0
    ·refine region_wl ?_
     refine do_ rfl (.slice xa172 t.2.length xc173) (ex_move _) ?_
     simp only [pS, pN, pA, pC, pZ]
     refine do_ rfl (.pointer (some ⟨n2, 1, none⟩)) (ex_field (q := ⟨n2, 1, none⟩) rfl (fa_27_1 _ _)) ?_
     simp only [pS, pN, pA, pC, pZ]
     refine do_ rfl (.slice x1 r.key.length y1) (ex_load rfl (load1 (nagg_25 _) (St.cell S161 (i := 0) rfl rfl))) ?_
     simp only [pS, pN, pA, pC, pZ]
     refine stGives S161 rfl (ex_fn (vs := #[(.slice xa172 t.2.length xc173), (.slice x1 r.key.length y1)]) (map2 rfl rfl) rfl (ent_7 _ _)) (delOk_spec _ _ _ _ t.2 r.key (S161).sat r174 h1 (show TreeOk 60 t.2 from ok.tree t (List.mem_of_getElem? ht)) (checkN_zero.1 hk)) ?_
     intro v184 w179 F181 S180 le182 R183
     obtain ⟨_, rfl, r187⟩ := R183
     obtain ⟨a185, c186, rfl, h188, h189⟩ := Sl.shape r187
     unfold maxLen at h189
     have h188 : (delT t.2 r.key).length ≤ c186 := h188
     have r187 : Prs _ (.slice a185 (delT t.2 r.key).length c186) (delT t.2 r.key) := r187
     simp only [pS, pN, pA, pC, pZ]
     refine do_ rfl (.tuple #[(.slice a185 (delT t.2 r.key).length c186), (.int .i64 0)]) (ex_move _) ?_
     simp only [pS, pN, pA, pC, pZ]
     refine do_ rfl (.slice a185 (delT t.2 r.key).length c186) (ex_extract rfl rfl) ?_
     simp only [pS, pN, pA, pC, pZ]
     refine do_ rfl (.int .i64 0) (ex_extract rfl rfl) ?_
     simp only [pS, pN, pA, pC, pZ]
     refine do_ rfl (.slice a185 (delT t.2 r.key).length c186) (ex_assign _) ?_
     simp only [pS, pN, pA, pC, pZ]
     refine do_ rfl (.int .i64 0) (ex_assign _) ?_
     simp only [pS, pN, pA, pC, pZ]
     refine wl_nil (hK178 _ _ ?_)
     refine wp_seq_k (fun K190 hK190 => region_wl ?_)
     refine do_ rfl (.int .i64 0) (ex_move _) ?_
     simp only [pS, pN, pA, pC, pZ]
     refine do_ rfl (.bool true) (ex_eql (b := true) rfl rfl (by decide)) ?_
     simp only [pS, pN, pA, pC, pZ]
     refine do_ rfl (.bool true) (ex_move _) ?_
     simp only [pS, pN, pA, pC, pZ]
     refine do_ rfl (.pointer (some ⟨n2, 3, none⟩)) (ex_field (q := ⟨n2, 3, none⟩) rfl (fa_27_3 _ _)) ?_
     simp only [pS, pN, pA, pC, pZ]
     refine do_ rfl (.slice x3 r.value.length y3) (ex_load rfl (load1 (nagg_25 _) (St.cell S180 (i := 0) rfl rfl))) ?_
     simp only [pS, pN, pA, pC, pZ]
     refine do_ rfl (.int .i64 ((r.value.length : Nat) : Int)) (ex_len Try.underlying25 rfl) ?_
     simp only [pS, pN, pA, pC, pZ]
     by_cases hc46 : 0 < r.value.length
     ·refine do_ rfl (.bool true) (ex_gtr (m := ((r.value.length : Nat) : Int)) (n := (0 : Int)) (b := true) rfl rfl (decide_eq_true (by omega))) ?_
      simp only [pS, pN, pA, pC, pZ]
      refine do_ rfl (.bool true) (ex_pick (b := true) rfl) ?_
      simp only [pS, pN, pA, pC, pZ]
      refine wl_nil (hK190 _ _ ?_)
      refine wp_cond_true rfl ?_
      refine region_wl ?_
      refine do_ rfl (.int .i64 4) (ex_assign _) ?_
      simp only [pS, pN, pA, pC, pZ]
      refine wl_nil (hK176 _ _ ?_)
      refine wp_seq_k (fun K191 hK191 => ?_)
      refine wp_block ?_
      refine wp_seq_k (fun K192 hK192 => region_wl ?_)
      refine do_ rfl (.int .i64 4) (ex_move _) ?_
      simp only [pS, pN, pA, pC, pZ]
      refine do_ rfl (.bool true) (ex_neq (b := true) rfl rfl (by decide)) ?_
      simp only [pS, pN, pA, pC, pZ]
      refine do_ rfl (.bool true) (ex_assign _) ?_
      simp only [pS, pN, pA, pC, pZ]
      refine wl_nil (hK192 _ _ ?_)
      refine wp_cond_true rfl ?_
      refine wp_seq_k (fun K193 hK193 => region_wl ?_)
      refine do_ rfl (.int .i64 4) (ex_move _) ?_
      simp only [pS, pN, pA, pC, pZ]
      refine do_ rfl (.slice none 0 0) (ex_assign _) ?_
      simp only [pS, pN, pA, pC, pZ]
      refine do_ rfl (.int .i64 4) (ex_assign _) ?_
      simp only [pS, pN, pA, pC, pZ]
      refine wl_nil (hK193 _ _ ?_)
      refine wp_ret ?_
      (try simp only [Exit.then, Exit.inBlock, ↓reduceIte, Nat.reduceEqDiff])
      refine bodyPost_ret (v := (.tuple #[(.slice none 0 0), (.int .i64 4)])) ?_ rfl ?_
      ·exact res_tt rfl rfl rfl
      ·skip
       have hwe : wrE r = 4 := by unfold wrE; rw [if_neg (by omega), if_pos hgone, if_neg (by omega), if_pos (by omega)]
       have hne : wrE r ≠ 0 := by rw [hwe]; decide
       have S194 := St.drop S180 (L' := L0) (.cons _ (List.Sublist.refl _))
       rw [wr_bad hne]
       refine ⟨_, by rw [hwe], _, le182, .inr ⟨hne, rfl, St.dropRow S194 (.cons _ (.refl _))⟩⟩
     ·refine do_ rfl (.bool false) (ex_gtr (m := ((r.value.length : Nat) : Int)) (n := (0 : Int)) (b := false) rfl rfl (decide_eq_false (by omega))) ?_
      simp only [pS, pN, pA, pC, pZ]
      refine do_ rfl (.bool false) (ex_pick (b := true) rfl) ?_
      simp only [pS, pN, pA, pC, pZ]
      refine wl_nil (hK190 _ _ ?_)
      refine wp_cond_false rfl ?_
      refine wp_skip ?_
      refine hK176 _ _ ?_
      refine wp_seq_k (fun K196 hK196 => ?_)
      refine wp_block ?_
      refine wp_seq_k (fun K197 hK197 => region_wl ?_)
      refine do_ rfl (.int .i64 0) (ex_move _) ?_
      simp only [pS, pN, pA, pC, pZ]
      refine do_ rfl (.bool false) (ex_neq (b := false) rfl rfl (by decide)) ?_
      simp only [pS, pN, pA, pC, pZ]
      refine do_ rfl (.bool false) (ex_assign _) ?_
      simp only [pS, pN, pA, pC, pZ]
      refine wl_nil (hK197 _ _ ?_)
      refine wp_cond_false rfl ?_
      refine wp_seq_k (fun K198 hK198 => region_wl ?_)
      refine do_ rfl (.bool true) (ex_move _) ?_
      simp only [pS, pN, pA, pC, pZ]
      refine do_ rfl (.bool true) (ex_move _) ?_
      simp only [pS, pN, pA, pC, pZ]
      refine do_ rfl (.slice a185 (delT t.2 r.key).length c186) (ex_move _) ?_
      simp only [pS, pN, pA, pC, pZ]
      refine do_ rfl (.int .i64 (((delT t.2 r.key).length : Nat) : Int)) (ex_len Try.underlying23 rfl) ?_
      simp only [pS, pN, pA, pC, pZ]
      by_cases hc67 : (delT t.2 r.key).length = 0
      ·refine do_ rfl (.bool true) (ex_eql (m := (((delT t.2 r.key).length : Nat) : Int)) (n := (0 : Int)) (b := true) rfl rfl (beq_iff_eq.2 (by omega))) ?_
       simp only [pS, pN, pA, pC, pZ]
       refine do_ rfl (.bool true) (ex_pick (b := true) rfl) ?_
       simp only [pS, pN, pA, pC, pZ]
       refine do_ rfl (.bool true) (ex_assign _) ?_
       simp only [pS, pN, pA, pC, pZ]
       refine wl_nil (hK198 _ _ ?_)
       refine wp_cond_true rfl ?_
       refine wp_seq_k (fun K199 hK199 => region_wl ?_)
       refine do_ rfl (.slice (some ⟨g155, 0, none⟩) l.length c) (ex_move _) ?_
       simp only [pS, pN, pA, pC, pZ]
       refine do_ rfl (.int .i64 (((posT l r.name) : Nat) : Int)) (ex_move _) ?_
       simp only [pS, pN, pA, pC, pZ]
       refine do_ rfl (.int .i64 (((posT l r.name) : Nat) : Int)) (ex_move _) ?_
       simp only [pS, pN, pA, pC, pZ]
       refine do_ rfl (.int .i64 ((((posT l r.name) + 1) : Nat) : Int)) (ex_add (m := (((posT l r.name) : Nat) : Int)) (n := (1 : Int)) (r := ((((posT l r.name) + 1) : Nat) : Int)) rfl rfl (by omega) (by omega) (by omega)) ?_
       simp only [pS, pN, pA, pC, pZ]
       refine stOwn (L := (⟨n2, [(.slice x0 r.name.length y0), (.slice x1 r.key.length y1), (.bool r.gone), (.slice x3 r.value.length y3)], 27⟩ :: L0)) (M := fun v_ => (ownP 2 TnC TnC.mono 80 w0.heap.size v_ (l.take (posT l r.name) ++ l.drop ((posT l r.name) + 1)) :: M0)) rfl (ex_fn (vs := #[(.slice (some ⟨g155, 0, none⟩) l.length c), (.int .i64 (((posT l r.name) : Nat) : Int)), (.int .i64 ((((posT l r.name) + 1) : Nat) : Int))]) (map3 rfl rfl rfl) rfl (ent_53 _ _)) (deleteTenant TnC.one S180 (by omega) hpos) ?_
       intro v200 w201 S202
       simp only [pS, pN, pA, pC, pZ]
       have S202 : St w0 F0 w201 F181 (⟨n2, [(.slice x0 r.name.length y0), (.slice x1 r.key.length y1), (.bool r.gone), (.slice x3 r.value.length y3)], 27⟩ :: L0) (ownP 2 TnC TnC.mono 80 w0.heap.size v200 (l.take (posT l r.name) ++ l.drop ((posT l r.name) + 1)) :: M0) := S202
       refine do_ rfl v200 (ex_assign _) ?_
       simp only [pS, pN, pA, pC, pZ]
       refine do_ rfl (.int .i64 0) (ex_assign _) ?_
       simp only [pS, pN, pA, pC, pZ]
       refine wl_nil (hK199 _ _ ?_)
       refine wp_ret ?_
       (try simp only [Exit.then, Exit.inBlock, ↓reduceIte, Nat.reduceEqDiff])
       refine bodyPost_ret (v := (.tuple #[v200, (.int .i64 0)])) ?_ rfl ?_
       ·exact res_tt rfl rfl rfl
       ·skip
        have hw0 : wrE r = 0 := by unfold wrE; rw [if_neg (by omega), if_pos hgone, if_neg (by omega), if_neg (by omega)]
        have hwf := writeF_is hO (next_gone hgone)
        rw [if_neg (fun h => by rw [hgone] at h; simp at h)] at hwf
        rw [if_pos (nil_len hc67), delF_has hh] at hwf
        have S203 := St.drop S202 (L' := L0) (.cons _ (List.Sublist.refl _))
        rw [wr_some hw0 hwf]
        exact ⟨_, rfl, _, le182, .inl ⟨rfl, S203⟩⟩
      ·refine do_ rfl (.bool false) (ex_eql (m := (((delT t.2 r.key).length : Nat) : Int)) (n := (0 : Int)) (b := false) rfl rfl (beq_eq_false_iff_ne.2 (by omega))) ?_
       simp only [pS, pN, pA, pC, pZ]
       refine do_ rfl (.bool false) (ex_pick (b := true) rfl) ?_
       simp only [pS, pN, pA, pC, pZ]
       refine do_ rfl (.bool false) (ex_assign _) ?_
       simp only [pS, pN, pA, pC, pZ]
       refine wl_nil (hK198 _ _ ?_)
       refine wp_cond_false rfl ?_
       refine wp_seq_k (fun K205 hK205 => region_wl ?_)
       refine do_ rfl (.bool true) (ex_move _) ?_
       simp only [pS, pN, pA, pC, pZ]
       refine do_ rfl (.bool true) (ex_assign _) ?_
       simp only [pS, pN, pA, pC, pZ]
       refine wl_nil (hK205 _ _ ?_)
       refine wp_cond_true rfl ?_
       refine wp_seq_k (fun K206 hK206 => region_wl ?_)
       refine do_ rfl (.slice (some ⟨g155, 0, none⟩) l.length c) (ex_move _) ?_
       simp only [pS, pN, pA, pC, pZ]
       refine do_ rfl (.int .i64 (((posT l r.name) : Nat) : Int)) (ex_move _) ?_
       simp only [pS, pN, pA, pC, pZ]
       refine do_ rfl (.slice a185 (delT t.2 r.key).length c186) (ex_move _) ?_
       simp only [pS, pN, pA, pC, pZ]
       refine do_ rfl (.pointer (some ⟨g155, 0 + (posT l r.name) * 2, none⟩)) (ex_at (i := (posT l r.name)) (sz := 2) Try.underlying52 (sizeof_80 _) rfl rfl rfl (hpos) rfl) ?_
       simp only [pS, pN, pA, pC, pZ]
       refine do_ rfl (.pointer (some ⟨g155, 0 + (posT l r.name) * 2 + 1, none⟩)) (ex_field (q := ⟨g155, 0 + (posT l r.name) * 2 + 1, none⟩) rfl (fa_80_1 _ _)) ?_
       simp only [pS, pN, pA, pC, pZ]
       refine stSetCell (r := 0) (i := (posT l r.name)) (j := 1) (p := (r.name, (delT t.2 r.key))) (u := (.slice a185 (delT t.2 r.key).length c186)) S180 rfl rfl (by omega) (by decide) rfl rfl (by omega) (size_23) rfl rfl (fun cs q hq hR => ?_) (Nat.le_refl _) (fun w207 S208 => ?_)
       ·obtain ⟨x, y, rfl, hx, hy⟩ := hR
        obtain rfl : q = t := by rw [hq] at ht; exact Option.some.inj ht
        exact ⟨_, _, rfl, by rw [← htn]; exact hx, r187⟩
       simp only [pS, pN, pA, pC, pZ]
       have S208 : St w0 F0 w207 F181 (⟨n2, [(.slice x0 r.name.length y0), (.slice x1 r.key.length y1), (.bool r.gone), (.slice x3 r.value.length y3)], 27⟩ :: L0) (ownP 2 TnC TnC.mono 80 w0.heap.size (.slice (some ⟨g155, 0, none⟩) l.length c) (l.set (posT l r.name) (r.name, (delT t.2 r.key))) :: M0) := S208
       refine wl_nil (hK206 _ _ ?_)
       refine wp_seq_k (fun K209 hK209 => region_wl ?_)
       refine do_ rfl (.slice (some ⟨g155, 0, none⟩) l.length c) (ex_move _) ?_
       simp only [pS, pN, pA, pC, pZ]
       refine do_ rfl (.slice (some ⟨g155, 0, none⟩) l.length c) (ex_assign _) ?_
       simp only [pS, pN, pA, pC, pZ]
       refine do_ rfl (.int .i64 0) (ex_assign _) ?_
       simp only [pS, pN, pA, pC, pZ]
       refine wl_nil (hK209 _ _ ?_)
       refine wp_ret ?_
       (try simp only [Exit.then, Exit.inBlock, ↓reduceIte, Nat.reduceEqDiff])
       refine bodyPost_ret (v := (.tuple #[(.slice (some ⟨g155, 0, none⟩) l.length c), (.int .i64 0)])) ?_ rfl ?_
       ·exact res_tt rfl rfl rfl
       ·skip
        have hw0 : wrE r = 0 := by unfold wrE; rw [if_neg (by omega), if_pos hgone, if_neg (by omega), if_neg (by omega)]
        have hwf := writeF_is hO (next_gone hgone)
        rw [if_neg (fun h => by rw [hgone] at h; simp at h)] at hwf
        rw [if_neg (not_nil hc67), if_neg (by rw [len_putT, if_pos hh]; omega), putF_set ok.rise hh] at hwf
        have S210 := St.drop S208 (L' := L0) (.cons _ (List.Sublist.refl _))
        rw [wr_some hw0 hwf]
        exact ⟨_, rfl, _, le182, .inl ⟨rfl, S210⟩⟩
    ·refine region_wl ?_
     refine do_ rfl (.slice xa172 t.2.length xc173) (ex_move _) ?_
     simp only [pS, pN, pA, pC, pZ]
     refine do_ rfl (.pointer (some ⟨n2, 1, none⟩)) (ex_field (q := ⟨n2, 1, none⟩) rfl (fa_27_1 _ _)) ?_
     simp only [pS, pN, pA, pC, pZ]
     refine do_ rfl (.slice x1 r.key.length y1) (ex_load rfl (load1 (nagg_25 _) (St.cell S161 (i := 0) rfl rfl))) ?_
     simp only [pS, pN, pA, pC, pZ]
     refine stGives S161 rfl (ex_fn (vs := #[(.slice xa172 t.2.length xc173), (.slice x1 r.key.length y1)]) (map2 rfl rfl) rfl (ent_7 _ _)) (delBad_spec _ _ _ _ t.2 r.key (S161).sat r174 h1 (show TreeOk 60 t.2 from ok.tree t (List.mem_of_getElem? ht)) hk) ?_
     intro v217 w212 F214 S213 le215 R216
     obtain ⟨_, rfl, r220⟩ := R216
     obtain ⟨a218, c219, rfl, _⟩ := Sl.shape r220
     simp only [pS, pN, pA, pC, pZ]
     refine do_ rfl (.tuple #[(.slice a218 ([] : List Pr).length c219), (.int .i64 (checkN r.key.length))]) (ex_move _) ?_
     simp only [pS, pN, pA, pC, pZ]
     refine do_ rfl (.slice a218 ([] : List Pr).length c219) (ex_extract rfl rfl) ?_
     simp only [pS, pN, pA, pC, pZ]
     refine do_ rfl (.int .i64 (checkN r.key.length)) (ex_extract rfl rfl) ?_
     simp only [pS, pN, pA, pC, pZ]
     refine do_ rfl (.slice a218 ([] : List Pr).length c219) (ex_assign _) ?_
     simp only [pS, pN, pA, pC, pZ]
     refine do_ rfl (.int .i64 (checkN r.key.length)) (ex_assign _) ?_
     simp only [pS, pN, pA, pC, pZ]
     refine wl_nil (hK178 _ _ ?_)
     refine wp_seq_k (fun K221 hK221 => region_wl ?_)
     refine do_ rfl (.int .i64 (checkN r.key.length)) (ex_move _) ?_
     simp only [pS, pN, pA, pC, pZ]
     refine do_ rfl (.bool false) (ex_eql (m := (checkN r.key.length)) (n := (0 : Int)) (b := false) rfl rfl (beq_eq_false_iff_ne.2 (hk))) ?_
     simp only [pS, pN, pA, pC, pZ]
     refine do_ rfl (.bool false) (ex_move _) ?_
     simp only [pS, pN, pA, pC, pZ]
     refine doN (wanted_no rfl rfl rfl (c := false) rfl (by decide)) ?_
     simp only [pS, pN, pA, pC, pZ]
     refine doN (wanted_no rfl rfl rfl (c := false) rfl (by decide)) ?_
     simp only [pS, pN, pA, pC, pZ]
     refine doN (wanted_no rfl rfl rfl (c := false) rfl (by decide)) ?_
     simp only [pS, pN, pA, pC, pZ]
     refine doN (wanted_no rfl rfl rfl (c := false) rfl (by decide)) ?_
     simp only [pS, pN, pA, pC, pZ]
     refine do_ rfl (.bool false) (ex_pick (b := false) rfl) ?_
     simp only [pS, pN, pA, pC, pZ]
     refine wl_nil (hK221 _ _ ?_)
     refine wp_cond_false rfl ?_
     refine wp_skip ?_
     refine hK176 _ _ ?_
     refine wp_seq_k (fun K222 hK222 => ?_)
     refine wp_block ?_
     refine wp_seq_k (fun K223 hK223 => region_wl ?_)
     refine do_ rfl (.int .i64 (checkN r.key.length)) (ex_move _) ?_
     simp only [pS, pN, pA, pC, pZ]
     refine do_ rfl (.bool true) (ex_neq (m := (checkN r.key.length)) (n := (0 : Int)) (b := true) rfl rfl (bne_iff_ne.2 (hk))) ?_
     simp only [pS, pN, pA, pC, pZ]
     refine do_ rfl (.bool true) (ex_assign _) ?_
     simp only [pS, pN, pA, pC, pZ]
     refine wl_nil (hK223 _ _ ?_)
     refine wp_cond_true rfl ?_
     refine wp_seq_k (fun K224 hK224 => region_wl ?_)
     refine do_ rfl (.int .i64 (checkN r.key.length)) (ex_move _) ?_
     simp only [pS, pN, pA, pC, pZ]
     refine do_ rfl (.slice none 0 0) (ex_assign _) ?_
     simp only [pS, pN, pA, pC, pZ]
     refine do_ rfl (.int .i64 (checkN r.key.length)) (ex_assign _) ?_
     simp only [pS, pN, pA, pC, pZ]
     refine wl_nil (hK224 _ _ ?_)
     refine wp_ret ?_
     (try simp only [Exit.then, Exit.inBlock, ↓reduceIte, Nat.reduceEqDiff])
     refine bodyPost_ret (v := (.tuple #[(.slice none 0 0), (.int .i64 (checkN r.key.length))])) ?_ rfl ?_
     ·exact res_tt rfl rfl rfl
     ·skip
      have hwe : wrE r = checkN r.key.length := by unfold wrE; rw [if_neg (by omega), if_pos hgone, if_pos hk]
      have hne : wrE r ≠ 0 := by rw [hwe]; exact hk
      have S225 := St.drop S213 (L' := L0) (.cons _ (List.Sublist.refl _))
      rw [wr_bad hne]
      refine ⟨_, by rw [hwe], _, le215, .inr ⟨hne, rfl, St.dropRow S225 (.cons _ (.refl _))⟩⟩
   ·by_cases hp : pairE (r.key, r.value) = 0
    ·by_cases h60 : 60 < (putT t.2 r.key r.value).length
     ·refine region_wl ?_
      refine do_ rfl (.slice xa172 t.2.length xc173) (ex_move _) ?_
      simp only [pS, pN, pA, pC, pZ]
      refine do_ rfl (.pointer (some ⟨n2, 1, none⟩)) (ex_field (q := ⟨n2, 1, none⟩) rfl (fa_27_1 _ _)) ?_
      simp only [pS, pN, pA, pC, pZ]
      refine do_ rfl (.slice x1 r.key.length y1) (ex_load rfl (load1 (nagg_25 _) (St.cell S161 (i := 0) rfl rfl))) ?_
      simp only [pS, pN, pA, pC, pZ]
      refine do_ rfl (.pointer (some ⟨n2, 3, none⟩)) (ex_field (q := ⟨n2, 3, none⟩) rfl (fa_27_3 _ _)) ?_
      simp only [pS, pN, pA, pC, pZ]
      refine do_ rfl (.slice x3 r.value.length y3) (ex_load rfl (load1 (nagg_25 _) (St.cell S161 (i := 0) rfl rfl))) ?_
      simp only [pS, pN, pA, pC, pZ]
      refine do_ rfl (.agg #[(.slice x1 r.key.length y1), (.slice x3 r.value.length y3)]) (ex_build (ps := #[(0, (.slice x1 r.key.length y1)), (1, (.slice x3 r.value.length y3))]) (bmap2 rfl rfl) (by kernel_rfl)) ?_
      simp only [pS, pN, pA, pC, pZ]
      refine stGives S161 rfl (ex_fn (vs := #[(.slice xa172 t.2.length xc173), (.agg #[(.slice x1 r.key.length y1), (.slice x3 r.value.length y3)])]) (map2 rfl rfl) rfl (ent_8 _ _)) (putFull_spec _ _ _ _ t.2 (r.key, r.value) (S161).sat r174 ⟨_, _, _, _, rfl, h1, h3⟩ (show TreeOk 60 t.2 from ok.tree t (List.mem_of_getElem? ht)) hb1 hb2 hp h60) ?_
      intro v232 w227 F229 S228 le230 R231
      obtain ⟨_, rfl, r235⟩ := R231
      obtain ⟨a233, c234, rfl, h236, h237⟩ := Sl.shape r235
      unfold maxLen at h237
      simp only [pS, pN, pA, pC, pZ]
      refine do_ rfl (.tuple #[(.slice a233 ([] : List Pr).length c234), (.int .i64 11)]) (ex_move _) ?_
      simp only [pS, pN, pA, pC, pZ]
      refine do_ rfl (.slice a233 ([] : List Pr).length c234) (ex_extract rfl rfl) ?_
      simp only [pS, pN, pA, pC, pZ]
      refine do_ rfl (.int .i64 11) (ex_extract rfl rfl) ?_
      simp only [pS, pN, pA, pC, pZ]
      refine do_ rfl (.slice a233 ([] : List Pr).length c234) (ex_assign _) ?_
      simp only [pS, pN, pA, pC, pZ]
      refine do_ rfl (.int .i64 11) (ex_assign _) ?_
      simp only [pS, pN, pA, pC, pZ]
      refine wl_nil (hK176 _ _ ?_)
      refine wp_seq_k (fun K238 hK238 => ?_)
      refine wp_block ?_
      refine wp_seq_k (fun K239 hK239 => region_wl ?_)
      refine do_ rfl (.int .i64 11) (ex_move _) ?_
      simp only [pS, pN, pA, pC, pZ]
      refine do_ rfl (.bool true) (ex_neq (b := true) rfl rfl (by decide)) ?_
      simp only [pS, pN, pA, pC, pZ]
      refine do_ rfl (.bool true) (ex_assign _) ?_
      simp only [pS, pN, pA, pC, pZ]
      refine wl_nil (hK239 _ _ ?_)
      refine wp_cond_true rfl ?_
      refine wp_seq_k (fun K240 hK240 => region_wl ?_)
      refine do_ rfl (.int .i64 11) (ex_move _) ?_
      simp only [pS, pN, pA, pC, pZ]
      refine do_ rfl (.slice none 0 0) (ex_assign _) ?_
      simp only [pS, pN, pA, pC, pZ]
      refine do_ rfl (.int .i64 11) (ex_assign _) ?_
      simp only [pS, pN, pA, pC, pZ]
      refine wl_nil (hK240 _ _ ?_)
      refine wp_ret ?_
      (try simp only [Exit.then, Exit.inBlock, ↓reduceIte, Nat.reduceEqDiff])
      refine bodyPost_ret (v := (.tuple #[(.slice none 0 0), (.int .i64 11)])) ?_ rfl ?_
      ·exact res_tt rfl rfl rfl
      ·skip
       have hw0 : wrE r = 0 := by unfold wrE; rw [if_neg (by omega), if_neg (by rw [hgone]; simp)]; exact hp
       have hwf := writeF_is hO (next_put hgone)
       rw [if_pos ⟨hgone, h60⟩] at hwf
       have S241 := St.drop S228 (L' := L0) (.cons _ (List.Sublist.refl _))
       rw [wr_none hw0 hwf]
       refine ⟨_, rfl, _, le230, .inr ⟨(by decide : (11 : Int) ≠ 0), rfl, St.dropRow S241 (.cons _ (.refl _))⟩⟩
     ·refine region_wl ?_
      refine do_ rfl (.slice xa172 t.2.length xc173) (ex_move _) ?_
      simp only [pS, pN, pA, pC, pZ]
      refine do_ rfl (.pointer (some ⟨n2, 1, none⟩)) (ex_field (q := ⟨n2, 1, none⟩) rfl (fa_27_1 _ _)) ?_
      simp only [pS, pN, pA, pC, pZ]
      refine do_ rfl (.slice x1 r.key.length y1) (ex_load rfl (load1 (nagg_25 _) (St.cell S161 (i := 0) rfl rfl))) ?_
      simp only [pS, pN, pA, pC, pZ]
      refine do_ rfl (.pointer (some ⟨n2, 3, none⟩)) (ex_field (q := ⟨n2, 3, none⟩) rfl (fa_27_3 _ _)) ?_
      simp only [pS, pN, pA, pC, pZ]
      refine do_ rfl (.slice x3 r.value.length y3) (ex_load rfl (load1 (nagg_25 _) (St.cell S161 (i := 0) rfl rfl))) ?_
      simp only [pS, pN, pA, pC, pZ]
      refine do_ rfl (.agg #[(.slice x1 r.key.length y1), (.slice x3 r.value.length y3)]) (ex_build (ps := #[(0, (.slice x1 r.key.length y1)), (1, (.slice x3 r.value.length y3))]) (bmap2 rfl rfl) (by kernel_rfl)) ?_
      simp only [pS, pN, pA, pC, pZ]
      refine stGives S161 rfl (ex_fn (vs := #[(.slice xa172 t.2.length xc173), (.agg #[(.slice x1 r.key.length y1), (.slice x3 r.value.length y3)])]) (map2 rfl rfl) rfl (ent_8 _ _)) (putFit_spec _ _ _ _ t.2 (r.key, r.value) (S161).sat r174 ⟨_, _, _, _, rfl, h1, h3⟩ (show TreeOk 60 t.2 from ok.tree t (List.mem_of_getElem? ht)) hb1 hb2 hp h60) ?_
      intro v248 w243 F245 S244 le246 R247
      obtain ⟨_, rfl, r251⟩ := R247
      obtain ⟨a249, c250, rfl, h252, h253⟩ := Sl.shape r251
      unfold maxLen at h253
      have h252 : (putT t.2 r.key r.value).length ≤ c250 := h252
      have r251 : Prs _ (.slice a249 (putT t.2 r.key r.value).length c250) (putT t.2 r.key r.value) := r251
      simp only [pS, pN, pA, pC, pZ]
      refine do_ rfl (.tuple #[(.slice a249 (putT t.2 r.key r.value).length c250), (.int .i64 0)]) (ex_move _) ?_
      simp only [pS, pN, pA, pC, pZ]
      refine do_ rfl (.slice a249 (putT t.2 r.key r.value).length c250) (ex_extract rfl rfl) ?_
      simp only [pS, pN, pA, pC, pZ]
      refine do_ rfl (.int .i64 0) (ex_extract rfl rfl) ?_
      simp only [pS, pN, pA, pC, pZ]
      refine do_ rfl (.slice a249 (putT t.2 r.key r.value).length c250) (ex_assign _) ?_
      simp only [pS, pN, pA, pC, pZ]
      refine do_ rfl (.int .i64 0) (ex_assign _) ?_
      simp only [pS, pN, pA, pC, pZ]
      refine wl_nil (hK176 _ _ ?_)
      refine wp_seq_k (fun K254 hK254 => ?_)
      refine wp_block ?_
      refine wp_seq_k (fun K255 hK255 => region_wl ?_)
      refine do_ rfl (.int .i64 0) (ex_move _) ?_
      simp only [pS, pN, pA, pC, pZ]
      refine do_ rfl (.bool false) (ex_neq (b := false) rfl rfl (by decide)) ?_
      simp only [pS, pN, pA, pC, pZ]
      refine do_ rfl (.bool false) (ex_assign _) ?_
      simp only [pS, pN, pA, pC, pZ]
      refine wl_nil (hK255 _ _ ?_)
      refine wp_cond_false rfl ?_
      refine wp_seq_k (fun K256 hK256 => region_wl ?_)
      refine do_ rfl (.bool true) (ex_move _) ?_
      simp only [pS, pN, pA, pC, pZ]
      refine do_ rfl (.bool true) (ex_move _) ?_
      simp only [pS, pN, pA, pC, pZ]
      refine do_ rfl (.slice a249 (putT t.2 r.key r.value).length c250) (ex_move _) ?_
      simp only [pS, pN, pA, pC, pZ]
      refine do_ rfl (.int .i64 (((putT t.2 r.key r.value).length : Nat) : Int)) (ex_len Try.underlying23 rfl) ?_
      simp only [pS, pN, pA, pC, pZ]
      by_cases hc67 : (putT t.2 r.key r.value).length = 0
      ·refine do_ rfl (.bool true) (ex_eql (m := (((putT t.2 r.key r.value).length : Nat) : Int)) (n := (0 : Int)) (b := true) rfl rfl (beq_iff_eq.2 (by omega))) ?_
       simp only [pS, pN, pA, pC, pZ]
       refine do_ rfl (.bool true) (ex_pick (b := true) rfl) ?_
       simp only [pS, pN, pA, pC, pZ]
       refine do_ rfl (.bool true) (ex_assign _) ?_
       simp only [pS, pN, pA, pC, pZ]
       refine wl_nil (hK256 _ _ ?_)
       refine wp_cond_true rfl ?_
       refine wp_seq_k (fun K257 hK257 => region_wl ?_)
       refine do_ rfl (.slice (some ⟨g155, 0, none⟩) l.length c) (ex_move _) ?_
       simp only [pS, pN, pA, pC, pZ]
       refine do_ rfl (.int .i64 (((posT l r.name) : Nat) : Int)) (ex_move _) ?_
       simp only [pS, pN, pA, pC, pZ]
       refine do_ rfl (.int .i64 (((posT l r.name) : Nat) : Int)) (ex_move _) ?_
       simp only [pS, pN, pA, pC, pZ]
       refine do_ rfl (.int .i64 ((((posT l r.name) + 1) : Nat) : Int)) (ex_add (m := (((posT l r.name) : Nat) : Int)) (n := (1 : Int)) (r := ((((posT l r.name) + 1) : Nat) : Int)) rfl rfl (by omega) (by omega) (by omega)) ?_
       simp only [pS, pN, pA, pC, pZ]
       refine stOwn (L := (⟨n2, [(.slice x0 r.name.length y0), (.slice x1 r.key.length y1), (.bool r.gone), (.slice x3 r.value.length y3)], 27⟩ :: L0)) (M := fun v_ => (ownP 2 TnC TnC.mono 80 w0.heap.size v_ (l.take (posT l r.name) ++ l.drop ((posT l r.name) + 1)) :: M0)) rfl (ex_fn (vs := #[(.slice (some ⟨g155, 0, none⟩) l.length c), (.int .i64 (((posT l r.name) : Nat) : Int)), (.int .i64 ((((posT l r.name) + 1) : Nat) : Int))]) (map3 rfl rfl rfl) rfl (ent_53 _ _)) (deleteTenant TnC.one S244 (by omega) hpos) ?_
       intro v258 w259 S260
       simp only [pS, pN, pA, pC, pZ]
       have S260 : St w0 F0 w259 F245 (⟨n2, [(.slice x0 r.name.length y0), (.slice x1 r.key.length y1), (.bool r.gone), (.slice x3 r.value.length y3)], 27⟩ :: L0) (ownP 2 TnC TnC.mono 80 w0.heap.size v258 (l.take (posT l r.name) ++ l.drop ((posT l r.name) + 1)) :: M0) := S260
       refine do_ rfl v258 (ex_assign _) ?_
       simp only [pS, pN, pA, pC, pZ]
       refine do_ rfl (.int .i64 0) (ex_assign _) ?_
       simp only [pS, pN, pA, pC, pZ]
       refine wl_nil (hK257 _ _ ?_)
       refine wp_ret ?_
       (try simp only [Exit.then, Exit.inBlock, ↓reduceIte, Nat.reduceEqDiff])
       refine bodyPost_ret (v := (.tuple #[v258, (.int .i64 0)])) ?_ rfl ?_
       ·exact res_tt rfl rfl rfl
       ·skip
        have hw0 : wrE r = 0 := by unfold wrE; rw [if_neg (by omega), if_neg (by rw [hgone]; simp)]; exact hp
        have hwf := writeF_is hO (next_put hgone)
        rw [if_neg (fun h => h60 h.2)] at hwf
        rw [if_pos (nil_len hc67), delF_has hh] at hwf
        have S261 := St.drop S260 (L' := L0) (.cons _ (List.Sublist.refl _))
        rw [wr_some hw0 hwf]
        exact ⟨_, rfl, _, le246, .inl ⟨rfl, S261⟩⟩
      ·refine do_ rfl (.bool false) (ex_eql (m := (((putT t.2 r.key r.value).length : Nat) : Int)) (n := (0 : Int)) (b := false) rfl rfl (beq_eq_false_iff_ne.2 (by omega))) ?_
       simp only [pS, pN, pA, pC, pZ]
       refine do_ rfl (.bool false) (ex_pick (b := true) rfl) ?_
       simp only [pS, pN, pA, pC, pZ]
       refine do_ rfl (.bool false) (ex_assign _) ?_
       simp only [pS, pN, pA, pC, pZ]
       refine wl_nil (hK256 _ _ ?_)
       refine wp_cond_false rfl ?_
       refine wp_seq_k (fun K263 hK263 => region_wl ?_)
       refine do_ rfl (.bool true) (ex_move _) ?_
       simp only [pS, pN, pA, pC, pZ]
       refine do_ rfl (.bool true) (ex_assign _) ?_
       simp only [pS, pN, pA, pC, pZ]
       refine wl_nil (hK263 _ _ ?_)
       refine wp_cond_true rfl ?_
       refine wp_seq_k (fun K264 hK264 => region_wl ?_)
       refine do_ rfl (.slice (some ⟨g155, 0, none⟩) l.length c) (ex_move _) ?_
       simp only [pS, pN, pA, pC, pZ]
       refine do_ rfl (.int .i64 (((posT l r.name) : Nat) : Int)) (ex_move _) ?_
       simp only [pS, pN, pA, pC, pZ]
       refine do_ rfl (.slice a249 (putT t.2 r.key r.value).length c250) (ex_move _) ?_
       simp only [pS, pN, pA, pC, pZ]
       refine do_ rfl (.pointer (some ⟨g155, 0 + (posT l r.name) * 2, none⟩)) (ex_at (i := (posT l r.name)) (sz := 2) Try.underlying52 (sizeof_80 _) rfl rfl rfl (hpos) rfl) ?_
       simp only [pS, pN, pA, pC, pZ]
       refine do_ rfl (.pointer (some ⟨g155, 0 + (posT l r.name) * 2 + 1, none⟩)) (ex_field (q := ⟨g155, 0 + (posT l r.name) * 2 + 1, none⟩) rfl (fa_80_1 _ _)) ?_
       simp only [pS, pN, pA, pC, pZ]
       refine stSetCell (r := 0) (i := (posT l r.name)) (j := 1) (p := (r.name, (putT t.2 r.key r.value))) (u := (.slice a249 (putT t.2 r.key r.value).length c250)) S244 rfl rfl (by omega) (by decide) rfl rfl (by omega) (size_23) rfl rfl (fun cs q hq hR => ?_) (Nat.le_refl _) (fun w265 S266 => ?_)
       ·obtain ⟨x, y, rfl, hx, hy⟩ := hR
        obtain rfl : q = t := by rw [hq] at ht; exact Option.some.inj ht
        exact ⟨_, _, rfl, by rw [← htn]; exact hx, r251⟩
       simp only [pS, pN, pA, pC, pZ]
       have S266 : St w0 F0 w265 F245 (⟨n2, [(.slice x0 r.name.length y0), (.slice x1 r.key.length y1), (.bool r.gone), (.slice x3 r.value.length y3)], 27⟩ :: L0) (ownP 2 TnC TnC.mono 80 w0.heap.size (.slice (some ⟨g155, 0, none⟩) l.length c) (l.set (posT l r.name) (r.name, (putT t.2 r.key r.value))) :: M0) := S266
       refine wl_nil (hK264 _ _ ?_)
       refine wp_seq_k (fun K267 hK267 => region_wl ?_)
       refine do_ rfl (.slice (some ⟨g155, 0, none⟩) l.length c) (ex_move _) ?_
       simp only [pS, pN, pA, pC, pZ]
       refine do_ rfl (.slice (some ⟨g155, 0, none⟩) l.length c) (ex_assign _) ?_
       simp only [pS, pN, pA, pC, pZ]
       refine do_ rfl (.int .i64 0) (ex_assign _) ?_
       simp only [pS, pN, pA, pC, pZ]
       refine wl_nil (hK267 _ _ ?_)
       refine wp_ret ?_
       (try simp only [Exit.then, Exit.inBlock, ↓reduceIte, Nat.reduceEqDiff])
       refine bodyPost_ret (v := (.tuple #[(.slice (some ⟨g155, 0, none⟩) l.length c), (.int .i64 0)])) ?_ rfl ?_
       ·exact res_tt rfl rfl rfl
       ·skip
        have hw0 : wrE r = 0 := by unfold wrE; rw [if_neg (by omega), if_neg (by rw [hgone]; simp)]; exact hp
        have hwf := writeF_is hO (next_put hgone)
        rw [if_neg (fun h => h60 h.2)] at hwf
        rw [if_neg (not_nil hc67), if_neg (by rw [len_putT, if_pos hh]; omega), putF_set ok.rise hh] at hwf
        have S268 := St.drop S266 (L' := L0) (.cons _ (List.Sublist.refl _))
        rw [wr_some hw0 hwf]
        exact ⟨_, rfl, _, le246, .inl ⟨rfl, S268⟩⟩
    ·refine region_wl ?_
     refine do_ rfl (.slice xa172 t.2.length xc173) (ex_move _) ?_
     simp only [pS, pN, pA, pC, pZ]
     refine do_ rfl (.pointer (some ⟨n2, 1, none⟩)) (ex_field (q := ⟨n2, 1, none⟩) rfl (fa_27_1 _ _)) ?_
     simp only [pS, pN, pA, pC, pZ]
     refine do_ rfl (.slice x1 r.key.length y1) (ex_load rfl (load1 (nagg_25 _) (St.cell S161 (i := 0) rfl rfl))) ?_
     simp only [pS, pN, pA, pC, pZ]
     refine do_ rfl (.pointer (some ⟨n2, 3, none⟩)) (ex_field (q := ⟨n2, 3, none⟩) rfl (fa_27_3 _ _)) ?_
     simp only [pS, pN, pA, pC, pZ]
     refine do_ rfl (.slice x3 r.value.length y3) (ex_load rfl (load1 (nagg_25 _) (St.cell S161 (i := 0) rfl rfl))) ?_
     simp only [pS, pN, pA, pC, pZ]
     refine do_ rfl (.agg #[(.slice x1 r.key.length y1), (.slice x3 r.value.length y3)]) (ex_build (ps := #[(0, (.slice x1 r.key.length y1)), (1, (.slice x3 r.value.length y3))]) (bmap2 rfl rfl) (by kernel_rfl)) ?_
     simp only [pS, pN, pA, pC, pZ]
     refine stGives S161 rfl (ex_fn (vs := #[(.slice xa172 t.2.length xc173), (.agg #[(.slice x1 r.key.length y1), (.slice x3 r.value.length y3)])]) (map2 rfl rfl) rfl (ent_8 _ _)) (putBad_spec _ _ _ _ t.2 (r.key, r.value) (S161).sat r174 ⟨_, _, _, _, rfl, h1, h3⟩ (show TreeOk 60 t.2 from ok.tree t (List.mem_of_getElem? ht)) hb1 hb2 hp) ?_
     intro v275 w270 F272 S271 le273 R274
     obtain ⟨_, rfl, r278⟩ := R274
     obtain ⟨a276, c277, rfl, _⟩ := Sl.shape r278
     simp only [pS, pN, pA, pC, pZ]
     refine do_ rfl (.tuple #[(.slice a276 ([] : List Pr).length c277), (.int .i64 (pairE (r.key, r.value)))]) (ex_move _) ?_
     simp only [pS, pN, pA, pC, pZ]
     refine do_ rfl (.slice a276 ([] : List Pr).length c277) (ex_extract rfl rfl) ?_
     simp only [pS, pN, pA, pC, pZ]
     refine do_ rfl (.int .i64 (pairE (r.key, r.value))) (ex_extract rfl rfl) ?_
     simp only [pS, pN, pA, pC, pZ]
     refine do_ rfl (.slice a276 ([] : List Pr).length c277) (ex_assign _) ?_
     simp only [pS, pN, pA, pC, pZ]
     refine do_ rfl (.int .i64 (pairE (r.key, r.value))) (ex_assign _) ?_
     simp only [pS, pN, pA, pC, pZ]
     refine wl_nil (hK176 _ _ ?_)
     refine wp_seq_k (fun K279 hK279 => ?_)
     refine wp_block ?_
     refine wp_seq_k (fun K280 hK280 => region_wl ?_)
     refine do_ rfl (.int .i64 (pairE (r.key, r.value))) (ex_move _) ?_
     simp only [pS, pN, pA, pC, pZ]
     refine do_ rfl (.bool true) (ex_neq (m := (pairE (r.key, r.value))) (n := (0 : Int)) (b := true) rfl rfl (bne_iff_ne.2 (hp))) ?_
     simp only [pS, pN, pA, pC, pZ]
     refine do_ rfl (.bool true) (ex_assign _) ?_
     simp only [pS, pN, pA, pC, pZ]
     refine wl_nil (hK280 _ _ ?_)
     refine wp_cond_true rfl ?_
     refine wp_seq_k (fun K281 hK281 => region_wl ?_)
     refine do_ rfl (.int .i64 (pairE (r.key, r.value))) (ex_move _) ?_
     simp only [pS, pN, pA, pC, pZ]
     refine do_ rfl (.slice none 0 0) (ex_assign _) ?_
     simp only [pS, pN, pA, pC, pZ]
     refine do_ rfl (.int .i64 (pairE (r.key, r.value))) (ex_assign _) ?_
     simp only [pS, pN, pA, pC, pZ]
     refine wl_nil (hK281 _ _ ?_)
     refine wp_ret ?_
     (try simp only [Exit.then, Exit.inBlock, ↓reduceIte, Nat.reduceEqDiff])
     refine bodyPost_ret (v := (.tuple #[(.slice none 0 0), (.int .i64 (pairE (r.key, r.value)))])) ?_ rfl ?_
     ·exact res_tt rfl rfl rfl
     ·skip
      have hwe : wrE r = pairE (r.key, r.value) := by unfold wrE; rw [if_neg (by omega), if_neg (by rw [hgone]; simp)]
      have hne : wrE r ≠ 0 := by rw [hwe]; exact hp
      have S282 := St.drop S271 (L' := L0) (.cons _ (List.Sublist.refl _))
      rw [wr_bad hne]
      refine ⟨_, by rw [hwe], _, le273, .inr ⟨hne, rfl, St.dropRow S282 (.cons _ (.refl _))⟩⟩
 ·refine do_ rfl (.bool true) (ex_neq (m := (nameN r.name.length)) (n := (0 : Int)) (b := true) rfl rfl (bne_iff_ne.2 (by omega))) ?_
  simp only [pS, pN, pA, pC, pZ]
  refine wl_nil (hK9 _ _ ?_)
  refine wp_cond_true rfl ?_
  refine wp_seq_k (fun K284 hK284 => region_wl ?_)
  refine do_ rfl (.int .i64 (nameN r.name.length)) (ex_move _) ?_
  simp only [pS, pN, pA, pC, pZ]
  refine do_ rfl (.slice none 0 0) (ex_assign _) ?_
  simp only [pS, pN, pA, pC, pZ]
  refine do_ rfl (.int .i64 (nameN r.name.length)) (ex_assign _) ?_
  simp only [pS, pN, pA, pC, pZ]
  refine wl_nil (hK284 _ _ ?_)
  refine wp_ret ?_
  (try simp only [Exit.then, Exit.inBlock, ↓reduceIte, Nat.reduceEqDiff])
  refine bodyPost_ret (v := (.tuple #[(.slice none 0 0), (.int .i64 (nameN r.name.length))])) ?_ rfl ?_
  ·exact res_tt rfl rfl rfl
  ·skip
   have hwe : wrE r = nameN r.name.length := by unfold wrE; rw [if_pos hc16]
   have hne : wrE r ≠ 0 := by rw [hwe]; exact hc16
   have S285 := St.drop S8 (L' := L0) (.cons _ (List.Sublist.refl _))
   rw [wr_bad hne]
   refine ⟨_, by rw [hwe], _, (Le.refl _), .inr ⟨hne, rfl, St.dropRow S285 (.cons _ (.refl _))⟩⟩
end Go.Proofs.Ytlimmmidfhpakaa
namespace Go.Proofs.Ytlimmmidfhpakaa
open Go.RowKit
set_option maxRecDepth 100000
set_option linter.unusedVariables false
set_option linter.unusedSimpArgs false
def TnsE (r : Forest) (e : Int) (F : Fz) (u : Value) : Prop := ∃ x, u = .tuple #[x, .int .i64 e] ∧ Tns F x r
theorem applyR_cons (f : Forest) (x : Wr) (ws : List Wr) : applyR f (x :: ws) = if wrE x ≠ 0 then (wrE x, []) else match writeF f x with | none => (11, []) | some g => applyR g ws := rfl
theorem applyR_snoc : ∀ {ws : List Wr} {f : Forest} {w : Wr}, (applyR f ws).1 = 0 → applyR f (ws ++ [w]) = applyR (applyR f ws).2 [w]
  | [], f, w, _ => rfl
  | x :: ws, f, w, h => by
    rw [applyR_cons] at h
    rw [List.cons_append, applyR_cons f x (ws ++ [w]), applyR_cons f x ws]
    by_cases hx : wrE x ≠ 0
    · rw [if_pos hx] at h; exact absurd h hx
    · rw [if_neg hx] at h
      rw [if_neg hx, if_neg hx]
      cases hw : writeF f x with
      | none => rw [hw] at h; simp at h
      | some g =>
        rw [hw] at h
        simp only at h ⊢
        exact applyR_snoc h
theorem applyR_stop : ∀ {ws us : List Wr} {f : Forest}, (applyR f ws).1 ≠ 0 → applyR f (ws ++ us) = applyR f ws
  | [], us, f, h => by simp [applyR] at h
  | x :: ws, us, f, h => by
    rw [applyR_cons] at h
    rw [List.cons_append, applyR_cons f x (ws ++ us), applyR_cons f x ws]
    by_cases hx : wrE x ≠ 0
    · rw [if_pos hx, if_pos hx]
    · rw [if_neg hx] at h
      rw [if_neg hx, if_neg hx]
      cases hw : writeF f x with
      | none => rfl
      | some g =>
        rw [hw] at h
        simp only at h ⊢
        exact applyR_stop h
theorem applyR_ok60 : ∀ {ws : List Wr} {f : Forest}, ForestOk 60 f → (applyR f ws).1 = 0 → ForestOk 60 (applyR f ws).2
  | [], f, hf, _ => hf
  | x :: ws, f, hf, h => by
    unfold applyR at h ⊢
    by_cases hx : wrE x ≠ 0
    · rw [if_pos hx] at h; exact absurd h hx
    · rw [if_neg hx] at h ⊢
      cases hw : writeF f x with
      | none => rw [hw] at h; simp at h
      | some g =>
        rw [hw] at h
        simp only at h ⊢
        exact applyR_ok60 (writeF_ok60 hf (wrE_ok.1 (Classical.not_not.1 hx)) hw) h
/-- What forest.Apply tells of so many writes. -/
def applyE (f : Forest) (ws : List Wr) : Int × Forest := if 10 < ws.length then (1, []) else applyR f ws
theorem bad_nil : ∀ {ws : List Wr} {f : Forest}, (applyR f ws).1 ≠ 0 → (applyR f ws).2 = []
  | [], f, h => by simp [applyR] at h
  | x :: ws, f, h => by
    unfold applyR at h ⊢
    by_cases hx : wrE x ≠ 0
    · rw [if_pos hx]
    · rw [if_neg hx] at h ⊢
      cases hw : writeF f x with
      | none => rfl
      | some g => rw [hw] at h; exact bad_nil h
set_option maxHeartbeats 8000000 in
theorem apply_spec (F : Fz) (w : World) (v u : Value) (l : Forest) (ws : List Wr) (hs : Sat w F) (hv : Tns F v l) (hw : Wrs F u ws) (ok1 : ForestOk 60 l) (hb : ∀ r ∈ ws, r.name.length ≤ 100000 ∧ r.key.length ≤ 100000 ∧ r.value.length ≤ 100000) :
    Calls Try.prog 17 #[v, u] w (Gives w F (TnsE (applyE l ws).2 (applyE l ws).1)) := by
 have ok := forestE_ok.2 ok1
 have hl8 := ok1.len
 obtain ⟨a, c, rfl, hc1, hc2⟩ := Sl.shape hv
 obtain ⟨a2, c2, rfl, hc3, hc4⟩ := Sl.shape hw
 unfold maxLen at hc2 hc4
 obtain ⟨i80, hi80, hz80, hs80, hb80⟩ := info_parts info_80
 have S := St.start hs
 go_enter Try.func17, Try.ntmps17
 refine wp_seq_k (fun K1 hK1 => region_wl ?_)
 refine do_ rfl (.slice none 0 0) (ex_assign _) ?_
 simp only [pS, pN, pA, pC, pZ]
 refine do_ rfl (.int .i64 0) (ex_assign _) ?_
 simp only [pS, pN, pA, pC, pZ]
 refine wl_nil (hK1 _ _ ?_)
 refine wp_seq_k (fun K2 hK2 => ?_)
 refine wp_seq_k (fun K3 hK3 => region_wl ?_)
 refine do_ rfl (.slice a l.length c) (ex_move _) ?_
 simp only [pS, pN, pA, pC, pZ]
 refine stTells (v := (.int .i64 (forestE l))) S rfl (ex_fn (vs := #[(.slice a l.length c)]) (map1 rfl) rfl (ent_38 _ _)) (forestCheck_spec _ _ _ l (S).sat hv) (fun w4 S5 => ?_)
 simp only [pS, pN, pA, pC, pZ]
 refine do_ rfl (.int .i64 (forestE l)) (ex_assign _) ?_
 simp only [pS, pN, pA, pC, pZ]
 refine wl_nil (hK3 _ _ ?_)
 refine wp_seq_k (fun K6 hK6 => region_wl ?_)
 refine do_ rfl (.int .i64 (forestE l)) (ex_move _) ?_
 simp only [pS, pN, pA, pC, pZ]
 refine do_ rfl (.bool false) (ex_neq (m := (forestE l)) (n := (0 : Int)) (b := false) rfl rfl (bne_eq_false_iff_eq.2 (ok))) ?_
 simp only [pS, pN, pA, pC, pZ]
 refine wl_nil (hK6 _ _ ?_)
 refine wp_cond_false rfl ?_
 refine wp_skip ?_
 refine hK2 _ _ ?_
 refine wp_seq_k (fun K7 hK7 => ?_)
 refine wp_seq_k (fun K8 hK8 => region_wl ?_)
 refine do_ rfl (.slice a2 ws.length c2) (ex_move _) ?_
 simp only [pS, pN, pA, pC, pZ]
 refine do_ rfl (.int .i64 ((ws.length : Nat) : Int)) (ex_len Try.underlying47 rfl) ?_
 simp only [pS, pN, pA, pC, pZ]
 by_cases hc19 : 10 < ws.length
 ·refine do_ rfl (.bool true) (ex_gtr (m := ((ws.length : Nat) : Int)) (n := (10 : Int)) (b := true) rfl rfl (decide_eq_true (by omega))) ?_
  simp only [pS, pN, pA, pC, pZ]
  refine wl_nil (hK8 _ _ ?_)
  refine wp_cond_true rfl ?_
  refine wp_seq_k (fun K9 hK9 => region_wl ?_)
  refine do_ rfl (.slice none 0 0) (ex_assign _) ?_
  simp only [pS, pN, pA, pC, pZ]
  refine do_ rfl (.int .i64 1) (ex_assign _) ?_
  simp only [pS, pN, pA, pC, pZ]
  refine wl_nil (hK9 _ _ ?_)
  refine wp_ret ?_
  (try simp only [Exit.then, Exit.inBlock, ↓reduceIte, Nat.reduceEqDiff])
  refine bodyPost_ret (v := (.tuple #[(.slice none 0 0), (.int .i64 1)])) ?_ rfl ?_
  ·exact res_tt rfl rfl rfl
  ·have hall : applyE l ws = (1, []) := by unfold applyE; rw [if_pos (by omega)]
   rw [hall]
   exact ⟨_, _, rfl, S5.gr, _, rfl, Sl.nil _ _ _⟩
 ·refine do_ rfl (.bool false) (ex_gtr (m := ((ws.length : Nat) : Int)) (n := (10 : Int)) (b := false) rfl rfl (decide_eq_false (by omega))) ?_
  simp only [pS, pN, pA, pC, pZ]
  refine wl_nil (hK8 _ _ ?_)
  refine wp_cond_false rfl ?_
  refine wp_skip ?_
  refine hK7 _ _ ?_
  refine wp_seq_k (fun K10 hK10 => region_wl ?_)
  refine do_ rfl (.slice a l.length c) (ex_move _) ?_
  simp only [pS, pN, pA, pC, pZ]
  refine stGivesO TnC.mono S5 rfl (ex_fn (vs := #[(.slice a l.length c)]) (map1 rfl) rfl (ent_39 _ _)) (ownT_spec _ _ _ l (S5).sat hv (by omega) (fun t ht => ok1.small ht)) ?_
  intro v15 w11 F13 S12 le14
  simp only [pS, pN, pA, pC, pZ]
  have S12 : St w F w11 F13 [] [ownP 2 TnC TnC.mono 80 w.heap.size v15 l] := S12
  refine do_ rfl v15 (ex_assign _) ?_
  simp only [pS, pN, pA, pC, pZ]
  refine wl_nil (hK10 _ _ ?_)
  refine wp_seq_k (fun K16 hK16 => ?_)
  refine wp_seq_k (fun K17 hK17 => region_wl ?_)
  refine do_ rfl (.slice a2 ws.length c2) (ex_move _) ?_
  simp only [pS, pN, pA, pC, pZ]
  refine do_ rfl (.int .i64 ((ws.length : Nat) : Int)) (ex_len Try.underlying47 rfl) ?_
  simp only [pS, pN, pA, pC, pZ]
  refine do_ rfl (.int .i64 0) (ex_move _) ?_
  simp only [pS, pN, pA, pC, pZ]
  refine wl_nil (hK17 _ _ ?_)
  refine wp_block ?_
  refine wp_loop_g (fun mm aa w20 => ∃ (k : Nat) (v : Value) (F18 : Fz) (u19 : Nat → Value), mm = ws.length - k ∧ u19 = slots aa ∧ aa = ⟨#[(.slice a l.length c), (.slice a2 ws.length c2), undef, undef, (u19 4), (u19 5), (.int .i64 (forestE l)), v, undef, (u19 9), (u19 10), (u19 11), (.slice a l.length c), (.int .i64 (forestE l)), (.int .i64 (forestE l)), (.bool false), undef, (.slice a2 ws.length c2), (.int .i64 ((ws.length : Nat) : Int)), (.bool false), (.slice a l.length c), v15, (.slice a2 ws.length c2), (.int .i64 ((ws.length : Nat) : Int)), (.int .i64 ((k : Nat) : Int)), (u19 25), (u19 26), (u19 27), (u19 28), (u19 29), (u19 30), (u19 31), (u19 32), (u19 33), (u19 34), (u19 35), (u19 36), (u19 37), (u19 38), undef], []⟩ ∧ St w F w20 F18 [] [ownP 2 TnC TnC.mono 80 w.heap.size v ((applyR l (ws.take k)).2)] ∧ Le F13 F18 ∧ (k ≤ ws.length) ∧ ((applyR l (ws.take k)).1 = 0)) _ ⟨0, v15, F13, _, rfl, rfl, rfl, S12, Le.refl _, (by omega), rfl⟩ ?_
  rintro m21 a22 w23 ⟨k, v, F18, u19, rfl, -, rfl, S24, le25, hk, hz⟩ K26 hK26
  refine wp_seq_k (fun K27 hK27 => region_wl ?_)
  by_cases hc25 : k < ws.length
  ·refine do_ rfl (.bool true) (ex_lss (m := ((k : Nat) : Int)) (n := ((ws.length : Nat) : Int)) (b := true) rfl rfl (decide_eq_true (by omega))) ?_
   simp only [pS, pN, pA, pC, pZ]
   refine wl_nil (hK27 _ _ ?_)
   refine wp_seq_k (fun K28 hK28 => ?_)
   refine wp_cond_true rfl ?_
   refine wp_skip ?_
   refine hK28 _ _ ?_
   refine wp_seq_k (fun K29 hK29 => ?_)
   refine wp_block ?_
   refine wp_seq_k (fun K30 hK30 => ?_)
   obtain ⟨p, hp⟩ : ∃ p, ws[k]? = some p := ⟨ws[k], List.getElem?_eq_getElem hc25⟩
   obtain ⟨hb0, hb1, hb2⟩ := hb p (List.mem_of_getElem? hp)
   have okk := applyR_ok60 ok1 hz
   obtain ⟨b31, o32, ha33, xa35, xc36, xa39, xc40, xa44, xc45, c34, c38, c42, c43, r37, r41, r46⟩ := Wrs.get (hw.mono (le14.trans le25)) hp
   refine region_wl ?_
   refine do_ rfl (.pointer (some ⟨b31, o32 + k * 4, none⟩)) (ex_at (i := k) (sz := 4) Try.underlying47 (sizeof_27 _) rfl ha33 rfl (by omega) rfl) ?_
   simp only [pS, pN, pA, pC, pZ]
   refine do_ rfl (.agg #[(.slice xa35 p.name.length xc36), (.slice xa39 p.key.length xc40), (.bool p.gone), (.slice xa44 p.value.length xc45)]) (ex_load rfl (loadN (cs := [(.slice xa35 p.name.length xc36), (.slice xa39 p.key.length xc40), (.bool p.gone), (.slice xa44 p.value.length xc45)]) Try.underlying27 rfl (size_27) (range4 (St.fz S24 c34) (St.fz S24 c38) (St.fz S24 c42) (St.fz S24 c43)))) ?_
   simp only [pS, pN, pA, pC, pZ]
   refine stNew S24 (v := fun n => .pointer (some ⟨n, 0, none⟩)) rfl (ex_alloc (zero_27 _)) (fun n47 w48 S49 => ?_)
   simp only [pS, pN, pA, pC, pZ]
   have S49 : St w F w48 F18 [⟨n47, [(.slice none 0 0), (.slice none 0 0), (.bool false), (.slice none 0 0)], 27⟩] [ownP 2 TnC TnC.mono 80 w.heap.size v ((applyR l (ws.take k)).2)] := S49
   refine stStore (i := 0) (v := (.agg #[(.slice xa35 p.name.length xc36), (.slice xa39 p.key.length xc40), (.bool p.gone), (.slice xa44 p.value.length xc45)])) S49 rfl rfl rfl rfl (size_27) (allc4 rfl rfl rfl rfl) (Nat.le_of_ble_eq_true rfl) (fun w50 S51 => ?_)
   simp only [pS, pN, pA, pC, pZ]
   have S51 : St w F w50 F18 [⟨n47, [(.slice xa35 p.name.length xc36), (.slice xa39 p.key.length xc40), (.bool p.gone), (.slice xa44 p.value.length xc45)], 27⟩] [ownP 2 TnC TnC.mono 80 w.heap.size v ((applyR l (ws.take k)).2)] := S51
   refine wl_nil (hK30 _ _ ?_)
   refine wp_seq_k (fun K52 hK52 => region_wl ?_)
   refine do_ rfl v (ex_move _) ?_
   simp only [pS, pN, pA, pC, pZ]
   refine do_ rfl (.agg #[(.slice xa35 p.name.length xc36), (.slice xa39 p.key.length xc40), (.bool p.gone), (.slice xa44 p.value.length xc45)]) (ex_load rfl (loadN (cs := [(.slice xa35 p.name.length xc36), (.slice xa39 p.key.length xc40), (.bool p.gone), (.slice xa44 p.value.length xc45)]) Try.underlying27 rfl (size_27) (St.range S51 (i := 0) rfl 0 [(.slice xa35 p.name.length xc36), (.slice xa39 p.key.length xc40), (.bool p.gone), (.slice xa44 p.value.length xc45)] (sub_range 0 rfl)))) ?_
   simp only [pS, pN, pA, pC, pZ]
   have hwr := write_spec (St.drop S51 (L' := []) (.cons _ (List.Sublist.refl _))) (r := p) ⟨_, _, _, _, _, _, rfl, r37, r41, r46⟩ okk hb0 hb1 hb2
   refine doC rfl (ex_fn (vs := #[v, (.agg #[(.slice xa35 p.name.length xc36), (.slice xa39 p.key.length xc40), (.bool p.gone), (.slice xa44 p.value.length xc45)])]) (map2 rfl rfl) rfl (ent_40 _ _)) hwr ?_
   rintro e w54 ⟨v53, rfl, F55, le56, ⟨hz58, S57⟩ | ⟨hz58, rfl, S57⟩⟩
   ·refine ⟨_, rfl, ?_⟩
    rw [hz58]
    have hz2 := hz58
    rw [← applyR_snoc hz, ← take_snoc hp] at S57
    simp only [pS, pN, pA, pC, pZ]
    have S57 : St w F w54 F55 [] [ownP 2 TnC TnC.mono 80 w.heap.size v53 ((applyR l (ws.take (k + 1))).2)] := S57
    refine do_ rfl (.tuple #[v53, (.int .i64 0)]) (ex_move _) ?_
    simp only [pS, pN, pA, pC, pZ]
    refine do_ rfl v53 (ex_extract rfl rfl) ?_
    simp only [pS, pN, pA, pC, pZ]
    refine do_ rfl (.int .i64 0) (ex_extract rfl rfl) ?_
    simp only [pS, pN, pA, pC, pZ]
    refine do_ rfl v53 (ex_assign _) ?_
    simp only [pS, pN, pA, pC, pZ]
    refine do_ rfl (.int .i64 0) (ex_assign _) ?_
    simp only [pS, pN, pA, pC, pZ]
    refine wl_nil (hK52 _ _ ?_)
    refine wp_seq_k (fun K59 hK59 => ?_)
    refine wp_seq_k (fun K60 hK60 => region_wl ?_)
    refine do_ rfl (.int .i64 0) (ex_move _) ?_
    simp only [pS, pN, pA, pC, pZ]
    refine do_ rfl (.bool false) (ex_neq (b := false) rfl rfl (by decide)) ?_
    simp only [pS, pN, pA, pC, pZ]
    refine wl_nil (hK60 _ _ ?_)
    refine wp_cond_false rfl ?_
    refine wp_skip ?_
    refine hK59 _ _ ?_
    refine region_wl ?_
    refine do_ rfl v53 (ex_move _) ?_
    simp only [pS, pN, pA, pC, pZ]
    refine do_ rfl v53 (ex_assign _) ?_
    simp only [pS, pN, pA, pC, pZ]
    refine wl_nil (hK29 _ _ ?_)
    refine region_wl ?_
    refine do_ rfl (.int .i64 (((k + 1) : Nat) : Int)) (ex_add (m := ((k : Nat) : Int)) (n := (1 : Int)) (r := (((k + 1) : Nat) : Int)) rfl rfl (by omega) (by omega) (by omega)) ?_
    simp only [pS, pN, pA, pC, pZ]
    refine do_ rfl (.int .i64 (((k + 1) : Nat) : Int)) (ex_move _) ?_
    simp only [pS, pN, pA, pC, pZ]
    refine wl_nil ?_
    exact hK26 _ _ _ (by omega) ⟨(k + 1), v53, F55, _, rfl, rfl, rfl, S57, (le25.trans le56), (by omega), (by rw [take_snoc hp, applyR_snoc hz]; exact hz2)⟩
   ·refine ⟨_, rfl, ?_⟩
    have hbad := hz58
    simp only [pS, pN, pA, pC, pZ]
    have S57 : St w F w54 F55 [] [] := S57
    refine do_ rfl (.tuple #[(.slice none 0 0), (.int .i64 (applyR ((applyR l (ws.take k)).2) [p]).1)]) (ex_move _) ?_
    simp only [pS, pN, pA, pC, pZ]
    refine do_ rfl (.slice none 0 0) (ex_extract rfl rfl) ?_
    simp only [pS, pN, pA, pC, pZ]
    refine do_ rfl (.int .i64 (applyR ((applyR l (ws.take k)).2) [p]).1) (ex_extract rfl rfl) ?_
    simp only [pS, pN, pA, pC, pZ]
    refine do_ rfl (.slice none 0 0) (ex_assign _) ?_
    simp only [pS, pN, pA, pC, pZ]
    refine do_ rfl (.int .i64 (applyR ((applyR l (ws.take k)).2) [p]).1) (ex_assign _) ?_
    simp only [pS, pN, pA, pC, pZ]
    refine wl_nil (hK52 _ _ ?_)
    refine wp_seq_k (fun K61 hK61 => ?_)
    refine wp_seq_k (fun K62 hK62 => region_wl ?_)
    refine do_ rfl (.int .i64 (applyR ((applyR l (ws.take k)).2) [p]).1) (ex_move _) ?_
    simp only [pS, pN, pA, pC, pZ]
    refine do_ rfl (.bool true) (ex_neq (m := (applyR ((applyR l (ws.take k)).2) [p]).1) (n := (0 : Int)) (b := true) rfl rfl (bne_iff_ne.2 (hbad))) ?_
    simp only [pS, pN, pA, pC, pZ]
    refine wl_nil (hK62 _ _ ?_)
    refine wp_cond_true rfl ?_
    refine wp_seq_k (fun K63 hK63 => region_wl ?_)
    refine do_ rfl (.int .i64 (applyR ((applyR l (ws.take k)).2) [p]).1) (ex_move _) ?_
    simp only [pS, pN, pA, pC, pZ]
    refine do_ rfl (.slice none 0 0) (ex_assign _) ?_
    simp only [pS, pN, pA, pC, pZ]
    refine do_ rfl (.int .i64 (applyR ((applyR l (ws.take k)).2) [p]).1) (ex_assign _) ?_
    simp only [pS, pN, pA, pC, pZ]
    refine wl_nil (hK63 _ _ ?_)
    refine wp_ret ?_
    (try simp only [Exit.then, Exit.inBlock, ↓reduceIte, Nat.reduceEqDiff])
    refine bodyPost_ret (v := (.tuple #[(.slice none 0 0), (.int .i64 (applyR ((applyR l (ws.take k)).2) [p]).1)])) ?_ rfl ?_
    ·exact res_tt rfl rfl rfl
    ·have hall : applyE l ws = applyR l (ws.take (k + 1)) := by
      unfold applyE
      rw [if_neg (by omega)]
      have h := applyR_stop (us := ws.drop (k + 1)) (ws := ws.take (k + 1)) (f := l) (by rw [take_snoc hp, applyR_snoc hz]; exact hbad)
      rwa [List.take_append_drop] at h
     rw [hall, take_snoc hp, applyR_snoc hz, bad_nil hbad]
     exact ⟨_, _, rfl, S57.gr, _, rfl, Sl.nil _ _ _⟩
  ·refine do_ rfl (.bool false) (ex_lss (m := ((k : Nat) : Int)) (n := ((ws.length : Nat) : Int)) (b := false) rfl rfl (decide_eq_false (by omega))) ?_
   simp only [pS, pN, pA, pC, pZ]
   refine wl_nil (hK27 _ _ ?_)
   refine wp_seq_k (fun K64 hK64 => ?_)
   refine wp_cond_false rfl ?_
   refine wp_exit ?_
   refine hK16 _ _ ?_
   refine wp_seq_k (fun K65 hK65 => region_wl ?_)
   refine do_ rfl v (ex_move _) ?_
   simp only [pS, pN, pA, pC, pZ]
   refine do_ rfl v (ex_assign _) ?_
   simp only [pS, pN, pA, pC, pZ]
   refine do_ rfl (.int .i64 0) (ex_assign _) ?_
   simp only [pS, pN, pA, pC, pZ]
   refine wl_nil (hK65 _ _ ?_)
   refine wp_ret ?_
   (try simp only [Exit.then, Exit.inBlock, ↓reduceIte, Nat.reduceEqDiff])
   refine bodyPost_ret (v := (.tuple #[v, (.int .i64 0)])) ?_ rfl ?_
   ·exact res_tt rfl rfl rfl
   ·have hall : applyE l ws = applyR l (ws.take k) := by unfold applyE; rw [if_neg (by omega), List.take_of_length_le (by omega)]
    rw [hall, hz]
    obtain ⟨F66, S67, le68, hv69⟩ := St.freeze S24 (i := 0) rfl (Nat.le_refl _)
    have S67 : St w F w23 F66 [] [] := S67
    have hv69 : Tns _ v ((applyR l (ws.take k)).2) := hv69
    exact ⟨_, _, rfl, S67.gr, _, rfl, hv69⟩
theorem checkedOk_spec (F : Fz) (w : World) (v u : Value) (l : Forest) (k : By) (hs : Sat w F) (hv : Tns F v l) (hu : Bs F u k) (ok1 : ForestOk 60 l) {e : Int} (he : nameN k.length = e) :
    Calls Try.prog 36 #[v, u] w (Tells w (.int .i64 e)) := by
  subst he; exact checkedT_spec F w v u l k hs hv hu ok1
theorem stTree {P : Program} {w0 w : World} {F0 F : Fz} {L : List Blk} {M : List RowP} {ops : Array Oper} {Q : Exit → Act → World → Prop} {a : Act} {rest : List Oper} {o : Oper} {k : FuncId} {vs : Array Value} {l : List Pr} (S : St w0 F0 w F L M) (hw : Region.wanted o (yielded ops a.tmps) = true)
    (hr : (execOp a.eval o).run P w = .ok (.enter k vs) w) (hc : Calls P k vs w fun e w' => ∃ x, e = .returned x ∧ Below w.heap.size w w' ∧ Prs F x l)
    (h : ∀ x w', St w0 F0 w' F L M → Prs F x l → WL P ops Q rest (a.put o.dst x) w') : WL P ops Q (o :: rest) a w :=
  doC hw hr hc fun e w' ⟨x, he, hb, hp⟩ => ⟨x, he, h x w' (S.tells hb) hp⟩
set_option maxHeartbeats 8000000 in
theorem getF_spec (F : Fz) (w : World) (v u z : Value) (l : Forest) (n k : By) (hs : Sat w F) (hv : Tns F v l) (hn : Bs F u n) (hk : Bs F z k) (ok1 : ForestOk 60 l) (hnn : 1 ≤ n.length ∧ n.length ≤ 8) (hkk : 1 ≤ k.length ∧ k.length ≤ 16) :
    Calls Try.prog 16 #[v, u, z] w (Gives w F (GetR (getF l n k) 0)) := by
 have hn0 := nameN_ok hnn.1 hnn.2
 have hl8 := ok1.len
 obtain ⟨a, c, rfl, hc1, hc2⟩ := Sl.shape hv
 obtain ⟨a2, c2, rfl, _⟩ := hn.shape
 obtain ⟨a3, c3, rfl, _⟩ := hk.shape
 have S := St.start hs
 go_enter Try.func16, Try.ntmps16
 refine wp_seq_k (fun K1 hK1 => region_wl ?_)
 refine stNew S (v := fun n => .pointer (some ⟨n, 0, none⟩)) rfl (ex_alloc (zero_38 _)) (fun n2 w3 S4 => ?_)
 simp only [pS, pN, pA, pC, pZ]
 have S4 : St w F w3 F [⟨n2, [(.bool false), (.slice none 0 0)], 38⟩] [] := S4
 refine do_ rfl (.int .i64 0) (ex_assign _) ?_
 simp only [pS, pN, pA, pC, pZ]
 refine wl_nil (hK1 _ _ ?_)
 refine wp_seq_k (fun K5 hK5 => ?_)
 refine wp_seq_k (fun K6 hK6 => region_wl ?_)
 refine do_ rfl (.slice a l.length c) (ex_move _) ?_
 simp only [pS, pN, pA, pC, pZ]
 refine do_ rfl (.slice a2 n.length c2) (ex_move _) ?_
 simp only [pS, pN, pA, pC, pZ]
 refine stTells (v := (.int .i64 0)) S4 rfl (ex_fn (vs := #[(.slice a l.length c), (.slice a2 n.length c2)]) (map2 rfl rfl) rfl (ent_36 _ _)) (checkedOk_spec _ _ _ _ l n (S4).sat hv hn ok1 hn0) (fun w7 S8 => ?_)
 simp only [pS, pN, pA, pC, pZ]
 refine do_ rfl (.int .i64 0) (ex_assign _) ?_
 simp only [pS, pN, pA, pC, pZ]
 refine wl_nil (hK6 _ _ ?_)
 refine wp_seq_k (fun K9 hK9 => region_wl ?_)
 refine do_ rfl (.int .i64 0) (ex_move _) ?_
 simp only [pS, pN, pA, pC, pZ]
 refine do_ rfl (.bool false) (ex_neq (b := false) rfl rfl (by decide)) ?_
 simp only [pS, pN, pA, pC, pZ]
 refine wl_nil (hK9 _ _ ?_)
 refine wp_cond_false rfl ?_
 refine wp_skip ?_
 refine hK5 _ _ ?_
 refine wp_seq_k (fun K10 hK10 => region_wl ?_)
 refine do_ rfl (.slice a l.length c) (ex_move _) ?_
 simp only [pS, pN, pA, pC, pZ]
 refine do_ rfl (.slice a2 n.length c2) (ex_move _) ?_
 simp only [pS, pN, pA, pC, pZ]
 refine stTree S8 rfl (ex_fn (vs := #[(.slice a l.length c), (.slice a2 n.length c2)]) (map2 rfl rfl) rfl (ent_37 _ _)) (pairsT_spec _ _ _ _ l n (S8).sat hv hn ok1.rise (by omega)) ?_
 intro x11 w12 S13 hp14
 obtain ⟨a15, c16, rfl, _⟩ := Sl.shape hp14
 simp only [pS, pN, pA, pC, pZ]
 have S13 : St w F w12 F [⟨n2, [(.bool false), (.slice none 0 0)], 38⟩] [] := S13
 refine do_ rfl (.slice a3 k.length c3) (ex_move _) ?_
 simp only [pS, pN, pA, pC, pZ]
 refine stGives S13 rfl (ex_fn (vs := #[(.slice a15 (treeF l n).length c16), (.slice a3 k.length c3)]) (map2 rfl rfl) rfl (ent_9 _ _)) (getIs_spec _ _ _ _ (treeF l n) k (S13).sat hp14 hk (TreeOk.mono (show TreeOk 60 (treeF l n) from treeF_ok ok1 n) (by omega)) (hkk) (rfl)) ?_
 intro v22 w17 F19 S18 le20 R21
 obtain ⟨_, rfl, a23, c24, rfl, r25⟩ := R21
 have r25 : Bs _ (.slice a23 ((getT (treeF l n) k).getD []).length c24) ((getT (treeF l n) k).getD []) := r25
 simp only [pS, pN, pA, pC, pZ]
 refine do_ rfl (.agg #[(.bool (getT (treeF l n) k).isSome), (.slice a23 ((getT (treeF l n) k).getD []).length c24)]) (ex_extract rfl rfl) ?_
 simp only [pS, pN, pA, pC, pZ]
 refine do_ rfl (.int .i64 0) (ex_extract rfl rfl) ?_
 simp only [pS, pN, pA, pC, pZ]
 refine stStore (i := 0) (v := (.agg #[(.bool (getT (treeF l n) k).isSome), (.slice a23 ((getT (treeF l n) k).getD []).length c24)])) S18 rfl rfl rfl rfl (size_38) (allc2 rfl rfl) (Nat.le_of_ble_eq_true rfl) (fun w26 S27 => ?_)
 simp only [pS, pN, pA, pC, pZ]
 have S27 : St w F w26 F19 [⟨n2, [(.bool (getT (treeF l n) k).isSome), (.slice a23 ((getT (treeF l n) k).getD []).length c24)], 38⟩] [] := S27
 refine do_ rfl (.int .i64 0) (ex_assign _) ?_
 simp only [pS, pN, pA, pC, pZ]
 refine wl_nil (hK10 _ _ ?_)
 refine wp_ret ?_
 (try simp only [Exit.then, Exit.inBlock, ↓reduceIte, Nat.reduceEqDiff])
 refine bodyPost_ret (v := (.tuple #[(.agg #[(.bool (getT (treeF l n) k).isSome), (.slice a23 ((getT (treeF l n) k).getD []).length c24)]), (.int .i64 0)])) ?_ rfl ?_
 ·exact res_ct rfl ⟨_, rfl, loadN (cs := [(.bool (getT (treeF l n) k).isSome), (.slice a23 ((getT (treeF l n) k).getD []).length c24)]) Try.underlying38 rfl (size_38) (St.range S27 (i := 0) rfl 0 [(.bool (getT (treeF l n) k).isSome), (.slice a23 ((getT (treeF l n) k).getD []).length c24)] (sub_range 0 rfl))⟩ rfl
 ·exact ⟨_, _, rfl, S27.gr, _, rfl, _, _, rfl, r25⟩
end Go.Proofs.Ytlimmmidfhpakaa
