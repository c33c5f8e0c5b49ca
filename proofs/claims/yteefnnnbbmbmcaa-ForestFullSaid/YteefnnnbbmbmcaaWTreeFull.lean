/- Walk of TreeFull -/
import Derived.Test.YteefnnnbbmbmcaaK3
import Derived.Test.YteefnnnbbmbmcaaP7
namespace Go.Proofs.Yteefnnnbbmbmcaa
open Go.RowKit
set_option maxRecDepth 100000
set_option linter.unusedVariables false
set_option linter.unusedSimpArgs false
theorem bv_b8 {z : Nat} (h : z < 256) : bv (b8 z) = .int .u8 (z : Int) := by unfold bv; rw [b8_toNat h]
def tfP (i : Nat) : Pr := ([b8 (i + 1)], [])
def tfL (k : Nat) : List Pr := (List.range k).map tfP
theorem tfL_succ (k : Nat) : tfL (k + 1) = tfL k ++ [([b8 (k + 1)], [])] := by unfold tfL; rw [List.range_succ, List.map_append]; rfl
theorem tfL_len (k : Nat) : (tfL k).length = k := by simp [tfL]
theorem tfL_ok : TreeOk 60 (tfL 60) := treeE_ok.1 (by decide +kernel)
theorem tfL_has : ∀ z, z < 256 → hasT (tfL 60) [b8 z] = decide (1 ≤ z ∧ z ≤ 60) := by decide +kernel
theorem conv_i8 (z : Nat) (h : z < 256) (w : World) : (convert 3 5 (.int .i64 (z : Int))).run Try.prog w = .ok (.int .u8 (z : Int)) w := by
  have e : IntKind.u8.wrap (z : Int) = (z : Int) := by
    rw [show IntKind.u8.wrap (z : Int) = (z : Int) % 256 from rfl]; omega
  go_simp
theorem full_yes {z : Nat} {v : By} (h : z < 256) (h1 : 1 ≤ z ∧ z ≤ 60) (hv : v.length ≤ 32) : putE (tfL 60) ([b8 z], v) = 0 ∧ putR (tfL 60) ([b8 z], v) = putT (tfL 60) [b8 z] v ∧ (putT (tfL 60) [b8 z] v).length = 60 ∧ TreeOk 60 (putT (tfL 60) [b8 z] v) := by
  have hh := tfL_has z h
  rw [decide_eq_true h1] at hh
  have hl : (putT (tfL 60) [b8 z] v).length = 60 := by rw [len_putT, if_pos hh, tfL_len]
  have hp : PairOk ([b8 z], v) := ⟨by simp, by simp, hv⟩
  have he : putE (tfL 60) ([b8 z], v) = 0 := by unfold putE; rw [if_neg (by rw [pairE_ok.2 hp]; simp), if_neg (by rw [hl]; omega)]
  exact ⟨he, by unfold putR; rw [if_pos he], hl, tfL_ok.put hp (by omega)⟩
theorem full_no {z : Nat} {v : By} (h : z < 256) (h1 : ¬ (1 ≤ z ∧ z ≤ 60)) (hv : v.length ≤ 32) : putE (tfL 60) ([b8 z], v) = 11 ∧ putR (tfL 60) ([b8 z], v) = [] := by
  have hh := tfL_has z h
  rw [decide_eq_false h1] at hh
  have hl : (putT (tfL 60) [b8 z] v).length = 61 := by rw [len_putT, if_neg (by rw [hh]; simp), tfL_len]
  have hp : PairOk ([b8 z], v) := ⟨by simp, by simp, hv⟩
  have he : putE (tfL 60) ([b8 z], v) = 11 := by unfold putE; rw [if_neg (by rw [pairE_ok.2 hp]; simp), if_pos (by rw [hl]; omega)]
  exact ⟨he, by unfold putR; rw [he]; rfl⟩
set_option maxHeartbeats 8000000 in
theorem treeFull_walk (W : World) (x0 : Int) (b0 : -9223372036854775808 ≤ x0) (b0' : x0 ≤ 9223372036854775807) (v1 : Value) (l1 : By) (z1 : Bs (whole W) v1 l1) :
    Calls Try.prog 13 #[.int .i64 x0, v1] W (Tells W (.bool true)) := by
  obtain ⟨hp0, hp1⟩ := pick_bd x0 256 (by omega)
  obtain ⟨kn, hkn⟩ : ∃ kn : Nat, pick x0 256 = (kn : Int) := ⟨(pick x0 256).toNat, (Int.toNat_of_nonneg hp0).symm⟩
  have hkb : kn < 256 := by omega
  obtain ⟨a1, c1, rfl, _⟩ := z1.shape
  have S := St.start (Sat.whole W)
  go_enter Try.func13, Try.ntmps13
  obtain ⟨i49, hi49, hz49, hs49, hb49⟩ := info_parts info_49
  refine wp_seq_k (fun K1 hK1 => ?_)
  refine region_wl ?_
  refine do_ rfl (.bool false) (ex_assign _) ?_
  simp only [Act.put, List.setIfInBounds_toArray, List.set_cons_succ, List.set_cons_zero]
  refine wl_nil ?_
  (try simp only [Exit.then, Exit.inBlock, ↓reduceIte, Nat.reduceEqDiff])
  refine hK1 _ _ ?_
  refine wp_seq_k (fun K2 hK2 => ?_)
  refine region_wl ?_
  refine do_ rfl (.slice none 0 0) (ex_assign _) ?_
  simp only [Act.put, List.setIfInBounds_toArray, List.set_cons_succ, List.set_cons_zero]
  refine wl_nil ?_
  (try simp only [Exit.then, Exit.inBlock, ↓reduceIte, Nat.reduceEqDiff])
  refine hK2 _ _ ?_
  refine wp_seq_k (fun K3 hK3 => ?_)
  refine wp_seq_k (fun K4 hK4 => ?_)
  refine region_wl ?_
  refine do_ rfl (.int .i64 0) (ex_assign _) ?_
  simp only [Act.put, List.setIfInBounds_toArray, List.set_cons_succ, List.set_cons_zero]
  refine wl_nil ?_
  (try simp only [Exit.then, Exit.inBlock, ↓reduceIte, Nat.reduceEqDiff])
  refine hK4 _ _ ?_
  refine wp_block ?_
  have S5 := St.addNil S 2 PrC PrC.mono 49 W.heap.size
  refine wp_loop_g (fun mm aa w8 => ∃ (k : Nat) (v : Value) (F6 : Fz) (u7 : Nat → Value), mm = 60 - k ∧ aa = ⟨#[(.int .i64 x0), (.slice a1 l1.length c1), undef, undef, (.bool false), v, (.int .i64 ((k : Nat) : Int)), undef, undef, undef, (u7 10), (u7 11), (u7 12), (u7 13), (u7 14), (u7 15), (u7 16), (u7 17), (u7 18), (u7 19), (u7 20), (u7 21), undef, undef, undef, undef, undef, undef, undef, undef, undef, undef, undef, undef, undef, undef, undef, undef, undef, undef, undef, undef, undef, undef, undef, undef, undef, undef, undef, undef, undef, undef, undef, undef, undef, undef, undef, undef, undef, undef, undef, undef, undef, undef, undef], []⟩ ∧ St W (whole W) w8 F6 [] [ownP 2 PrC PrC.mono 49 W.heap.size v (tfL k)] ∧ Le (whole W) F6 ∧ (k ≤ 60)) _ ⟨0, (.slice none 0 0), (whole W), (slotF [(.int .i64 x0), (.slice a1 l1.length c1), undef, undef, (.bool false), (.slice none 0 0), (.int .i64 0), undef, undef, undef, undef, undef, undef, undef, undef, undef, undef, undef, undef, undef, undef, undef, undef, undef, undef, undef, undef, undef, undef, undef, undef, undef, undef, undef, undef, undef, undef, undef, undef, undef, undef, undef, undef, undef, undef, undef, undef, undef, undef, undef, undef, undef, undef, undef, undef, undef, undef, undef, undef, undef, undef, undef, undef, undef, undef]), rfl, rfl, S5, Le.refl _, (by omega)⟩ ?_
  rintro m9 a10 w11 ⟨k, v, F6, u7, rfl, rfl, S12, le13, hk⟩ K14 hK14
  refine wp_seq_k (fun K15 hK15 => ?_)
  refine wp_seq_k (fun K16 hK16 => ?_)
  refine region_wl ?_
  refine do_ rfl (.int .i64 ((k : Nat) : Int)) (ex_move _) ?_
  simp only [Act.put, List.setIfInBounds_toArray, List.set_cons_succ, List.set_cons_zero]
  by_cases hc11 : k < 60
  · refine do_ rfl (.bool true) (ex_lss (m := ((k : Nat) : Int)) (n := (60 : Int)) (b := true) rfl rfl (decide_eq_true (by omega))) ?_
    simp only [Act.put, List.setIfInBounds_toArray, List.set_cons_succ, List.set_cons_zero]
    refine wl_nil ?_
    (try simp only [Exit.then, Exit.inBlock, ↓reduceIte, Nat.reduceEqDiff])
    refine hK16 _ _ ?_
    refine wp_cond_true rfl ?_
    refine wp_skip ?_
    (try simp only [Exit.then, Exit.inBlock, ↓reduceIte, Nat.reduceEqDiff])
    refine hK15 _ _ ?_
    refine wp_seq_k (fun K17 hK17 => ?_)
    refine wp_block ?_
    refine region_wl ?_
    refine do_ rfl v (ex_move _) ?_
    simp only [Act.put, List.setIfInBounds_toArray, List.set_cons_succ, List.set_cons_zero]
    refine do_ rfl (.int .i64 ((k : Nat) : Int)) (ex_move _) ?_
    simp only [Act.put, List.setIfInBounds_toArray, List.set_cons_succ, List.set_cons_zero]
    refine do_ rfl (.int .i64 (((k + 1) : Nat) : Int)) (ex_add (m := ((k : Nat) : Int)) (n := (1 : Int)) (r := (((k + 1) : Nat) : Int)) rfl rfl (by omega) (by omega) (by omega)) ?_
    simp only [Act.put, List.setIfInBounds_toArray, List.set_cons_succ, List.set_cons_zero]
    refine do_ rfl (.int .u8 (((k + 1) : Nat) : Int)) (ex_convert (v := (.int .i64 (((k + 1) : Nat) : Int))) rfl (conv_i8 (k + 1) (by omega) _)) ?_
    simp only [Act.put, List.setIfInBounds_toArray, List.set_cons_succ, List.set_cons_zero]
    refine stNew S12 (v := fun n => .slice (some ⟨n, 0, none⟩) 1 1) rfl (ex_lit (ps := #[(0, (.int .u8 (((k + 1) : Nat) : Int)))]) (cells := #[(.int .u8 (((k + 1) : Nat) : Int))]) (E := 5) (bmap1 rfl) (fun w => by kernel_rfl)) (fun n18 w19 S20 => ?_)
    simp only [Act.put, List.setIfInBounds_toArray, List.set_cons_succ, List.set_cons_zero]
    have S20 : St W (whole W) w19 F6 [⟨n18, [(.int .u8 (((k + 1) : Nat) : Int))], 5⟩] [ownP 2 PrC PrC.mono 49 W.heap.size v (tfL k)] := S20
    refine do_ rfl (.agg #[(.slice (some ⟨n18, 0, none⟩) 1 1), (.slice none 0 0)]) (ex_build (ps := #[(0, (.slice (some ⟨n18, 0, none⟩) 1 1))]) (bmap1 rfl) (by kernel_rfl)) ?_
    simp only [Act.put, List.setIfInBounds_toArray, List.set_cons_succ, List.set_cons_zero]
    refine stNew S20 (v := fun n => .slice (some ⟨n, 0, none⟩) 1 1) rfl (ex_lit (ps := #[(0, (.agg #[(.slice (some ⟨n18, 0, none⟩) 1 1), (.slice none 0 0)]))]) (cells := #[(.slice (some ⟨n18, 0, none⟩) 1 1), (.slice none 0 0)]) (E := 49) (bmap1 rfl) (fun w => by kernel_rfl)) (fun n21 w22 S23 => ?_)
    simp only [Act.put, List.setIfInBounds_toArray, List.set_cons_succ, List.set_cons_zero]
    have S23 : St W (whole W) w22 F6 [⟨n21, [(.slice (some ⟨n18, 0, none⟩) 1 1), (.slice none 0 0)], 49⟩, ⟨n18, [(.int .u8 (((k + 1) : Nat) : Int))], 5⟩] [ownP 2 PrC PrC.mono 49 W.heap.size v (tfL k)] := S23
    obtain ⟨S24, le25, hc26⟩ := St.freezeBlk S23 (i := 1) rfl
    have r28 : Bs _ (.slice (some ⟨n18, 0, none⟩) 1 1) ([b8 (k + 1)] : By) := bs_of_block (l := ([b8 (k + 1)] : By)) hc26 ((by simp only [List.map_cons, List.map_nil]; rw [bv_b8 (by omega)])) (by unfold maxLen; simp)
    generalize addF F6 w22 n18 = F27 at *
    have S24 : St W (whole W) w22 F27 [⟨n21, [(.slice (some ⟨n18, 0, none⟩) 1 1), (.slice none 0 0)], 49⟩] [ownP 2 PrC PrC.mono 49 W.heap.size v (tfL k)] := S24
    have htl := tfL_len k
    refine stPush (i := 0) (r := 0) (p := ([b8 (k + 1)], [])) (cs := [(.slice (some ⟨n18, 0, none⟩) 1 1), (.slice none 0 0)]) S24 rfl i49 (.agg #[(.slice none 0 0), (.slice none 0 0)]) 48 Try.underlying44 hi49 hz49 hs49 hb49 rfl (by decide) rfl rfl rfl rfl rfl (PrC.oneCell (p := ([b8 (k + 1)], [])) ⟨_, _, rfl, r28, Bs.nil _⟩) (⟨_, _, rfl, r28, Bs.nil _⟩) (Nat.le_refl _) S24.gr.below.size (by unfold maxLen; omega) (by omega) ?_
    intro v29 w30 S31 hn32
    simp only [Act.put, List.setIfInBounds_toArray, List.set_cons_succ, List.set_cons_zero]
    have S31 := St.drop S31 (L' := []) (.cons _ (List.Sublist.refl _))
    have S31 : St W (whole W) w30 F27 [] [ownP 2 PrC PrC.mono 49 W.heap.size v29 ((tfL k) ++ [([b8 (k + 1)], [])])] := S31
    refine do_ rfl v29 (ex_assign _) ?_
    simp only [Act.put, List.setIfInBounds_toArray, List.set_cons_succ, List.set_cons_zero]
    refine wl_nil ?_
    (try simp only [Exit.then, Exit.inBlock, ↓reduceIte, Nat.reduceEqDiff])
    refine hK17 _ _ ?_
    refine region_wl ?_
    refine do_ rfl (.int .i64 ((k : Nat) : Int)) (ex_move _) ?_
    simp only [Act.put, List.setIfInBounds_toArray, List.set_cons_succ, List.set_cons_zero]
    refine do_ rfl (.int .i64 (((k + 1) : Nat) : Int)) (ex_add (m := ((k : Nat) : Int)) (n := (1 : Int)) (r := (((k + 1) : Nat) : Int)) rfl rfl (by omega) (by omega) (by omega)) ?_
    simp only [Act.put, List.setIfInBounds_toArray, List.set_cons_succ, List.set_cons_zero]
    refine do_ rfl (.int .i64 (((k + 1) : Nat) : Int)) (ex_assign _) ?_
    simp only [Act.put, List.setIfInBounds_toArray, List.set_cons_succ, List.set_cons_zero]
    refine wl_nil ?_
    (try simp only [Exit.then, Exit.inBlock, ↓reduceIte, Nat.reduceEqDiff])
    rw [← tfL_succ] at S31
    exact hK14 _ _ _ (by omega) ⟨(k + 1), v29, F27, (slotF [(.int .i64 x0), (.slice a1 l1.length c1), undef, undef, (.bool false), v29, (.int .i64 (((k + 1) : Nat) : Int)), undef, undef, undef, (.int .i64 ((k : Nat) : Int)), (.bool true), (.int .i64 ((k : Nat) : Int)), (.int .i64 (((k + 1) : Nat) : Int)), v, (.int .i64 ((k : Nat) : Int)), (.int .i64 (((k + 1) : Nat) : Int)), (.int .u8 (((k + 1) : Nat) : Int)), (.slice (some ⟨n18, 0, none⟩) 1 1), (.agg #[(.slice (some ⟨n18, 0, none⟩) 1 1), (.slice none 0 0)]), (.slice (some ⟨n21, 0, none⟩) 1 1), v29, undef, undef, undef, undef, undef, undef, undef, undef, undef, undef, undef, undef, undef, undef, undef, undef, undef, undef, undef, undef, undef, undef, undef, undef, undef, undef, undef, undef, undef, undef, undef, undef, undef, undef, undef, undef, undef, undef, undef, undef, undef, undef, undef]), rfl, rfl, S31, (le13.trans le25), (by omega)⟩
  · refine do_ rfl (.bool false) (ex_lss (m := ((k : Nat) : Int)) (n := (60 : Int)) (b := false) rfl rfl (decide_eq_false (by omega))) ?_
    simp only [Act.put, List.setIfInBounds_toArray, List.set_cons_succ, List.set_cons_zero]
    refine wl_nil ?_
    (try simp only [Exit.then, Exit.inBlock, ↓reduceIte, Nat.reduceEqDiff])
    refine hK16 _ _ ?_
    refine wp_cond_false rfl ?_
    refine wp_exit ?_
    (try simp only [Exit.then, Exit.inBlock, ↓reduceIte, Nat.reduceEqDiff])
    refine hK3 _ _ ?_
    refine wp_seq_k (fun K33 hK33 => ?_)
    have hk60 : tfL k = tfL 60 := by rw [show k = 60 from by omega]
    rw [hk60] at S12
    obtain ⟨F34, S35, le36, hv37⟩ := St.freeze S12 (i := 0) rfl (Nat.le_refl _)
    have S35 : St W (whole W) w11 F34 [] [] := S35
    have hv37 : Prs _ v (tfL 60) := hv37
    obtain ⟨a38, c39, rfl, h40, h41⟩ := Sl.shape hv37
    unfold maxLen at h41
    refine region_wl ?_
    refine do_ rfl (.int .i64 x0) (ex_move _) ?_
    simp only [Act.put, List.setIfInBounds_toArray, List.set_cons_succ, List.set_cons_zero]
    refine stTells (v := (.int .i64 ((kn : Nat) : Int))) S35 rfl (ex_fn (vs := #[(.int .i64 x0), (.int .i64 256)]) (map2 rfl rfl) rfl (ent_39 _ _)) (hkn ▸ tells_same (picked_spec x0 (256 : Int) _ b0 b0' (by omega) (by omega))) (fun w42 S43 => ?_)
    simp only [Act.put, List.setIfInBounds_toArray, List.set_cons_succ, List.set_cons_zero]
    have S43 : St W (whole W) w42 F34 [] [] := S43
    refine do_ rfl (.int .i64 ((kn : Nat) : Int)) (ex_assign _) ?_
    simp only [Act.put, List.setIfInBounds_toArray, List.set_cons_succ, List.set_cons_zero]
    refine wl_nil ?_
    (try simp only [Exit.then, Exit.inBlock, ↓reduceIte, Nat.reduceEqDiff])
    refine hK33 _ _ ?_
    refine wp_seq_k (fun K44 hK44 => ?_)
    by_cases hr : 1 ≤ kn ∧ kn ≤ 60
    · refine region_wl ?_
      refine do_ rfl (.slice a38 (tfL 60).length c39) (ex_move _) ?_
      simp only [Act.put, List.setIfInBounds_toArray, List.set_cons_succ, List.set_cons_zero]
      refine do_ rfl (.int .i64 ((kn : Nat) : Int)) (ex_move _) ?_
      simp only [Act.put, List.setIfInBounds_toArray, List.set_cons_succ, List.set_cons_zero]
      refine do_ rfl (.int .u8 ((kn : Nat) : Int)) (ex_convert (v := (.int .i64 ((kn : Nat) : Int))) rfl (conv_i8 kn (by omega) _)) ?_
      simp only [Act.put, List.setIfInBounds_toArray, List.set_cons_succ, List.set_cons_zero]
      refine stNew S43 (v := fun n => .slice (some ⟨n, 0, none⟩) 1 1) rfl (ex_lit (ps := #[(0, (.int .u8 ((kn : Nat) : Int)))]) (cells := #[(.int .u8 ((kn : Nat) : Int))]) (E := 5) (bmap1 rfl) (fun w => by kernel_rfl)) (fun n45 w46 S47 => ?_)
      simp only [Act.put, List.setIfInBounds_toArray, List.set_cons_succ, List.set_cons_zero]
      have S47 : St W (whole W) w46 F34 [⟨n45, [(.int .u8 ((kn : Nat) : Int))], 5⟩] [] := S47
      refine do_ rfl (.slice a1 l1.length c1) (ex_move _) ?_
      simp only [Act.put, List.setIfInBounds_toArray, List.set_cons_succ, List.set_cons_zero]
      refine stGives S47 rfl (ex_fn (vs := #[(.slice a1 l1.length c1), (.int .i64 32)]) (map2 rfl rfl) rfl (ent_52 _ _)) (some_spec _ _ _ l1 32 (S47).sat (z1.mono (le13.trans le36)) (by omega) (by omega)) ?_
      intro v53 w48 F50 S49 le51 R52
      obtain ⟨xa54, xc55, rfl, _⟩ := R52.shape
      simp only [Act.put, List.setIfInBounds_toArray, List.set_cons_succ, List.set_cons_zero]
      have S49 : St W (whole W) w48 F50 [⟨n45, [(.int .u8 ((kn : Nat) : Int))], 5⟩] [] := S49
      refine do_ rfl (.agg #[(.slice (some ⟨n45, 0, none⟩) 1 1), (.slice xa54 (l1.take 32).length xc55)]) (ex_build (ps := #[(0, (.slice (some ⟨n45, 0, none⟩) 1 1)), (1, (.slice xa54 (l1.take 32).length xc55))]) (bmap2 rfl rfl) (by kernel_rfl)) ?_
      simp only [Act.put, List.setIfInBounds_toArray, List.set_cons_succ, List.set_cons_zero]
      obtain ⟨S56, le57, hc58⟩ := St.freezeBlk S49 (i := 0) rfl
      have r60 : Bs _ (.slice (some ⟨n45, 0, none⟩) 1 1) ([b8 kn] : By) := bs_of_block (l := ([b8 kn] : By)) hc58 ((by simp only [List.map_cons, List.map_nil]; rw [bv_b8 (by omega)])) (by unfold maxLen; simp)
      generalize addF F50 w48 n45 = F59 at *
      have S56 : St W (whole W) w48 F59 [] [] := S56
      have hv32 : (l1.take 32).length ≤ 32 := by simp; omega
      obtain ⟨he, hr1, hr2, hr3⟩ := full_yes (v := (l1.take 32)) hkb hr hv32
      refine stGives S56 rfl (ex_fn (vs := #[(.slice a38 (tfL 60).length c39), (.agg #[(.slice (some ⟨n45, 0, none⟩) 1 1), (.slice xa54 (l1.take 32).length xc55)])]) (map2 rfl rfl) rfl (ent_53 _ _)) ((he ▸ hr1 ▸ put_spec _ _ _ _ (tfL 60) ([b8 kn], (l1.take 32)) (S56).sat (hv37.mono (le51.trans le57)) ⟨_, _, _, _, rfl, r60, (R52.mono le57)⟩ tfL_ok (by simp) (by simp; omega))) ?_
      intro v66 w61 F63 S62 le64 R65
      obtain ⟨_, rfl, r69⟩ := R65
      obtain ⟨a67, c68, rfl, h70, h71⟩ := Sl.shape r69
      unfold maxLen at h71
      have h70 : (putT (tfL 60) [b8 kn] (l1.take 32)).length ≤ c68 := h70
      have r69 : Prs _ (.slice a67 (putT (tfL 60) [b8 kn] (l1.take 32)).length c68) (putT (tfL 60) [b8 kn] (l1.take 32)) := r69
      simp only [Act.put, List.setIfInBounds_toArray, List.set_cons_succ, List.set_cons_zero]
      have S62 : St W (whole W) w61 F63 [] [] := S62
      refine do_ rfl (.tuple #[(.slice a67 (putT (tfL 60) [b8 kn] (l1.take 32)).length c68), (.int .i64 0)]) (ex_move _) ?_
      simp only [Act.put, List.setIfInBounds_toArray, List.set_cons_succ, List.set_cons_zero]
      refine do_ rfl (.slice a67 (putT (tfL 60) [b8 kn] (l1.take 32)).length c68) (ex_extract rfl rfl) ?_
      simp only [Act.put, List.setIfInBounds_toArray, List.set_cons_succ, List.set_cons_zero]
      refine do_ rfl (.int .i64 0) (ex_extract rfl rfl) ?_
      simp only [Act.put, List.setIfInBounds_toArray, List.set_cons_succ, List.set_cons_zero]
      refine do_ rfl (.slice a67 (putT (tfL 60) [b8 kn] (l1.take 32)).length c68) (ex_assign _) ?_
      simp only [Act.put, List.setIfInBounds_toArray, List.set_cons_succ, List.set_cons_zero]
      refine do_ rfl (.int .i64 0) (ex_assign _) ?_
      simp only [Act.put, List.setIfInBounds_toArray, List.set_cons_succ, List.set_cons_zero]
      refine wl_nil ?_
      (try simp only [Exit.then, Exit.inBlock, ↓reduceIte, Nat.reduceEqDiff])
      refine hK44 _ _ ?_
      refine wp_seq_k (fun K72 hK72 => ?_)
      refine wp_seq_k (fun K73 hK73 => ?_)
      refine region_wl ?_
      refine do_ rfl (.int .i64 ((kn : Nat) : Int)) (ex_move _) ?_
      simp only [Act.put, List.setIfInBounds_toArray, List.set_cons_succ, List.set_cons_zero]
      refine do_ rfl (.bool true) (ex_geq (m := ((kn : Nat) : Int)) (n := (1 : Int)) (b := true) rfl rfl (decide_eq_true (by omega))) ?_
      simp only [Act.put, List.setIfInBounds_toArray, List.set_cons_succ, List.set_cons_zero]
      refine do_ rfl (.bool true) (ex_move _) ?_
      simp only [Act.put, List.setIfInBounds_toArray, List.set_cons_succ, List.set_cons_zero]
      refine do_ rfl (.int .i64 ((kn : Nat) : Int)) (ex_move _) ?_
      simp only [Act.put, List.setIfInBounds_toArray, List.set_cons_succ, List.set_cons_zero]
      refine do_ rfl (.bool true) (ex_leq (m := ((kn : Nat) : Int)) (n := (60 : Int)) (b := true) rfl rfl (decide_eq_true (by omega))) ?_
      simp only [Act.put, List.setIfInBounds_toArray, List.set_cons_succ, List.set_cons_zero]
      refine do_ rfl (.bool true) (ex_pick (b := true) rfl) ?_
      simp only [Act.put, List.setIfInBounds_toArray, List.set_cons_succ, List.set_cons_zero]
      refine wl_nil ?_
      (try simp only [Exit.then, Exit.inBlock, ↓reduceIte, Nat.reduceEqDiff])
      refine hK73 _ _ ?_
      refine wp_cond_true rfl ?_
      refine wp_seq_k (fun K74 hK74 => ?_)
      refine region_wl ?_
      refine do_ rfl (.int .i64 0) (ex_move _) ?_
      simp only [Act.put, List.setIfInBounds_toArray, List.set_cons_succ, List.set_cons_zero]
      refine do_ rfl (.bool true) (ex_eql (b := true) rfl rfl (by decide)) ?_
      simp only [Act.put, List.setIfInBounds_toArray, List.set_cons_succ, List.set_cons_zero]
      refine do_ rfl (.bool true) (ex_move _) ?_
      simp only [Act.put, List.setIfInBounds_toArray, List.set_cons_succ, List.set_cons_zero]
      refine do_ rfl (.slice a67 (putT (tfL 60) [b8 kn] (l1.take 32)).length c68) (ex_move _) ?_
      simp only [Act.put, List.setIfInBounds_toArray, List.set_cons_succ, List.set_cons_zero]
      refine do_ rfl (.int .i64 (((putT (tfL 60) [b8 kn] (l1.take 32)).length : Nat) : Int)) (ex_len Try.underlying44 rfl) ?_
      simp only [Act.put, List.setIfInBounds_toArray, List.set_cons_succ, List.set_cons_zero]
      refine do_ rfl (.bool true) (ex_eql (m := (((putT (tfL 60) [b8 kn] (l1.take 32)).length : Nat) : Int)) (n := (60 : Int)) (b := true) rfl rfl (beq_iff_eq.2 (by omega))) ?_
      simp only [Act.put, List.setIfInBounds_toArray, List.set_cons_succ, List.set_cons_zero]
      refine do_ rfl (.bool true) (ex_pick (b := true) rfl) ?_
      simp only [Act.put, List.setIfInBounds_toArray, List.set_cons_succ, List.set_cons_zero]
      refine do_ rfl (.bool true) (ex_move _) ?_
      simp only [Act.put, List.setIfInBounds_toArray, List.set_cons_succ, List.set_cons_zero]
      refine do_ rfl (.slice a67 (putT (tfL 60) [b8 kn] (l1.take 32)).length c68) (ex_move _) ?_
      simp only [Act.put, List.setIfInBounds_toArray, List.set_cons_succ, List.set_cons_zero]
      refine stTells (v := (.int .i64 0)) S62 rfl (ex_fn (vs := #[(.slice a67 (putT (tfL 60) [b8 kn] (l1.take 32)).length c68)]) (map1 rfl) rfl (ent_54 _ _)) (treeCheckOk_spec _ _ _ (putT (tfL 60) [b8 kn] (l1.take 32)) (S62).sat r69 hr3) (fun w75 S76 => ?_)
      simp only [Act.put, List.setIfInBounds_toArray, List.set_cons_succ, List.set_cons_zero]
      have S76 : St W (whole W) w75 F63 [] [] := S76
      refine do_ rfl (.bool true) (ex_eql (b := true) rfl rfl (by decide)) ?_
      simp only [Act.put, List.setIfInBounds_toArray, List.set_cons_succ, List.set_cons_zero]
      refine do_ rfl (.bool true) (ex_pick (b := true) rfl) ?_
      simp only [Act.put, List.setIfInBounds_toArray, List.set_cons_succ, List.set_cons_zero]
      refine do_ rfl (.bool true) (ex_assign _) ?_
      simp only [Act.put, List.setIfInBounds_toArray, List.set_cons_succ, List.set_cons_zero]
      refine wl_nil ?_
      (try simp only [Exit.then, Exit.inBlock, ↓reduceIte, Nat.reduceEqDiff])
      refine hK74 _ _ ?_
      refine wp_ret ?_
      (try simp only [Exit.then, Exit.inBlock, ↓reduceIte, Nat.reduceEqDiff])
      refine bodyPost_ret (v := (.bool true)) ?_ rfl ?_
      · exact res_t rfl rfl
      · exact ⟨rfl, S76.gr.below⟩
    · refine region_wl ?_
      refine do_ rfl (.slice a38 (tfL 60).length c39) (ex_move _) ?_
      simp only [Act.put, List.setIfInBounds_toArray, List.set_cons_succ, List.set_cons_zero]
      refine do_ rfl (.int .i64 ((kn : Nat) : Int)) (ex_move _) ?_
      simp only [Act.put, List.setIfInBounds_toArray, List.set_cons_succ, List.set_cons_zero]
      refine do_ rfl (.int .u8 ((kn : Nat) : Int)) (ex_convert (v := (.int .i64 ((kn : Nat) : Int))) rfl (conv_i8 kn (by omega) _)) ?_
      simp only [Act.put, List.setIfInBounds_toArray, List.set_cons_succ, List.set_cons_zero]
      refine stNew S43 (v := fun n => .slice (some ⟨n, 0, none⟩) 1 1) rfl (ex_lit (ps := #[(0, (.int .u8 ((kn : Nat) : Int)))]) (cells := #[(.int .u8 ((kn : Nat) : Int))]) (E := 5) (bmap1 rfl) (fun w => by kernel_rfl)) (fun n77 w78 S79 => ?_)
      simp only [Act.put, List.setIfInBounds_toArray, List.set_cons_succ, List.set_cons_zero]
      have S79 : St W (whole W) w78 F34 [⟨n77, [(.int .u8 ((kn : Nat) : Int))], 5⟩] [] := S79
      refine do_ rfl (.slice a1 l1.length c1) (ex_move _) ?_
      simp only [Act.put, List.setIfInBounds_toArray, List.set_cons_succ, List.set_cons_zero]
      refine stGives S79 rfl (ex_fn (vs := #[(.slice a1 l1.length c1), (.int .i64 32)]) (map2 rfl rfl) rfl (ent_52 _ _)) (some_spec _ _ _ l1 32 (S79).sat (z1.mono (le13.trans le36)) (by omega) (by omega)) ?_
      intro v85 w80 F82 S81 le83 R84
      obtain ⟨xa86, xc87, rfl, _⟩ := R84.shape
      simp only [Act.put, List.setIfInBounds_toArray, List.set_cons_succ, List.set_cons_zero]
      have S81 : St W (whole W) w80 F82 [⟨n77, [(.int .u8 ((kn : Nat) : Int))], 5⟩] [] := S81
      refine do_ rfl (.agg #[(.slice (some ⟨n77, 0, none⟩) 1 1), (.slice xa86 (l1.take 32).length xc87)]) (ex_build (ps := #[(0, (.slice (some ⟨n77, 0, none⟩) 1 1)), (1, (.slice xa86 (l1.take 32).length xc87))]) (bmap2 rfl rfl) (by kernel_rfl)) ?_
      simp only [Act.put, List.setIfInBounds_toArray, List.set_cons_succ, List.set_cons_zero]
      obtain ⟨S88, le89, hc90⟩ := St.freezeBlk S81 (i := 0) rfl
      have r92 : Bs _ (.slice (some ⟨n77, 0, none⟩) 1 1) ([b8 kn] : By) := bs_of_block (l := ([b8 kn] : By)) hc90 ((by simp only [List.map_cons, List.map_nil]; rw [bv_b8 (by omega)])) (by unfold maxLen; simp)
      generalize addF F82 w80 n77 = F91 at *
      have S88 : St W (whole W) w80 F91 [] [] := S88
      have hv32 : (l1.take 32).length ≤ 32 := by simp; omega
      obtain ⟨he, hr1⟩ := full_no (v := (l1.take 32)) hkb hr hv32
      refine stGives S88 rfl (ex_fn (vs := #[(.slice a38 (tfL 60).length c39), (.agg #[(.slice (some ⟨n77, 0, none⟩) 1 1), (.slice xa86 (l1.take 32).length xc87)])]) (map2 rfl rfl) rfl (ent_53 _ _)) ((he ▸ hr1 ▸ put_spec _ _ _ _ (tfL 60) ([b8 kn], (l1.take 32)) (S88).sat (hv37.mono (le83.trans le89)) ⟨_, _, _, _, rfl, r92, (R84.mono le89)⟩ tfL_ok (by simp) (by simp; omega))) ?_
      intro v98 w93 F95 S94 le96 R97
      obtain ⟨_, rfl, r101⟩ := R97
      obtain ⟨a99, c100, rfl, h102, h103⟩ := Sl.shape r101
      unfold maxLen at h103
      simp only [Act.put, List.setIfInBounds_toArray, List.set_cons_succ, List.set_cons_zero]
      have S94 : St W (whole W) w93 F95 [] [] := S94
      refine do_ rfl (.tuple #[(.slice a99 ([] : List Pr).length c100), (.int .i64 11)]) (ex_move _) ?_
      simp only [Act.put, List.setIfInBounds_toArray, List.set_cons_succ, List.set_cons_zero]
      refine do_ rfl (.slice a99 ([] : List Pr).length c100) (ex_extract rfl rfl) ?_
      simp only [Act.put, List.setIfInBounds_toArray, List.set_cons_succ, List.set_cons_zero]
      refine do_ rfl (.int .i64 11) (ex_extract rfl rfl) ?_
      simp only [Act.put, List.setIfInBounds_toArray, List.set_cons_succ, List.set_cons_zero]
      refine do_ rfl (.slice a99 ([] : List Pr).length c100) (ex_assign _) ?_
      simp only [Act.put, List.setIfInBounds_toArray, List.set_cons_succ, List.set_cons_zero]
      refine do_ rfl (.int .i64 11) (ex_assign _) ?_
      simp only [Act.put, List.setIfInBounds_toArray, List.set_cons_succ, List.set_cons_zero]
      refine wl_nil ?_
      (try simp only [Exit.then, Exit.inBlock, ↓reduceIte, Nat.reduceEqDiff])
      refine hK44 _ _ ?_
      refine wp_seq_k (fun K104 hK104 => ?_)
      refine wp_seq_k (fun K105 hK105 => ?_)
      by_cases h1 : 1 ≤ kn
      · refine region_wl ?_
        refine do_ rfl (.int .i64 ((kn : Nat) : Int)) (ex_move _) ?_
        simp only [Act.put, List.setIfInBounds_toArray, List.set_cons_succ, List.set_cons_zero]
        refine do_ rfl (.bool true) (ex_geq (m := ((kn : Nat) : Int)) (n := (1 : Int)) (b := true) rfl rfl (decide_eq_true (by omega))) ?_
        simp only [Act.put, List.setIfInBounds_toArray, List.set_cons_succ, List.set_cons_zero]
        refine do_ rfl (.bool true) (ex_move _) ?_
        simp only [Act.put, List.setIfInBounds_toArray, List.set_cons_succ, List.set_cons_zero]
        refine do_ rfl (.int .i64 ((kn : Nat) : Int)) (ex_move _) ?_
        simp only [Act.put, List.setIfInBounds_toArray, List.set_cons_succ, List.set_cons_zero]
        refine do_ rfl (.bool false) (ex_leq (m := ((kn : Nat) : Int)) (n := (60 : Int)) (b := false) rfl rfl (decide_eq_false (by omega))) ?_
        simp only [Act.put, List.setIfInBounds_toArray, List.set_cons_succ, List.set_cons_zero]
        refine do_ rfl (.bool false) (ex_pick (b := true) rfl) ?_
        simp only [Act.put, List.setIfInBounds_toArray, List.set_cons_succ, List.set_cons_zero]
        refine wl_nil ?_
        (try simp only [Exit.then, Exit.inBlock, ↓reduceIte, Nat.reduceEqDiff])
        refine hK105 _ _ ?_
        refine wp_cond_false rfl ?_
        refine wp_skip ?_
        (try simp only [Exit.then, Exit.inBlock, ↓reduceIte, Nat.reduceEqDiff])
        refine hK104 _ _ ?_
        refine wp_seq_k (fun K106 hK106 => ?_)
        refine region_wl ?_
        refine do_ rfl (.int .i64 11) (ex_move _) ?_
        simp only [Act.put, List.setIfInBounds_toArray, List.set_cons_succ, List.set_cons_zero]
        refine do_ rfl (.bool true) (ex_eql (b := true) rfl rfl (by decide)) ?_
        simp only [Act.put, List.setIfInBounds_toArray, List.set_cons_succ, List.set_cons_zero]
        refine do_ rfl (.bool true) (ex_move _) ?_
        simp only [Act.put, List.setIfInBounds_toArray, List.set_cons_succ, List.set_cons_zero]
        refine do_ rfl (.slice a99 ([] : List Pr).length c100) (ex_move _) ?_
        simp only [Act.put, List.setIfInBounds_toArray, List.set_cons_succ, List.set_cons_zero]
        refine do_ rfl (.int .i64 ((([] : List Pr).length : Nat) : Int)) (ex_len Try.underlying44 rfl) ?_
        simp only [Act.put, List.setIfInBounds_toArray, List.set_cons_succ, List.set_cons_zero]
        refine do_ rfl (.bool true) (ex_eql (m := ((([] : List Pr).length : Nat) : Int)) (n := (0 : Int)) (b := true) rfl rfl (beq_iff_eq.2 (by simp))) ?_
        simp only [Act.put, List.setIfInBounds_toArray, List.set_cons_succ, List.set_cons_zero]
        refine do_ rfl (.bool true) (ex_pick (b := true) rfl) ?_
        simp only [Act.put, List.setIfInBounds_toArray, List.set_cons_succ, List.set_cons_zero]
        refine do_ rfl (.bool true) (ex_move _) ?_
        simp only [Act.put, List.setIfInBounds_toArray, List.set_cons_succ, List.set_cons_zero]
        refine do_ rfl (.slice a38 (tfL 60).length c39) (ex_move _) ?_
        simp only [Act.put, List.setIfInBounds_toArray, List.set_cons_succ, List.set_cons_zero]
        refine stTells (v := (.int .i64 0)) S94 rfl (ex_fn (vs := #[(.slice a38 (tfL 60).length c39)]) (map1 rfl) rfl (ent_54 _ _)) (treeCheckOk_spec _ _ _ (tfL 60) (S94).sat (hv37.mono ((le83.trans le89).trans le96)) tfL_ok) (fun w107 S108 => ?_)
        simp only [Act.put, List.setIfInBounds_toArray, List.set_cons_succ, List.set_cons_zero]
        have S108 : St W (whole W) w107 F95 [] [] := S108
        refine do_ rfl (.bool true) (ex_eql (b := true) rfl rfl (by decide)) ?_
        simp only [Act.put, List.setIfInBounds_toArray, List.set_cons_succ, List.set_cons_zero]
        refine do_ rfl (.bool true) (ex_pick (b := true) rfl) ?_
        simp only [Act.put, List.setIfInBounds_toArray, List.set_cons_succ, List.set_cons_zero]
        refine do_ rfl (.bool true) (ex_assign _) ?_
        simp only [Act.put, List.setIfInBounds_toArray, List.set_cons_succ, List.set_cons_zero]
        refine wl_nil ?_
        (try simp only [Exit.then, Exit.inBlock, ↓reduceIte, Nat.reduceEqDiff])
        refine hK106 _ _ ?_
        refine wp_ret ?_
        (try simp only [Exit.then, Exit.inBlock, ↓reduceIte, Nat.reduceEqDiff])
        refine bodyPost_ret (v := (.bool true)) ?_ rfl ?_
        · exact res_t rfl rfl
        · exact ⟨rfl, S108.gr.below⟩
      · refine region_wl ?_
        refine do_ rfl (.int .i64 ((kn : Nat) : Int)) (ex_move _) ?_
        simp only [Act.put, List.setIfInBounds_toArray, List.set_cons_succ, List.set_cons_zero]
        refine do_ rfl (.bool false) (ex_geq (m := ((kn : Nat) : Int)) (n := (1 : Int)) (b := false) rfl rfl (decide_eq_false (by omega))) ?_
        simp only [Act.put, List.setIfInBounds_toArray, List.set_cons_succ, List.set_cons_zero]
        refine do_ rfl (.bool false) (ex_move _) ?_
        simp only [Act.put, List.setIfInBounds_toArray, List.set_cons_succ, List.set_cons_zero]
        refine doN (wanted_no rfl rfl rfl (c := false) rfl (by decide)) ?_
        simp only [Act.put, List.setIfInBounds_toArray, List.set_cons_succ, List.set_cons_zero]
        refine doN (wanted_no rfl rfl rfl (c := false) rfl (by decide)) ?_
        simp only [Act.put, List.setIfInBounds_toArray, List.set_cons_succ, List.set_cons_zero]
        refine do_ rfl (.bool false) (ex_pick (b := false) rfl) ?_
        simp only [Act.put, List.setIfInBounds_toArray, List.set_cons_succ, List.set_cons_zero]
        refine wl_nil ?_
        (try simp only [Exit.then, Exit.inBlock, ↓reduceIte, Nat.reduceEqDiff])
        refine hK105 _ _ ?_
        refine wp_cond_false rfl ?_
        refine wp_skip ?_
        (try simp only [Exit.then, Exit.inBlock, ↓reduceIte, Nat.reduceEqDiff])
        refine hK104 _ _ ?_
        refine wp_seq_k (fun K109 hK109 => ?_)
        refine region_wl ?_
        refine do_ rfl (.int .i64 11) (ex_move _) ?_
        simp only [Act.put, List.setIfInBounds_toArray, List.set_cons_succ, List.set_cons_zero]
        refine do_ rfl (.bool true) (ex_eql (b := true) rfl rfl (by decide)) ?_
        simp only [Act.put, List.setIfInBounds_toArray, List.set_cons_succ, List.set_cons_zero]
        refine do_ rfl (.bool true) (ex_move _) ?_
        simp only [Act.put, List.setIfInBounds_toArray, List.set_cons_succ, List.set_cons_zero]
        refine do_ rfl (.slice a99 ([] : List Pr).length c100) (ex_move _) ?_
        simp only [Act.put, List.setIfInBounds_toArray, List.set_cons_succ, List.set_cons_zero]
        refine do_ rfl (.int .i64 ((([] : List Pr).length : Nat) : Int)) (ex_len Try.underlying44 rfl) ?_
        simp only [Act.put, List.setIfInBounds_toArray, List.set_cons_succ, List.set_cons_zero]
        refine do_ rfl (.bool true) (ex_eql (m := ((([] : List Pr).length : Nat) : Int)) (n := (0 : Int)) (b := true) rfl rfl (beq_iff_eq.2 (by simp))) ?_
        simp only [Act.put, List.setIfInBounds_toArray, List.set_cons_succ, List.set_cons_zero]
        refine do_ rfl (.bool true) (ex_pick (b := true) rfl) ?_
        simp only [Act.put, List.setIfInBounds_toArray, List.set_cons_succ, List.set_cons_zero]
        refine do_ rfl (.bool true) (ex_move _) ?_
        simp only [Act.put, List.setIfInBounds_toArray, List.set_cons_succ, List.set_cons_zero]
        refine do_ rfl (.slice a38 (tfL 60).length c39) (ex_move _) ?_
        simp only [Act.put, List.setIfInBounds_toArray, List.set_cons_succ, List.set_cons_zero]
        refine stTells (v := (.int .i64 0)) S94 rfl (ex_fn (vs := #[(.slice a38 (tfL 60).length c39)]) (map1 rfl) rfl (ent_54 _ _)) (treeCheckOk_spec _ _ _ (tfL 60) (S94).sat (hv37.mono ((le83.trans le89).trans le96)) tfL_ok) (fun w110 S111 => ?_)
        simp only [Act.put, List.setIfInBounds_toArray, List.set_cons_succ, List.set_cons_zero]
        have S111 : St W (whole W) w110 F95 [] [] := S111
        refine do_ rfl (.bool true) (ex_eql (b := true) rfl rfl (by decide)) ?_
        simp only [Act.put, List.setIfInBounds_toArray, List.set_cons_succ, List.set_cons_zero]
        refine do_ rfl (.bool true) (ex_pick (b := true) rfl) ?_
        simp only [Act.put, List.setIfInBounds_toArray, List.set_cons_succ, List.set_cons_zero]
        refine do_ rfl (.bool true) (ex_assign _) ?_
        simp only [Act.put, List.setIfInBounds_toArray, List.set_cons_succ, List.set_cons_zero]
        refine wl_nil ?_
        (try simp only [Exit.then, Exit.inBlock, ↓reduceIte, Nat.reduceEqDiff])
        refine hK109 _ _ ?_
        refine wp_ret ?_
        (try simp only [Exit.then, Exit.inBlock, ↓reduceIte, Nat.reduceEqDiff])
        refine bodyPost_ret (v := (.bool true)) ?_ rfl ?_
        · exact res_t rfl rfl
        · exact ⟨rfl, S111.gr.below⟩
end Go.Proofs.Yteefnnnbbmbmcaa
