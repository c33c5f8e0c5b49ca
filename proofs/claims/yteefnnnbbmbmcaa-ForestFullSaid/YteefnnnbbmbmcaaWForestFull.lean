/- Walk of ForestFull -/
import Derived.Test.YteefnnnbbmbmcaaK6
import Derived.Test.YteefnnnbbmbmcaaWTreeFull
namespace Go.Proofs.Yteefnnnbbmbmcaa
open Go.RowKit
set_option maxRecDepth 100000
set_option linter.unusedVariables false
set_option linter.unusedSimpArgs false
def ffL (k : Nat) : Forest := (List.range k).map fun i => ([b8 (i + 1)], [([1], [])])
theorem ffL_succ (k : Nat) : ffL (k + 1) = ffL k ++ [([b8 (k + 1)], [([1], [])])] := by unfold ffL; rw [List.range_succ, List.map_append]; rfl
theorem ffL_len (k : Nat) : (ffL k).length = k := by simp [ffL]
theorem ffL_ok : ForestOk 60 (ffL 8) := forestE_ok.1 (by decide +kernel)
def ffW (z : Nat) : Wr := ⟨[b8 z], [2], false, []⟩
theorem ffW_ok (z : Nat) : WrOk (ffW z) := ⟨by simp [ffW, NameOk], by simp [ffW], by simp [ffW], by simp [ffW], by simp [ffW]⟩
def ffB (z : Nat) : Bool := match writeF (ffL 8) (ffW z) with
  | some g => decide (g.length = 8) && (match g[z - 1]? with | some t => decide (t.2.length = 2) | none => false)
  | none => false
theorem ff_yes : ∀ z, z < 9 → 1 ≤ z → ffB z = true := by decide +kernel
theorem ff_no : ∀ z, z < 256 → ¬ (1 ≤ z ∧ z ≤ 8) → (writeF (ffL 8) (ffW z)).isNone = true := by decide +kernel
theorem full_yes8 {z : Nat} (h : 1 ≤ z ∧ z ≤ 8) : ∃ g t, writeF (ffL 8) (ffW z) = some g ∧ g.length = 8 ∧ g[z - 1]? = some t ∧ t.2.length = 2 := by
  have := ff_yes z (by omega) h.1
  unfold ffB at this
  split at this
  · rename_i g e
    rw [Bool.and_eq_true, decide_eq_true_eq] at this
    obtain ⟨h1, h2⟩ := this
    split at h2
    · rename_i t e2
      exact ⟨g, t, e, h1, e2, of_decide_eq_true h2⟩
    · cases h2
  · cases this
theorem full_no8 {z : Nat} (h : z < 256) (h1 : ¬ (1 ≤ z ∧ z ≤ 8)) : writeF (ffL 8) (ffW z) = none := Option.isNone_iff_eq_none.1 (ff_no z h h1)
set_option maxHeartbeats 8000000 in
theorem forestFull_walk (W : World) (x0 : Int) (b0 : -9223372036854775808 ≤ x0) (b0' : x0 ≤ 9223372036854775807) :
    Calls Try.prog 19 #[.int .i64 x0] W (Tells W (.bool true)) := by
  obtain ⟨hp0, hp1⟩ := pick_bd x0 256 (by omega)
  obtain ⟨kn, hkn⟩ : ∃ kn : Nat, pick x0 256 = (kn : Int) := ⟨(pick x0 256).toNat, (Int.toNat_of_nonneg hp0).symm⟩
  have hkb : kn < 256 := by omega
  have S := St.start (Sat.whole W)
  go_enter Try.func19, Try.ntmps19
  obtain ⟨i83, hi83, hz83, hs83, hb83⟩ := info_parts info_83
  refine wp_seq_k (fun K1 hK1 => ?_)
  refine region_wl ?_
  refine do_ rfl (.bool false) (ex_assign _) ?_
  simp only [Act.put, List.setIfInBounds_toArray, List.set_cons_succ, List.set_cons_zero]
  refine wl_nil ?_
  (try simp only [Exit.then, Exit.inBlock, ↓reduceIte, Nat.reduceEqDiff])
  refine hK1 _ _ ?_
  refine wp_seq_k (fun K2 hK2 => ?_)
  refine region_wl ?_
  refine do_ rfl (.slice none 0 0) (ex_assign _) ?_
  simp only [Act.put, List.setIfInBounds_toArray, List.set_cons_succ, List.set_cons_zero]
  refine wl_nil ?_
  (try simp only [Exit.then, Exit.inBlock, ↓reduceIte, Nat.reduceEqDiff])
  refine hK2 _ _ ?_
  refine wp_seq_k (fun K3 hK3 => ?_)
  refine wp_seq_k (fun K4 hK4 => ?_)
  refine region_wl ?_
  refine do_ rfl (.int .i64 0) (ex_assign _) ?_
  simp only [Act.put, List.setIfInBounds_toArray, List.set_cons_succ, List.set_cons_zero]
  refine wl_nil ?_
  (try simp only [Exit.then, Exit.inBlock, ↓reduceIte, Nat.reduceEqDiff])
  refine hK4 _ _ ?_
  refine wp_block ?_
  have S5 := St.addNil S 2 TnC TnC.mono 83 W.heap.size
  refine wp_loop_g (fun mm aa w8 => ∃ (k : Nat) (v : Value) (F6 : Fz) (u7 : Nat → Value), mm = 8 - k ∧ aa = ⟨#[(.int .i64 x0), undef, (.bool false), v, (.int .i64 ((k : Nat) : Int)), undef, undef, undef, (u7 8), (u7 9), (u7 10), (u7 11), (u7 12), (u7 13), (u7 14), (u7 15), (u7 16), (u7 17), (u7 18), (u7 19), (u7 20), (u7 21), (u7 22), undef, undef, undef, undef, undef, undef, undef, undef, undef, undef, undef, undef, undef, undef, undef, undef, undef, undef, undef, undef, undef, undef, undef, undef, undef, undef, undef, undef, undef, undef, undef, undef, undef, undef, undef, undef, undef, undef, undef, undef, undef, undef, undef, undef, undef, undef, undef, undef], []⟩ ∧ St W (whole W) w8 F6 [] [ownP 2 TnC TnC.mono 83 W.heap.size v (ffL k)] ∧ Le (whole W) F6 ∧ (k ≤ 8)) _ ⟨0, (.slice none 0 0), (whole W), (slotF [(.int .i64 x0), undef, (.bool false), (.slice none 0 0), (.int .i64 0), undef, undef, undef, undef, undef, undef, undef, undef, undef, undef, undef, undef, undef, undef, undef, undef, undef, undef, undef, undef, undef, undef, undef, undef, undef, undef, undef, undef, undef, undef, undef, undef, undef, undef, undef, undef, undef, undef, undef, undef, undef, undef, undef, undef, undef, undef, undef, undef, undef, undef, undef, undef, undef, undef, undef, undef, undef, undef, undef, undef, undef, undef, undef, undef, undef, undef]), rfl, rfl, S5, Le.refl _, (by omega)⟩ ?_
  rintro m9 a10 w11 ⟨k, v, F6, u7, rfl, rfl, S12, le13, hk⟩ K14 hK14
  refine wp_seq_k (fun K15 hK15 => ?_)
  refine wp_seq_k (fun K16 hK16 => ?_)
  refine region_wl ?_
  refine do_ rfl (.int .i64 ((k : Nat) : Int)) (ex_move _) ?_
  simp only [Act.put, List.setIfInBounds_toArray, List.set_cons_succ, List.set_cons_zero]
  by_cases hc9 : k < 8
  · refine do_ rfl (.bool true) (ex_lss (m := ((k : Nat) : Int)) (n := (8 : Int)) (b := true) rfl rfl (decide_eq_true (by omega))) ?_
    simp only [Act.put, List.setIfInBounds_toArray, List.set_cons_succ, List.set_cons_zero]
    refine wl_nil ?_
    (try simp only [Exit.then, Exit.inBlock, ↓reduceIte, Nat.reduceEqDiff])
    refine hK16 _ _ ?_
    refine wp_cond_true rfl ?_
    refine wp_skip ?_
    (try simp only [Exit.then, Exit.inBlock, ↓reduceIte, Nat.reduceEqDiff])
    refine hK15 _ _ ?_
    refine wp_seq_k (fun K17 hK17 => ?_)
    refine wp_block ?_
    refine region_wl ?_
    refine do_ rfl v (ex_move _) ?_
    simp only [Act.put, List.setIfInBounds_toArray, List.set_cons_succ, List.set_cons_zero]
    refine do_ rfl (.int .i64 ((k : Nat) : Int)) (ex_move _) ?_
    simp only [Act.put, List.setIfInBounds_toArray, List.set_cons_succ, List.set_cons_zero]
    refine do_ rfl (.int .i64 (((k + 1) : Nat) : Int)) (ex_add (m := ((k : Nat) : Int)) (n := (1 : Int)) (r := (((k + 1) : Nat) : Int)) rfl rfl (by omega) (by omega) (by omega)) ?_
    simp only [Act.put, List.setIfInBounds_toArray, List.set_cons_succ, List.set_cons_zero]
    refine do_ rfl (.int .u8 (((k + 1) : Nat) : Int)) (ex_convert (v := (.int .i64 (((k + 1) : Nat) : Int))) rfl (conv_i8 (k + 1) (by omega) _)) ?_
    simp only [Act.put, List.setIfInBounds_toArray, List.set_cons_succ, List.set_cons_zero]
    refine stNew S12 (v := fun n => .slice (some ⟨n, 0, none⟩) 1 1) rfl (ex_lit (ps := #[(0, (.int .u8 (((k + 1) : Nat) : Int)))]) (cells := #[(.int .u8 (((k + 1) : Nat) : Int))]) (E := 5) (bmap1 rfl) (fun w => by kernel_rfl)) (fun n18 w19 S20 => ?_)
    simp only [Act.put, List.setIfInBounds_toArray, List.set_cons_succ, List.set_cons_zero]
    have S20 : St W (whole W) w19 F6 [⟨n18, [(.int .u8 (((k + 1) : Nat) : Int))], 5⟩] [ownP 2 TnC TnC.mono 83 W.heap.size v (ffL k)] := S20
    refine stNew S20 (v := fun n => .slice (some ⟨n, 0, none⟩) 1 1) rfl (ex_lit (ps := #[(0, (.int .u8 1))]) (cells := #[(.int .u8 1)]) (E := 5) (bmap1 rfl) (fun w => by kernel_rfl)) (fun n21 w22 S23 => ?_)
    simp only [Act.put, List.setIfInBounds_toArray, List.set_cons_succ, List.set_cons_zero]
    have S23 : St W (whole W) w22 F6 [⟨n21, [(.int .u8 1)], 5⟩, ⟨n18, [(.int .u8 (((k + 1) : Nat) : Int))], 5⟩] [ownP 2 TnC TnC.mono 83 W.heap.size v (ffL k)] := S23
    refine do_ rfl (.agg #[(.slice (some ⟨n21, 0, none⟩) 1 1), (.slice none 0 0)]) (ex_build (ps := #[(0, (.slice (some ⟨n21, 0, none⟩) 1 1))]) (bmap1 rfl) (by kernel_rfl)) ?_
    simp only [Act.put, List.setIfInBounds_toArray, List.set_cons_succ, List.set_cons_zero]
    refine stNew S23 (v := fun n => .slice (some ⟨n, 0, none⟩) 1 1) rfl (ex_lit (ps := #[(0, (.agg #[(.slice (some ⟨n21, 0, none⟩) 1 1), (.slice none 0 0)]))]) (cells := #[(.slice (some ⟨n21, 0, none⟩) 1 1), (.slice none 0 0)]) (E := 49) (bmap1 rfl) (fun w => by kernel_rfl)) (fun n24 w25 S26 => ?_)
    simp only [Act.put, List.setIfInBounds_toArray, List.set_cons_succ, List.set_cons_zero]
    have S26 : St W (whole W) w25 F6 [⟨n24, [(.slice (some ⟨n21, 0, none⟩) 1 1), (.slice none 0 0)], 49⟩, ⟨n21, [(.int .u8 1)], 5⟩, ⟨n18, [(.int .u8 (((k + 1) : Nat) : Int))], 5⟩] [ownP 2 TnC TnC.mono 83 W.heap.size v (ffL k)] := S26
    refine do_ rfl (.agg #[(.slice (some ⟨n18, 0, none⟩) 1 1), (.slice (some ⟨n24, 0, none⟩) 1 1)]) (ex_build (ps := #[(0, (.slice (some ⟨n18, 0, none⟩) 1 1)), (1, (.slice (some ⟨n24, 0, none⟩) 1 1))]) (bmap2 rfl rfl) (by kernel_rfl)) ?_
    simp only [Act.put, List.setIfInBounds_toArray, List.set_cons_succ, List.set_cons_zero]
    refine stNew S26 (v := fun n => .slice (some ⟨n, 0, none⟩) 1 1) rfl (ex_lit (ps := #[(0, (.agg #[(.slice (some ⟨n18, 0, none⟩) 1 1), (.slice (some ⟨n24, 0, none⟩) 1 1)]))]) (cells := #[(.slice (some ⟨n18, 0, none⟩) 1 1), (.slice (some ⟨n24, 0, none⟩) 1 1)]) (E := 83) (bmap1 rfl) (fun w => by kernel_rfl)) (fun n27 w28 S29 => ?_)
    simp only [Act.put, List.setIfInBounds_toArray, List.set_cons_succ, List.set_cons_zero]
    have S29 : St W (whole W) w28 F6 [⟨n27, [(.slice (some ⟨n18, 0, none⟩) 1 1), (.slice (some ⟨n24, 0, none⟩) 1 1)], 83⟩, ⟨n24, [(.slice (some ⟨n21, 0, none⟩) 1 1), (.slice none 0 0)], 49⟩, ⟨n21, [(.int .u8 1)], 5⟩, ⟨n18, [(.int .u8 (((k + 1) : Nat) : Int))], 5⟩] [ownP 2 TnC TnC.mono 83 W.heap.size v (ffL k)] := S29
    obtain ⟨S30, le31, hc32⟩ := St.freezeBlk S29 (i := 3) rfl
    have r34 : Bs _ (.slice (some ⟨n18, 0, none⟩) 1 1) ([b8 (k + 1)] : By) := bs_of_block (l := ([b8 (k + 1)] : By)) hc32 ((by simp only [List.map_cons, List.map_nil]; rw [bv_b8 (by omega)])) (by unfold maxLen; simp)
    generalize addF F6 w28 n18 = F33 at *
    have S30 : St W (whole W) w28 F33 [⟨n27, [(.slice (some ⟨n18, 0, none⟩) 1 1), (.slice (some ⟨n24, 0, none⟩) 1 1)], 83⟩, ⟨n24, [(.slice (some ⟨n21, 0, none⟩) 1 1), (.slice none 0 0)], 49⟩, ⟨n21, [(.int .u8 1)], 5⟩] [ownP 2 TnC TnC.mono 83 W.heap.size v (ffL k)] := S30
    obtain ⟨S35, le36, hc37⟩ := St.freezeBlk S30 (i := 2) rfl
    have r39 : Bs _ (.slice (some ⟨n21, 0, none⟩) 1 1) ([1] : By) := bs_of_block (l := ([1] : By)) hc37 (rfl) (by unfold maxLen; simp)
    generalize addF F33 w28 n21 = F38 at *
    have S35 : St W (whole W) w28 F38 [⟨n27, [(.slice (some ⟨n18, 0, none⟩) 1 1), (.slice (some ⟨n24, 0, none⟩) 1 1)], 83⟩, ⟨n24, [(.slice (some ⟨n21, 0, none⟩) 1 1), (.slice none 0 0)], 49⟩] [ownP 2 TnC TnC.mono 83 W.heap.size v (ffL k)] := S35
    obtain ⟨S40, le41, hc42⟩ := St.freezeBlk S35 (i := 1) rfl
    have r44 : Prs _ (.slice (some ⟨n24, 0, none⟩) 1 1) [([1], [])] := sl_of_block (R := PrC) (l := [([1], [])]) (el := [[(.slice (some ⟨n21, 0, none⟩) 1 1), (.slice none 0 0)]]) hc42 rfl ⟨⟨_, _, rfl, (r39.mono le41), Bs.nil _⟩, trivial⟩ (by simp) (by unfold maxLen; simp)
    generalize addF F38 w28 n24 = F43 at *
    have S40 : St W (whole W) w28 F43 [⟨n27, [(.slice (some ⟨n18, 0, none⟩) 1 1), (.slice (some ⟨n24, 0, none⟩) 1 1)], 83⟩] [ownP 2 TnC TnC.mono 83 W.heap.size v (ffL k)] := S40
    have htl := ffL_len k
    refine stPush (i := 0) (r := 0) (p := ([b8 (k + 1)], [([1], [])])) (cs := [(.slice (some ⟨n18, 0, none⟩) 1 1), (.slice (some ⟨n24, 0, none⟩) 1 1)]) S40 rfl i83 (.agg #[(.slice none 0 0), (.slice none 0 0)]) 48 Try.underlying73 hi83 hz83 hs83 hb83 rfl (by decide) rfl rfl rfl rfl rfl (TnC.oneCell (p := ([b8 (k + 1)], [([1], [])])) ⟨_, _, rfl, (r34.mono (le36.trans le41)), r44⟩) (⟨_, _, rfl, (r34.mono (le36.trans le41)), r44⟩) (Nat.le_refl _) S40.gr.below.size (by unfold maxLen; omega) (by omega) ?_
    intro v45 w46 S47 hn48
    simp only [Act.put, List.setIfInBounds_toArray, List.set_cons_succ, List.set_cons_zero]
    have S47 := St.drop S47 (L' := []) (.cons _ (List.Sublist.refl _))
    have S47 : St W (whole W) w46 F43 [] [ownP 2 TnC TnC.mono 83 W.heap.size v45 ((ffL k) ++ [([b8 (k + 1)], [([1], [])])])] := S47
    refine do_ rfl v45 (ex_assign _) ?_
    simp only [Act.put, List.setIfInBounds_toArray, List.set_cons_succ, List.set_cons_zero]
    refine wl_nil ?_
    (try simp only [Exit.then, Exit.inBlock, ↓reduceIte, Nat.reduceEqDiff])
    refine hK17 _ _ ?_
    refine region_wl ?_
    refine do_ rfl (.int .i64 ((k : Nat) : Int)) (ex_move _) ?_
    simp only [Act.put, List.setIfInBounds_toArray, List.set_cons_succ, List.set_cons_zero]
    refine do_ rfl (.int .i64 (((k + 1) : Nat) : Int)) (ex_add (m := ((k : Nat) : Int)) (n := (1 : Int)) (r := (((k + 1) : Nat) : Int)) rfl rfl (by omega) (by omega) (by omega)) ?_
    simp only [Act.put, List.setIfInBounds_toArray, List.set_cons_succ, List.set_cons_zero]
    refine do_ rfl (.int .i64 (((k + 1) : Nat) : Int)) (ex_assign _) ?_
    simp only [Act.put, List.setIfInBounds_toArray, List.set_cons_succ, List.set_cons_zero]
    refine wl_nil ?_
    (try simp only [Exit.then, Exit.inBlock, ↓reduceIte, Nat.reduceEqDiff])
    rw [← ffL_succ] at S47
    exact hK14 _ _ _ (by omega) ⟨(k + 1), v45, F43, (slotF [(.int .i64 x0), undef, (.bool false), v45, (.int .i64 (((k + 1) : Nat) : Int)), undef, undef, undef, (.int .i64 ((k : Nat) : Int)), (.bool true), (.int .i64 ((k : Nat) : Int)), (.int .i64 (((k + 1) : Nat) : Int)), v, (.int .i64 ((k : Nat) : Int)), (.int .i64 (((k + 1) : Nat) : Int)), (.int .u8 (((k + 1) : Nat) : Int)), (.slice (some ⟨n18, 0, none⟩) 1 1), (.slice (some ⟨n21, 0, none⟩) 1 1), (.agg #[(.slice (some ⟨n21, 0, none⟩) 1 1), (.slice none 0 0)]), (.slice (some ⟨n24, 0, none⟩) 1 1), (.agg #[(.slice (some ⟨n18, 0, none⟩) 1 1), (.slice (some ⟨n24, 0, none⟩) 1 1)]), (.slice (some ⟨n27, 0, none⟩) 1 1), v45, undef, undef, undef, undef, undef, undef, undef, undef, undef, undef, undef, undef, undef, undef, undef, undef, undef, undef, undef, undef, undef, undef, undef, undef, undef, undef, undef, undef, undef, undef, undef, undef, undef, undef, undef, undef, undef, undef, undef, undef, undef, undef, undef, undef, undef, undef, undef, undef]), rfl, rfl, S47, (((le13.trans le31).trans le36).trans le41), (by omega)⟩
  · refine do_ rfl (.bool false) (ex_lss (m := ((k : Nat) : Int)) (n := (8 : Int)) (b := false) rfl rfl (decide_eq_false (by omega))) ?_
    simp only [Act.put, List.setIfInBounds_toArray, List.set_cons_succ, List.set_cons_zero]
    refine wl_nil ?_
    (try simp only [Exit.then, Exit.inBlock, ↓reduceIte, Nat.reduceEqDiff])
    refine hK16 _ _ ?_
    refine wp_cond_false rfl ?_
    refine wp_exit ?_
    (try simp only [Exit.then, Exit.inBlock, ↓reduceIte, Nat.reduceEqDiff])
    refine hK3 _ _ ?_
    refine wp_seq_k (fun K49 hK49 => ?_)
    have hk8 : ffL k = ffL 8 := by rw [show k = 8 from by omega]
    rw [hk8] at S12
    obtain ⟨F50, S51, le52, hv53⟩ := St.freeze S12 (i := 0) rfl (Nat.le_refl _)
    have S51 : St W (whole W) w11 F50 [] [] := S51
    have hv53 : Tns _ v (ffL 8) := hv53
    obtain ⟨a54, c55, rfl, h56, h57⟩ := Sl.shape hv53
    unfold maxLen at h57
    refine region_wl ?_
    refine do_ rfl (.int .i64 x0) (ex_move _) ?_
    simp only [Act.put, List.setIfInBounds_toArray, List.set_cons_succ, List.set_cons_zero]
    refine stTells (v := (.int .i64 ((kn : Nat) : Int))) S51 rfl (ex_fn (vs := #[(.int .i64 x0), (.int .i64 256)]) (map2 rfl rfl) rfl (ent_39 _ _)) (hkn ▸ tells_same (picked_spec x0 (256 : Int) _ b0 b0' (by omega) (by omega))) (fun w58 S59 => ?_)
    simp only [Act.put, List.setIfInBounds_toArray, List.set_cons_succ, List.set_cons_zero]
    have S59 : St W (whole W) w58 F50 [] [] := S59
    refine do_ rfl (.int .i64 ((kn : Nat) : Int)) (ex_assign _) ?_
    simp only [Act.put, List.setIfInBounds_toArray, List.set_cons_succ, List.set_cons_zero]
    refine wl_nil ?_
    (try simp only [Exit.then, Exit.inBlock, ↓reduceIte, Nat.reduceEqDiff])
    refine hK49 _ _ ?_
    refine wp_seq_k (fun K60 hK60 => ?_)
    have hae := applyE_one (l := ffL 8) (ffW_ok kn)
    by_cases hr : 1 ≤ kn ∧ kn ≤ 8
    · obtain ⟨g, t, hwf, hg1, hg2, hg3⟩ := full_yes8 hr
      rw [hwf] at hae
      refine region_wl ?_
      refine do_ rfl (.slice a54 (ffL 8).length c55) (ex_move _) ?_
      simp only [Act.put, List.setIfInBounds_toArray, List.set_cons_succ, List.set_cons_zero]
      refine do_ rfl (.int .i64 ((kn : Nat) : Int)) (ex_move _) ?_
      simp only [Act.put, List.setIfInBounds_toArray, List.set_cons_succ, List.set_cons_zero]
      refine do_ rfl (.int .u8 ((kn : Nat) : Int)) (ex_convert (v := (.int .i64 ((kn : Nat) : Int))) rfl (conv_i8 kn (by omega) _)) ?_
      simp only [Act.put, List.setIfInBounds_toArray, List.set_cons_succ, List.set_cons_zero]
      refine stNew S59 (v := fun n => .slice (some ⟨n, 0, none⟩) 1 1) rfl (ex_lit (ps := #[(0, (.int .u8 ((kn : Nat) : Int)))]) (cells := #[(.int .u8 ((kn : Nat) : Int))]) (E := 5) (bmap1 rfl) (fun w => by kernel_rfl)) (fun n61 w62 S63 => ?_)
      simp only [Act.put, List.setIfInBounds_toArray, List.set_cons_succ, List.set_cons_zero]
      have S63 : St W (whole W) w62 F50 [⟨n61, [(.int .u8 ((kn : Nat) : Int))], 5⟩] [] := S63
      refine stNew S63 (v := fun n => .slice (some ⟨n, 0, none⟩) 1 1) rfl (ex_lit (ps := #[(0, (.int .u8 2))]) (cells := #[(.int .u8 2)]) (E := 5) (bmap1 rfl) (fun w => by kernel_rfl)) (fun n64 w65 S66 => ?_)
      simp only [Act.put, List.setIfInBounds_toArray, List.set_cons_succ, List.set_cons_zero]
      have S66 : St W (whole W) w65 F50 [⟨n64, [(.int .u8 2)], 5⟩, ⟨n61, [(.int .u8 ((kn : Nat) : Int))], 5⟩] [] := S66
      refine do_ rfl (.agg #[(.slice (some ⟨n61, 0, none⟩) 1 1), (.slice (some ⟨n64, 0, none⟩) 1 1), (.bool false), (.slice none 0 0)]) (ex_build (ps := #[(0, (.slice (some ⟨n61, 0, none⟩) 1 1)), (1, (.slice (some ⟨n64, 0, none⟩) 1 1))]) (bmap2 rfl rfl) (by kernel_rfl)) ?_
      simp only [Act.put, List.setIfInBounds_toArray, List.set_cons_succ, List.set_cons_zero]
      refine stNew S66 (v := fun n => .slice (some ⟨n, 0, none⟩) 1 1) rfl (ex_lit (ps := #[(0, (.agg #[(.slice (some ⟨n61, 0, none⟩) 1 1), (.slice (some ⟨n64, 0, none⟩) 1 1), (.bool false), (.slice none 0 0)]))]) (cells := #[(.slice (some ⟨n61, 0, none⟩) 1 1), (.slice (some ⟨n64, 0, none⟩) 1 1), (.bool false), (.slice none 0 0)]) (E := 67) (bmap1 rfl) (fun w => by kernel_rfl)) (fun n67 w68 S69 => ?_)
      simp only [Act.put, List.setIfInBounds_toArray, List.set_cons_succ, List.set_cons_zero]
      have S69 : St W (whole W) w68 F50 [⟨n67, [(.slice (some ⟨n61, 0, none⟩) 1 1), (.slice (some ⟨n64, 0, none⟩) 1 1), (.bool false), (.slice none 0 0)], 67⟩, ⟨n64, [(.int .u8 2)], 5⟩, ⟨n61, [(.int .u8 ((kn : Nat) : Int))], 5⟩] [] := S69
      obtain ⟨S70, le71, hc72⟩ := St.freezeBlk S69 (i := 2) rfl
      have r74 : Bs _ (.slice (some ⟨n61, 0, none⟩) 1 1) ([b8 kn] : By) := bs_of_block (l := ([b8 kn] : By)) hc72 ((by simp only [List.map_cons, List.map_nil]; rw [bv_b8 (by omega)])) (by unfold maxLen; simp)
      generalize addF F50 w68 n61 = F73 at *
      have S70 : St W (whole W) w68 F73 [⟨n67, [(.slice (some ⟨n61, 0, none⟩) 1 1), (.slice (some ⟨n64, 0, none⟩) 1 1), (.bool false), (.slice none 0 0)], 67⟩, ⟨n64, [(.int .u8 2)], 5⟩] [] := S70
      obtain ⟨S75, le76, hc77⟩ := St.freezeBlk S70 (i := 1) rfl
      have r79 : Bs _ (.slice (some ⟨n64, 0, none⟩) 1 1) ([2] : By) := bs_of_block (l := ([2] : By)) hc77 (rfl) (by unfold maxLen; simp)
      generalize addF F73 w68 n64 = F78 at *
      have S75 : St W (whole W) w68 F78 [⟨n67, [(.slice (some ⟨n61, 0, none⟩) 1 1), (.slice (some ⟨n64, 0, none⟩) 1 1), (.bool false), (.slice none 0 0)], 67⟩] [] := S75
      obtain ⟨S80, le81, hc82⟩ := St.freezeBlk S75 (i := 0) rfl
      have r84 : Wrs _ (.slice (some ⟨n67, 0, none⟩) 1 1) [ffW kn] := sl_of_block (R := WrC) (l := [ffW kn]) (el := [[(.slice (some ⟨n61, 0, none⟩) 1 1), (.slice (some ⟨n64, 0, none⟩) 1 1), (.bool false), (.slice none 0 0)]]) hc82 rfl ⟨⟨_, _, _, _, rfl, ((r74.mono le76).mono le81), (r79.mono le81), rfl, Bs.nil _⟩, trivial⟩ (by simp) (by unfold maxLen; simp)
      generalize addF F78 w68 n67 = F83 at *
      have S80 : St W (whole W) w68 F83 [] [] := S80
      refine stGives S80 rfl (ex_fn (vs := #[(.slice a54 (ffL 8).length c55), (.slice (some ⟨n67, 0, none⟩) 1 1)]) (map2 rfl rfl) rfl (ent_59 _ _)) (apply_is (S80).sat (hv53.mono ((le71.trans le76).trans le81)) r84 ffL_ok (by simpa using ffW_ok kn) hae) ?_
      intro v90 w85 F87 S86 le88 R89
      obtain ⟨_, rfl, r93⟩ := R89
      obtain ⟨a91, c92, rfl, h94, h95⟩ := Sl.shape r93
      unfold maxLen at h95
      have h94 : g.length ≤ c92 := h94
      have r93 : Tns _ (.slice a91 g.length c92) g := r93
      simp only [Act.put, List.setIfInBounds_toArray, List.set_cons_succ, List.set_cons_zero]
      have S86 : St W (whole W) w85 F87 [] [] := S86
      refine do_ rfl (.tuple #[(.slice a91 g.length c92), (.int .i64 0)]) (ex_move _) ?_
      simp only [Act.put, List.setIfInBounds_toArray, List.set_cons_succ, List.set_cons_zero]
      refine do_ rfl (.slice a91 g.length c92) (ex_extract rfl rfl) ?_
      simp only [Act.put, List.setIfInBounds_toArray, List.set_cons_succ, List.set_cons_zero]
      refine do_ rfl (.int .i64 0) (ex_extract rfl rfl) ?_
      simp only [Act.put, List.setIfInBounds_toArray, List.set_cons_succ, List.set_cons_zero]
      refine do_ rfl (.slice a91 g.length c92) (ex_assign _) ?_
      simp only [Act.put, List.setIfInBounds_toArray, List.set_cons_succ, List.set_cons_zero]
      refine do_ rfl (.int .i64 0) (ex_assign _) ?_
      simp only [Act.put, List.setIfInBounds_toArray, List.set_cons_succ, List.set_cons_zero]
      refine wl_nil ?_
      (try simp only [Exit.then, Exit.inBlock, ↓reduceIte, Nat.reduceEqDiff])
      refine hK60 _ _ ?_
      refine wp_seq_k (fun K96 hK96 => ?_)
      refine wp_seq_k (fun K97 hK97 => ?_)
      refine region_wl ?_
      refine do_ rfl (.int .i64 ((kn : Nat) : Int)) (ex_move _) ?_
      simp only [Act.put, List.setIfInBounds_toArray, List.set_cons_succ, List.set_cons_zero]
      refine do_ rfl (.bool true) (ex_geq (m := ((kn : Nat) : Int)) (n := (1 : Int)) (b := true) rfl rfl (decide_eq_true (by omega))) ?_
      simp only [Act.put, List.setIfInBounds_toArray, List.set_cons_succ, List.set_cons_zero]
      refine do_ rfl (.bool true) (ex_move _) ?_
      simp only [Act.put, List.setIfInBounds_toArray, List.set_cons_succ, List.set_cons_zero]
      refine do_ rfl (.int .i64 ((kn : Nat) : Int)) (ex_move _) ?_
      simp only [Act.put, List.setIfInBounds_toArray, List.set_cons_succ, List.set_cons_zero]
      refine do_ rfl (.bool true) (ex_leq (m := ((kn : Nat) : Int)) (n := (8 : Int)) (b := true) rfl rfl (decide_eq_true (by omega))) ?_
      simp only [Act.put, List.setIfInBounds_toArray, List.set_cons_succ, List.set_cons_zero]
      refine do_ rfl (.bool true) (ex_pick (b := true) rfl) ?_
      simp only [Act.put, List.setIfInBounds_toArray, List.set_cons_succ, List.set_cons_zero]
      refine wl_nil ?_
      (try simp only [Exit.then, Exit.inBlock, ↓reduceIte, Nat.reduceEqDiff])
      refine hK97 _ _ ?_
      refine wp_cond_true rfl ?_
      refine wp_seq_k (fun K98 hK98 => ?_)
      obtain ⟨b99, o100, ha101, xa103, xc104, xa107, xc108, c102, c106, r105, r109⟩ := Tns.get r93 hg2
      refine region_wl ?_
      refine do_ rfl (.int .i64 0) (ex_move _) ?_
      simp only [Act.put, List.setIfInBounds_toArray, List.set_cons_succ, List.set_cons_zero]
      refine do_ rfl (.bool true) (ex_eql (b := true) rfl rfl (by decide)) ?_
      simp only [Act.put, List.setIfInBounds_toArray, List.set_cons_succ, List.set_cons_zero]
      refine do_ rfl (.bool true) (ex_move _) ?_
      simp only [Act.put, List.setIfInBounds_toArray, List.set_cons_succ, List.set_cons_zero]
      refine do_ rfl (.slice a91 g.length c92) (ex_move _) ?_
      simp only [Act.put, List.setIfInBounds_toArray, List.set_cons_succ, List.set_cons_zero]
      refine do_ rfl (.int .i64 ((g.length : Nat) : Int)) (ex_len Try.underlying73 rfl) ?_
      simp only [Act.put, List.setIfInBounds_toArray, List.set_cons_succ, List.set_cons_zero]
      refine do_ rfl (.bool true) (ex_eql (m := ((g.length : Nat) : Int)) (n := (8 : Int)) (b := true) rfl rfl (beq_iff_eq.2 (by omega))) ?_
      simp only [Act.put, List.setIfInBounds_toArray, List.set_cons_succ, List.set_cons_zero]
      refine do_ rfl (.bool true) (ex_pick (b := true) rfl) ?_
      simp only [Act.put, List.setIfInBounds_toArray, List.set_cons_succ, List.set_cons_zero]
      refine do_ rfl (.bool true) (ex_move _) ?_
      simp only [Act.put, List.setIfInBounds_toArray, List.set_cons_succ, List.set_cons_zero]
      refine do_ rfl (.slice a91 g.length c92) (ex_move _) ?_
      simp only [Act.put, List.setIfInBounds_toArray, List.set_cons_succ, List.set_cons_zero]
      refine do_ rfl (.int .i64 ((kn : Nat) : Int)) (ex_move _) ?_
      simp only [Act.put, List.setIfInBounds_toArray, List.set_cons_succ, List.set_cons_zero]
      refine do_ rfl (.int .i64 (((kn - 1) : Nat) : Int)) (ex_sub (m := ((kn : Nat) : Int)) (n := (1 : Int)) (r := (((kn - 1) : Nat) : Int)) rfl rfl (by omega) (by omega) (by omega)) ?_
      simp only [Act.put, List.setIfInBounds_toArray, List.set_cons_succ, List.set_cons_zero]
      refine do_ rfl (.pointer (some ⟨b99, o100 + (kn - 1) * 2, none⟩)) (ex_at (i := (kn - 1)) (sz := 2) Try.underlying73 (sizeof_83 _) rfl ha101 rfl (by omega) rfl) ?_
      simp only [Act.put, List.setIfInBounds_toArray, List.set_cons_succ, List.set_cons_zero]
      refine do_ rfl (.pointer (some ⟨b99, o100 + (kn - 1) * 2 + 1, none⟩)) (ex_field (q := ⟨b99, o100 + (kn - 1) * 2 + 1, none⟩) rfl (fa_83_1 _ _)) ?_
      simp only [Act.put, List.setIfInBounds_toArray, List.set_cons_succ, List.set_cons_zero]
      refine do_ rfl (.slice xa107 t.2.length xc108) (ex_load rfl (load1 (nagg_44 _) (St.fz S86 c106))) ?_
      simp only [Act.put, List.setIfInBounds_toArray, List.set_cons_succ, List.set_cons_zero]
      refine do_ rfl (.int .i64 ((t.2.length : Nat) : Int)) (ex_len Try.underlying44 rfl) ?_
      simp only [Act.put, List.setIfInBounds_toArray, List.set_cons_succ, List.set_cons_zero]
      refine do_ rfl (.bool true) (ex_eql (m := ((t.2.length : Nat) : Int)) (n := (2 : Int)) (b := true) rfl rfl (beq_iff_eq.2 (by omega))) ?_
      simp only [Act.put, List.setIfInBounds_toArray, List.set_cons_succ, List.set_cons_zero]
      refine do_ rfl (.bool true) (ex_pick (b := true) rfl) ?_
      simp only [Act.put, List.setIfInBounds_toArray, List.set_cons_succ, List.set_cons_zero]
      refine do_ rfl (.bool true) (ex_assign _) ?_
      simp only [Act.put, List.setIfInBounds_toArray, List.set_cons_succ, List.set_cons_zero]
      refine wl_nil ?_
      (try simp only [Exit.then, Exit.inBlock, ↓reduceIte, Nat.reduceEqDiff])
      refine hK98 _ _ ?_
      refine wp_ret ?_
      (try simp only [Exit.then, Exit.inBlock, ↓reduceIte, Nat.reduceEqDiff])
      refine bodyPost_ret (v := (.bool true)) ?_ rfl ?_
      · exact res_t rfl rfl
      · exact ⟨rfl, S86.gr.below⟩
    · have hwf := full_no8 hkb hr
      rw [hwf] at hae
      refine region_wl ?_
      refine do_ rfl (.slice a54 (ffL 8).length c55) (ex_move _) ?_
      simp only [Act.put, List.setIfInBounds_toArray, List.set_cons_succ, List.set_cons_zero]
      refine do_ rfl (.int .i64 ((kn : Nat) : Int)) (ex_move _) ?_
      simp only [Act.put, List.setIfInBounds_toArray, List.set_cons_succ, List.set_cons_zero]
      refine do_ rfl (.int .u8 ((kn : Nat) : Int)) (ex_convert (v := (.int .i64 ((kn : Nat) : Int))) rfl (conv_i8 kn (by omega) _)) ?_
      simp only [Act.put, List.setIfInBounds_toArray, List.set_cons_succ, List.set_cons_zero]
      refine stNew S59 (v := fun n => .slice (some ⟨n, 0, none⟩) 1 1) rfl (ex_lit (ps := #[(0, (.int .u8 ((kn : Nat) : Int)))]) (cells := #[(.int .u8 ((kn : Nat) : Int))]) (E := 5) (bmap1 rfl) (fun w => by kernel_rfl)) (fun n110 w111 S112 => ?_)
      simp only [Act.put, List.setIfInBounds_toArray, List.set_cons_succ, List.set_cons_zero]
      have S112 : St W (whole W) w111 F50 [⟨n110, [(.int .u8 ((kn : Nat) : Int))], 5⟩] [] := S112
      refine stNew S112 (v := fun n => .slice (some ⟨n, 0, none⟩) 1 1) rfl (ex_lit (ps := #[(0, (.int .u8 2))]) (cells := #[(.int .u8 2)]) (E := 5) (bmap1 rfl) (fun w => by kernel_rfl)) (fun n113 w114 S115 => ?_)
      simp only [Act.put, List.setIfInBounds_toArray, List.set_cons_succ, List.set_cons_zero]
      have S115 : St W (whole W) w114 F50 [⟨n113, [(.int .u8 2)], 5⟩, ⟨n110, [(.int .u8 ((kn : Nat) : Int))], 5⟩] [] := S115
      refine do_ rfl (.agg #[(.slice (some ⟨n110, 0, none⟩) 1 1), (.slice (some ⟨n113, 0, none⟩) 1 1), (.bool false), (.slice none 0 0)]) (ex_build (ps := #[(0, (.slice (some ⟨n110, 0, none⟩) 1 1)), (1, (.slice (some ⟨n113, 0, none⟩) 1 1))]) (bmap2 rfl rfl) (by kernel_rfl)) ?_
      simp only [Act.put, List.setIfInBounds_toArray, List.set_cons_succ, List.set_cons_zero]
      refine stNew S115 (v := fun n => .slice (some ⟨n, 0, none⟩) 1 1) rfl (ex_lit (ps := #[(0, (.agg #[(.slice (some ⟨n110, 0, none⟩) 1 1), (.slice (some ⟨n113, 0, none⟩) 1 1), (.bool false), (.slice none 0 0)]))]) (cells := #[(.slice (some ⟨n110, 0, none⟩) 1 1), (.slice (some ⟨n113, 0, none⟩) 1 1), (.bool false), (.slice none 0 0)]) (E := 67) (bmap1 rfl) (fun w => by kernel_rfl)) (fun n116 w117 S118 => ?_)
      simp only [Act.put, List.setIfInBounds_toArray, List.set_cons_succ, List.set_cons_zero]
      have S118 : St W (whole W) w117 F50 [⟨n116, [(.slice (some ⟨n110, 0, none⟩) 1 1), (.slice (some ⟨n113, 0, none⟩) 1 1), (.bool false), (.slice none 0 0)], 67⟩, ⟨n113, [(.int .u8 2)], 5⟩, ⟨n110, [(.int .u8 ((kn : Nat) : Int))], 5⟩] [] := S118
      obtain ⟨S119, le120, hc121⟩ := St.freezeBlk S118 (i := 2) rfl
      have r123 : Bs _ (.slice (some ⟨n110, 0, none⟩) 1 1) ([b8 kn] : By) := bs_of_block (l := ([b8 kn] : By)) hc121 ((by simp only [List.map_cons, List.map_nil]; rw [bv_b8 (by omega)])) (by unfold maxLen; simp)
      generalize addF F50 w117 n110 = F122 at *
      have S119 : St W (whole W) w117 F122 [⟨n116, [(.slice (some ⟨n110, 0, none⟩) 1 1), (.slice (some ⟨n113, 0, none⟩) 1 1), (.bool false), (.slice none 0 0)], 67⟩, ⟨n113, [(.int .u8 2)], 5⟩] [] := S119
      obtain ⟨S124, le125, hc126⟩ := St.freezeBlk S119 (i := 1) rfl
      have r128 : Bs _ (.slice (some ⟨n113, 0, none⟩) 1 1) ([2] : By) := bs_of_block (l := ([2] : By)) hc126 (rfl) (by unfold maxLen; simp)
      generalize addF F122 w117 n113 = F127 at *
      have S124 : St W (whole W) w117 F127 [⟨n116, [(.slice (some ⟨n110, 0, none⟩) 1 1), (.slice (some ⟨n113, 0, none⟩) 1 1), (.bool false), (.slice none 0 0)], 67⟩] [] := S124
      obtain ⟨S129, le130, hc131⟩ := St.freezeBlk S124 (i := 0) rfl
      have r133 : Wrs _ (.slice (some ⟨n116, 0, none⟩) 1 1) [ffW kn] := sl_of_block (R := WrC) (l := [ffW kn]) (el := [[(.slice (some ⟨n110, 0, none⟩) 1 1), (.slice (some ⟨n113, 0, none⟩) 1 1), (.bool false), (.slice none 0 0)]]) hc131 rfl ⟨⟨_, _, _, _, rfl, ((r123.mono le125).mono le130), (r128.mono le130), rfl, Bs.nil _⟩, trivial⟩ (by simp) (by unfold maxLen; simp)
      generalize addF F127 w117 n116 = F132 at *
      have S129 : St W (whole W) w117 F132 [] [] := S129
      refine stGives S129 rfl (ex_fn (vs := #[(.slice a54 (ffL 8).length c55), (.slice (some ⟨n116, 0, none⟩) 1 1)]) (map2 rfl rfl) rfl (ent_59 _ _)) (apply_is (S129).sat (hv53.mono ((le120.trans le125).trans le130)) r133 ffL_ok (by simpa using ffW_ok kn) hae) ?_
      intro v139 w134 F136 S135 le137 R138
      obtain ⟨_, rfl, r142⟩ := R138
      obtain ⟨a140, c141, rfl, h143, h144⟩ := Sl.shape r142
      unfold maxLen at h144
      simp only [Act.put, List.setIfInBounds_toArray, List.set_cons_succ, List.set_cons_zero]
      have S135 : St W (whole W) w134 F136 [] [] := S135
      refine do_ rfl (.tuple #[(.slice a140 ([] : Forest).length c141), (.int .i64 11)]) (ex_move _) ?_
      simp only [Act.put, List.setIfInBounds_toArray, List.set_cons_succ, List.set_cons_zero]
      refine do_ rfl (.slice a140 ([] : Forest).length c141) (ex_extract rfl rfl) ?_
      simp only [Act.put, List.setIfInBounds_toArray, List.set_cons_succ, List.set_cons_zero]
      refine do_ rfl (.int .i64 11) (ex_extract rfl rfl) ?_
      simp only [Act.put, List.setIfInBounds_toArray, List.set_cons_succ, List.set_cons_zero]
      refine do_ rfl (.slice a140 ([] : Forest).length c141) (ex_assign _) ?_
      simp only [Act.put, List.setIfInBounds_toArray, List.set_cons_succ, List.set_cons_zero]
      refine do_ rfl (.int .i64 11) (ex_assign _) ?_
      simp only [Act.put, List.setIfInBounds_toArray, List.set_cons_succ, List.set_cons_zero]
      refine wl_nil ?_
      (try simp only [Exit.then, Exit.inBlock, ↓reduceIte, Nat.reduceEqDiff])
      refine hK60 _ _ ?_
      refine wp_seq_k (fun K145 hK145 => ?_)
      refine wp_seq_k (fun K146 hK146 => ?_)
      by_cases h1 : 1 ≤ kn
      · refine region_wl ?_
        refine do_ rfl (.int .i64 ((kn : Nat) : Int)) (ex_move _) ?_
        simp only [Act.put, List.setIfInBounds_toArray, List.set_cons_succ, List.set_cons_zero]
        refine do_ rfl (.bool true) (ex_geq (m := ((kn : Nat) : Int)) (n := (1 : Int)) (b := true) rfl rfl (decide_eq_true (by omega))) ?_
        simp only [Act.put, List.setIfInBounds_toArray, List.set_cons_succ, List.set_cons_zero]
        refine do_ rfl (.bool true) (ex_move _) ?_
        simp only [Act.put, List.setIfInBounds_toArray, List.set_cons_succ, List.set_cons_zero]
        refine do_ rfl (.int .i64 ((kn : Nat) : Int)) (ex_move _) ?_
        simp only [Act.put, List.setIfInBounds_toArray, List.set_cons_succ, List.set_cons_zero]
        refine do_ rfl (.bool false) (ex_leq (m := ((kn : Nat) : Int)) (n := (8 : Int)) (b := false) rfl rfl (decide_eq_false (by omega))) ?_
        simp only [Act.put, List.setIfInBounds_toArray, List.set_cons_succ, List.set_cons_zero]
        refine do_ rfl (.bool false) (ex_pick (b := true) rfl) ?_
        simp only [Act.put, List.setIfInBounds_toArray, List.set_cons_succ, List.set_cons_zero]
        refine wl_nil ?_
        (try simp only [Exit.then, Exit.inBlock, ↓reduceIte, Nat.reduceEqDiff])
        refine hK146 _ _ ?_
        refine wp_cond_false rfl ?_
        refine wp_skip ?_
        (try simp only [Exit.then, Exit.inBlock, ↓reduceIte, Nat.reduceEqDiff])
        refine hK145 _ _ ?_
        refine wp_seq_k (fun K147 hK147 => ?_)
        refine region_wl ?_
        refine do_ rfl (.int .i64 11) (ex_move _) ?_
        simp only [Act.put, List.setIfInBounds_toArray, List.set_cons_succ, List.set_cons_zero]
        refine do_ rfl (.bool true) (ex_eql (b := true) rfl rfl (by decide)) ?_
        simp only [Act.put, List.setIfInBounds_toArray, List.set_cons_succ, List.set_cons_zero]
        refine do_ rfl (.bool true) (ex_move _) ?_
        simp only [Act.put, List.setIfInBounds_toArray, List.set_cons_succ, List.set_cons_zero]
        refine do_ rfl (.slice a54 (ffL 8).length c55) (ex_move _) ?_
        simp only [Act.put, List.setIfInBounds_toArray, List.set_cons_succ, List.set_cons_zero]
        refine stTells (v := (.int .i64 0)) S135 rfl (ex_fn (vs := #[(.slice a54 (ffL 8).length c55)]) (map1 rfl) rfl (ent_61 _ _)) (forestCheckOk_spec _ _ _ (ffL 8) (S135).sat (hv53.mono (((le120.trans le125).trans le130).trans le137)) ffL_ok) (fun w148 S149 => ?_)
        simp only [Act.put, List.setIfInBounds_toArray, List.set_cons_succ, List.set_cons_zero]
        have S149 : St W (whole W) w148 F136 [] [] := S149
        refine do_ rfl (.bool true) (ex_eql (b := true) rfl rfl (by decide)) ?_
        simp only [Act.put, List.setIfInBounds_toArray, List.set_cons_succ, List.set_cons_zero]
        refine do_ rfl (.bool true) (ex_pick (b := true) rfl) ?_
        simp only [Act.put, List.setIfInBounds_toArray, List.set_cons_succ, List.set_cons_zero]
        refine do_ rfl (.bool true) (ex_move _) ?_
        simp only [Act.put, List.setIfInBounds_toArray, List.set_cons_succ, List.set_cons_zero]
        refine do_ rfl (.slice a140 ([] : Forest).length c141) (ex_move _) ?_
        simp only [Act.put, List.setIfInBounds_toArray, List.set_cons_succ, List.set_cons_zero]
        refine do_ rfl (.int .i64 ((([] : Forest).length : Nat) : Int)) (ex_len Try.underlying73 rfl) ?_
        simp only [Act.put, List.setIfInBounds_toArray, List.set_cons_succ, List.set_cons_zero]
        refine do_ rfl (.bool true) (ex_eql (m := ((([] : Forest).length : Nat) : Int)) (n := (0 : Int)) (b := true) rfl rfl (beq_iff_eq.2 (by simp))) ?_
        simp only [Act.put, List.setIfInBounds_toArray, List.set_cons_succ, List.set_cons_zero]
        refine do_ rfl (.bool true) (ex_pick (b := true) rfl) ?_
        simp only [Act.put, List.setIfInBounds_toArray, List.set_cons_succ, List.set_cons_zero]
        refine do_ rfl (.bool true) (ex_assign _) ?_
        simp only [Act.put, List.setIfInBounds_toArray, List.set_cons_succ, List.set_cons_zero]
        refine wl_nil ?_
        (try simp only [Exit.then, Exit.inBlock, ↓reduceIte, Nat.reduceEqDiff])
        refine hK147 _ _ ?_
        refine wp_ret ?_
        (try simp only [Exit.then, Exit.inBlock, ↓reduceIte, Nat.reduceEqDiff])
        refine bodyPost_ret (v := (.bool true)) ?_ rfl ?_
        · exact res_t rfl rfl
        · exact ⟨rfl, S149.gr.below⟩
      · refine region_wl ?_
        refine do_ rfl (.int .i64 ((kn : Nat) : Int)) (ex_move _) ?_
        simp only [Act.put, List.setIfInBounds_toArray, List.set_cons_succ, List.set_cons_zero]
        refine do_ rfl (.bool false) (ex_geq (m := ((kn : Nat) : Int)) (n := (1 : Int)) (b := false) rfl rfl (decide_eq_false (by omega))) ?_
        simp only [Act.put, List.setIfInBounds_toArray, List.set_cons_succ, List.set_cons_zero]
        refine do_ rfl (.bool false) (ex_move _) ?_
        simp only [Act.put, List.setIfInBounds_toArray, List.set_cons_succ, List.set_cons_zero]
        refine doN (wanted_no rfl rfl rfl (c := false) rfl (by decide)) ?_
        simp only [Act.put, List.setIfInBounds_toArray, List.set_cons_succ, List.set_cons_zero]
        refine doN (wanted_no rfl rfl rfl (c := false) rfl (by decide)) ?_
        simp only [Act.put, List.setIfInBounds_toArray, List.set_cons_succ, List.set_cons_zero]
        refine do_ rfl (.bool false) (ex_pick (b := false) rfl) ?_
        simp only [Act.put, List.setIfInBounds_toArray, List.set_cons_succ, List.set_cons_zero]
        refine wl_nil ?_
        (try simp only [Exit.then, Exit.inBlock, ↓reduceIte, Nat.reduceEqDiff])
        refine hK146 _ _ ?_
        refine wp_cond_false rfl ?_
        refine wp_skip ?_
        (try simp only [Exit.then, Exit.inBlock, ↓reduceIte, Nat.reduceEqDiff])
        refine hK145 _ _ ?_
        refine wp_seq_k (fun K150 hK150 => ?_)
        refine region_wl ?_
        refine do_ rfl (.int .i64 11) (ex_move _) ?_
        simp only [Act.put, List.setIfInBounds_toArray, List.set_cons_succ, List.set_cons_zero]
        refine do_ rfl (.bool true) (ex_eql (b := true) rfl rfl (by decide)) ?_
        simp only [Act.put, List.setIfInBounds_toArray, List.set_cons_succ, List.set_cons_zero]
        refine do_ rfl (.bool true) (ex_move _) ?_
        simp only [Act.put, List.setIfInBounds_toArray, List.set_cons_succ, List.set_cons_zero]
        refine do_ rfl (.slice a54 (ffL 8).length c55) (ex_move _) ?_
        simp only [Act.put, List.setIfInBounds_toArray, List.set_cons_succ, List.set_cons_zero]
        refine stTells (v := (.int .i64 0)) S135 rfl (ex_fn (vs := #[(.slice a54 (ffL 8).length c55)]) (map1 rfl) rfl (ent_61 _ _)) (forestCheckOk_spec _ _ _ (ffL 8) (S135).sat (hv53.mono (((le120.trans le125).trans le130).trans le137)) ffL_ok) (fun w151 S152 => ?_)
        simp only [Act.put, List.setIfInBounds_toArray, List.set_cons_succ, List.set_cons_zero]
        have S152 : St W (whole W) w151 F136 [] [] := S152
        refine do_ rfl (.bool true) (ex_eql (b := true) rfl rfl (by decide)) ?_
        simp only [Act.put, List.setIfInBounds_toArray, List.set_cons_succ, List.set_cons_zero]
        refine do_ rfl (.bool true) (ex_pick (b := true) rfl) ?_
        simp only [Act.put, List.setIfInBounds_toArray, List.set_cons_succ, List.set_cons_zero]
        refine do_ rfl (.bool true) (ex_move _) ?_
        simp only [Act.put, List.setIfInBounds_toArray, List.set_cons_succ, List.set_cons_zero]
        refine do_ rfl (.slice a140 ([] : Forest).length c141) (ex_move _) ?_
        simp only [Act.put, List.setIfInBounds_toArray, List.set_cons_succ, List.set_cons_zero]
        refine do_ rfl (.int .i64 ((([] : Forest).length : Nat) : Int)) (ex_len Try.underlying73 rfl) ?_
        simp only [Act.put, List.setIfInBounds_toArray, List.set_cons_succ, List.set_cons_zero]
        refine do_ rfl (.bool true) (ex_eql (m := ((([] : Forest).length : Nat) : Int)) (n := (0 : Int)) (b := true) rfl rfl (beq_iff_eq.2 (by simp))) ?_
        simp only [Act.put, List.setIfInBounds_toArray, List.set_cons_succ, List.set_cons_zero]
        refine do_ rfl (.bool true) (ex_pick (b := true) rfl) ?_
        simp only [Act.put, List.setIfInBounds_toArray, List.set_cons_succ, List.set_cons_zero]
        refine do_ rfl (.bool true) (ex_assign _) ?_
        simp only [Act.put, List.setIfInBounds_toArray, List.set_cons_succ, List.set_cons_zero]
        refine wl_nil ?_
        (try simp only [Exit.then, Exit.inBlock, ↓reduceIte, Nat.reduceEqDiff])
        refine hK150 _ _ ?_
        refine wp_ret ?_
        (try simp only [Exit.then, Exit.inBlock, ↓reduceIte, Nat.reduceEqDiff])
        refine bodyPost_ret (v := (.bool true)) ?_ rfl ?_
        · exact res_t rfl rfl
        · exact ⟨rfl, S152.gr.below⟩
end Go.Proofs.Yteefnnnbbmbmcaa
