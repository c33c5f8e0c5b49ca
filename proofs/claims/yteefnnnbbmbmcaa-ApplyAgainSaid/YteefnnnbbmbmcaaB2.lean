/- Walks: slices.Clone at bytes, tree.own -/
import Derived.Test.YteefnnnbbmbmcaaB
import Derived.Test.YteefnnnbbmbmcaaG
namespace Go.Proofs.Yteefnnnbbmbmcaa
open Go.RowKit
set_option maxRecDepth 100000
set_option maxHeartbeats 400000 in
theorem clone_spec (F : Fz) (w : World) (v : Value) (l : List UInt8) (hs : Sat w F) (hv : Bs F v l) (hm : l.length ≤ 100000) :
    Calls Try.prog 85 #[v] w (Gives w F fun F' u => Bs F' u l) := by
  obtain ⟨a, c, rfl, hlc, hcm⟩ := hv.shape
  obtain ⟨i, hi, hz0, hz1, hz2⟩ := info_parts infoU8
  have hr := hv
  unfold Bs at hr
  have hnil := Lib.run_eql_slice_nil (P := Try.prog) w 27 5 a l.length c 0 0 Try.underlying27
  cases a with
  | none =>
    have hl : l = [] := by
      obtain ⟨a', c', h1, _, _, h4, _⟩ := hr
      cases h1
      exact List.eq_nil_of_length_eq_zero (h4 rfl).1
    subst hl
    simp only [List.length_nil] at hnil
    go_enter Try.func85, Try.ntmps85
    go_wp2_with fail
    go_ret
    exact ⟨_, F, rfl, Gr.refl hs, Bs.nil F⟩
  | some a =>
    have hown := World.ownsRow_lit (base := w.heap.size) (e := 5) (size := 1) w #[] 0 (Nat.le_refl _) (Nat.zero_le _) rfl
    have hsa := hs.alloc (.cells #[] 5)
    go_enter Try.func85, Try.ntmps85
    go_wp2_with (at_builtin; go_loud (refine wpList_append_any rfl _ _ 27 rfl w.heap.size 5 i (.int .u8 0) 1 1 Try.underlying27 hi hz0 hz1 hz2 rfl (by decide) rfl hown rfl hsa hr (by simp) (bv_oneCell _) (by unfold maxLen; omega) (by omega) (by simp) ?_))
    intro v1 w1 hown1 hg _
    have hb : Below w.heap.size w w1 := ((Below.refl _ _).alloc (Nat.le_refl _) _).grown hg (by simp) (fun g hg' => (hown.lt g hg').1)
    clear hg hown
    go_wp2_with fail
    go_ret
    obtain ⟨F', h1, h2⟩ := Gr.row hs hb hown1
    exact ⟨_, F', rfl, h1, by simpa [Bs] using h2⟩
/-- A pair by value. -/
def PrV (F : Fz) (v : Value) (k x : List UInt8) : Prop := ∃ a b, v = .agg #[a, b] ∧ Bs F a k ∧ Bs F b x
theorem PrV.mono {F F' : Fz} {v : Value} {k x : List UInt8} (h : PrV F v k x) (hl : Le F F') : PrV F' v k x := by
  obtain ⟨a, b, h1, h2, h3⟩ := h
  exact ⟨a, b, h1, h2.mono hl, h3.mono hl⟩
set_option maxHeartbeats 400000 in
theorem own_spec (F : Fz) (w : World) (v : Value) (k x : List UInt8) (hs : Sat w F) (hv : PrV F v k x) (hk : k.length ≤ 100000) (hx : x.length ≤ 100000) :
    Calls Try.prog 87 #[v] w (Gives w F fun F' u => PrV F' u k x) := by
  obtain ⟨a, b, rfl, ha, hb⟩ := hv
  go_enter Try.func87, Try.ntmps87
  go_wp2_with fail
  have c0 : ((w.alloc (.cells #[a, b] 49)).alloc (.cells #[.slice none 0 0, .slice none 0 0] 49)).cell? ⟨w.heap.size, 0, none⟩ = some a := by go_simp
  have c1 : ((w.alloc (.cells #[a, b] 49)).alloc (.cells #[.slice none 0 0, .slice none 0 0] 49)).cell? ⟨w.heap.size, 1, none⟩ = some b := by go_simp
  have hB : Below w.heap.size w ((w.alloc (.cells #[a, b] 49)).alloc (.cells #[.slice none 0 0, .slice none 0 0] 49)) := ((Below.refl _ _).alloc (Nat.le_refl _) _).alloc (by simp) _
  have hsW := hs.below hB
  have hp : ((w.alloc (.cells #[a, b] 49)).alloc (.cells #[.slice none 0 0, .slice none 0 0] 49)).heap[w.heap.size + 1]? = some (.cells #[.slice none 0 0, .slice none 0 0] 49 (0, 0)) := by
    rw [show w.heap.size + 1 = (w.alloc (.cells #[a, b] 49)).heap.size from by simp]
    exact heap_alloc_new _ _
  have hsz : w.heap.size + 1 < ((w.alloc (.cells #[a, b] 49)).alloc (.cells #[.slice none 0 0, .slice none 0 0] 49)).heap.size := by simp
  generalize ((w.alloc (.cells #[a, b] 49)).alloc (.cells #[.slice none 0 0, .slice none 0 0] 49)) = W at *
  have d0 : ∀ w', Below W.heap.size W w' → w'.cell? ⟨w.heap.size, 0, none⟩ = some a := fun w' h => (h.cell (by show w.heap.size < _; omega)).trans c0
  have d1 : ∀ w', Below W.heap.size W w' → w'.cell? ⟨w.heap.size, 1, none⟩ = some b := fun w' h => (h.cell (by show w.heap.size < _; omega)).trans c1
  clear c0 c1
  refine wp_region_made F 7 [(2, .made fun F' u => Bs F' u k), (5, .made fun F' u => Bs F' u x), (6, .made fun F' u => PrV F' u k x)] (by kernel_rfl) (by kernel_rfl) ?_
  simp only [List.take_succ_cons, List.take_zero]
  (refine wpG_pure rfl rfl ?_ (fun w' hC => ?_) ?_; rotate_left 1; focus (unfold PureAt; go_simp; rfl))
  simp only [Act.put, List.setIfInBounds_toArray, List.set_cons_succ, List.set_cons_zero]
  (refine wpG_pure rfl rfl ?_ (fun w' hC => ?_) ?_; rotate_left 1; focus (unfold PureAt; go_simp; rfl))
  simp only [Act.put, List.setIfInBounds_toArray, List.set_cons_succ, List.set_cons_zero]
  (refine wpG_rel rfl rfl (fun w' hC hF => ?_) (fun v1 => ?_); focus (unfold Does; go_simp; exact call_made hsW hC (clone_spec F w' a k (hsW.below hC) ha hk)))
  simp only [Act.put, List.setIfInBounds_toArray, List.set_cons_succ, List.set_cons_zero]
  (refine wpG_pure rfl rfl ?_ (fun w' hC => ?_) ?_; rotate_left 1; focus (unfold PureAt; go_simp; rfl))
  simp only [Act.put, List.setIfInBounds_toArray, List.set_cons_succ, List.set_cons_zero]
  (refine wpG_pure rfl rfl ?_ (fun w' hC => ?_) ?_; rotate_left 1; focus (unfold PureAt; go_simp; rfl))
  simp only [Act.put, List.setIfInBounds_toArray, List.set_cons_succ, List.set_cons_zero]
  (refine wpG_rel rfl rfl (fun w' hC hF => ?_) (fun v2 => ?_); focus (unfold Does; go_simp; exact call_made hsW hC (clone_spec F w' b x (hsW.below hC) hb hx)))
  simp only [Act.put, List.setIfInBounds_toArray, List.set_cons_succ, List.set_cons_zero]
  (refine wpG_rel rfl rfl (fun w' hC hF => ?_) (fun v3 => ?_); focus (
    obtain ⟨F1, g1, r1⟩ := hF.get 2 (by kernel_rfl) rfl rfl
    obtain ⟨F2, g2, r2⟩ := hF.get 5 (by kernel_rfl) rfl rfl
    obtain ⟨a1, c1, rfl, _⟩ := r1.shape
    obtain ⟨a2, c2, rfl, _⟩ := r2.shape
    unfold Does
    go_simp
    exact ⟨⟨both F1 F2, g1.both g2, _, _, rfl, r1.mono (both_left _ _), r2.mono (both_right g1.sat g2.sat)⟩, Below.refl _ _⟩))
  simp only [Act.put, List.setIfInBounds_toArray, List.set_cons_succ, List.set_cons_zero]
  refine wpG_nil ?_
  intro w1 hC hF
  obtain ⟨F1, g1, u1, u2, rfl, r1, r2⟩ := hF.get 6 rfl rfl
  clear hF d0 d1
  simp only [List.drop_succ_cons, List.drop_zero]
  have hp1 := (hC.block _ hsz).trans hp
  have e0 : w1.cell? ⟨w.heap.size + 1, 0, none⟩ = some (.slice none 0 0) := by simp [World.cell?, hp1]
  have e1 : w1.cell? ⟨w.heap.size + 1, 1, none⟩ = some (.slice none 0 0) := by simp [World.cell?, hp1]
  have f0 : w1.frozen? ⟨w.heap.size + 1, 0, none⟩ = false := by simp [World.frozen?, hp1]
  have f1 : w1.frozen? ⟨w.heap.size + 1, 1, none⟩ = false := by simp [World.frozen?, hp1]
  obtain ⟨a1, c1, rfl, _, _⟩ := r1.shape
  obtain ⟨a2, c2, rfl, _, _⟩ := r2.shape
  go_wp2_with fail
  have hg := (Gr.of_below hs hB).trans g1
  have hn : F1 (w.heap.size + 1) = none := by rw [g1.old _ hsz]; exact hs.out (by omega)
  refine bodyPost_ret (v := .agg #[.slice a1 k.length c1, .slice a2 x.length c2]) (by simp [results, Try.results87, go_sem, e0, e1]) rfl ⟨_, F1, rfl, (hg.set (by simp) hn _).set (by simp) hn _, _, _, rfl, r1, r2⟩
end Go.Proofs.Yteefnnnbbmbmcaa
