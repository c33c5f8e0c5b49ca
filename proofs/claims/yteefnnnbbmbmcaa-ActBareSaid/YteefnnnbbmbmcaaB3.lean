/- Walks: lines.Check, canopykeep.Act -/
import Derived.Test.YteefnnnbbmbmcaaB
import Derived.Test.YteefnnnbbmbmcaaG
namespace Go.Proofs.Yteefnnnbbmbmcaa
open Go.RowKit
set_option maxRecDepth 100000
theorem ret_int {k : IntKind} {a b : Int} (h : a = b) : Ending.returned (.int k a) = .returned (.int k b) := by rw [h]
/-- What lines.Check tells of an act. -/
def actN (kind sess keep : Int) (n : Nat) : Int :=
  if kind < 1 ∨ 4 < kind then 5 else if (kind = 1 ∧ (sess < 0 ∨ 8 ≤ sess)) ∨ (kind = 3 ∧ (keep < 0 ∨ 200000 < keep)) then 2
  else if 4000 < n then 1 else if (kind ≠ 1 ∧ (sess ≠ 0 ∨ 0 < n)) ∨ (kind ≠ 3 ∧ keep ≠ 0) then 4 else 0
set_option maxHeartbeats 4000000 in
theorem actCheck_spec (w : World) (kind sess keep : Int) (a : Option Addr) (n c : Nat) (hn : n ≤ 9223372036854775807) :
    Calls Try.prog 43 #[.agg #[.int .i64 kind, .int .i64 sess, .int .i64 keep, .slice a n c]] w (Tells w (.int .i64 (actN kind sess keep n))) := by
  have HA : Hid (actN kind sess keep n = if kind < 1 ∨ 4 < kind then 5 else if (kind = 1 ∧ (sess < 0 ∨ 8 ≤ sess)) ∨ (kind = 3 ∧ (keep < 0 ∨ 200000 < keep)) then 2
    else if 4000 < n then 1 else if (kind ≠ 1 ∧ (sess ≠ 0 ∨ 0 < n)) ∨ (kind ≠ 3 ∧ keep ≠ 0) then 4 else 0) := rfl
  generalize actN kind sess keep n = r at *
  go_enter Try.func43, Try.ntmps43
  go_wp2_with fail
  all_goals
    go_ret
    refine ⟨?_, (Below.refl _ _).alloc (Nat.le_refl _) _⟩
    have h := HA.out
    clear HA
    try simp only [bne_iff_ne, ne_eq, bne_eq_false_iff_eq] at *
    refine ret_int (Eq.symm (h.trans ?_))
    first | rw [if_pos (by omega)] | rw [if_neg (by omega), if_pos (by omega)] | rw [if_neg (by omega), if_neg (by omega), if_pos (by omega)] | rw [if_neg (by omega), if_neg (by omega), if_neg (by omega), if_pos (by omega)] | rw [if_neg (by omega), if_neg (by omega), if_neg (by omega), if_neg (by omega)]
/-- An act out of raw numbers. -/
def actKind (kind : Int) : Int := 1 + pick kind 4
def actSess (kind a : Int) : Int := if actKind kind = 1 then pick a 8 else 0
def actKeep (kind a : Int) : Int := if actKind kind = 3 then pick a 1000 else 0
def actData (kind : Int) (l : List UInt8) : List UInt8 := if actKind kind = 1 then l.take 80 else []
theorem actKind_bd (kind : Int) : 1 ≤ actKind kind ∧ actKind kind ≤ 4 := by have := pick_bd kind 4 (by omega); unfold actKind; omega
def ActV (F : Fz) (v : Value) (kind sess keep : Int) (l : List UInt8) : Prop := ∃ d, v = .agg #[.int .i64 kind, .int .i64 sess, .int .i64 keep, d] ∧ Bs F d l
set_option maxHeartbeats 1000000 in
theorem act_spec (F : Fz) (w : World) (kind a : Int) (d : Value) (l : List UInt8) (hs : Sat w F) (hd : Bs F d l) (k1 : -9223372036854775808 ≤ kind) (k2 : kind ≤ 9223372036854775807) (a1 : -9223372036854775808 ≤ a) (a2 : a ≤ 9223372036854775807) :
    Calls Try.prog 42 #[.agg #[.int .i64 kind, .int .i64 a, d]] w (Gives w F fun F' u => ActV F' u (actKind kind) (actSess kind a) (actKeep kind a) (actData kind l)) := by
  obtain ⟨b1, b2⟩ := actKind_bd kind
  have e : Hid (actKind kind = 1 + pick kind 4) := rfl
  obtain ⟨p1, p2⟩ := pick_bd kind 4 (by omega)
  have hE : ∀ X : World, Calls Try.prog 39 #[.int .i64 kind, .int .i64 4] X fun e w' => e = .returned (.int .i64 (pick kind 4)) ∧ w' = X := fun X => picked_spec kind 4 X k1 k2 (by omega) (by omega)
  have HE := hid hE
  clear hE
  go_enter Try.func42, Try.ntmps42
  go_wp2_with fail
  refine (HE.out _).mono ?_; rintro e w' ⟨rfl, rfl⟩
  rcases (by omega : pick kind 4 = 0 ∨ pick kind 4 = 2 ∨ (pick kind 4 ≠ 0 ∧ pick kind 4 ≠ 2)) with h | h | ⟨h, h'⟩
  · rw [h]
    go_wp2_with fail
    refine (picked_spec _ _ _ a1 a2 (by omega) (by omega)).mono ?_; rintro e w' ⟨rfl, rfl⟩
    go_wp2_with fail
    have q1 : ((w.alloc (.cells #[.int .i64 kind, .int .i64 a, d] 29)).alloc (.cells #[.int .i64 0, .int .i64 0, .int .i64 0, .slice none 0 0] 31)).heap[w.heap.size + 1]? = some (.cells #[.int .i64 0, .int .i64 0, .int .i64 0, .slice none 0 0] 31) := heap_new_at _ _ (by simp)
    have hB : Below w.heap.size w (((w.alloc (.cells #[.int .i64 kind, .int .i64 a, d] 29)).alloc (.cells #[.int .i64 0, .int .i64 0, .int .i64 0, .slice none 0 0] 31)).alloc (.cells #[.int .i64 1, .int .i64 (pick a 8), .int .i64 0, .slice none 0 0] 31)) := (((Below.refl _ _).alloc (Nat.le_refl _) _).alloc (by simp) _).alloc (by simp; omega) _
    have hsW := hs.below hB
    refine (some_spec F _ _ l _ hsW hd (by omega) (by omega)).mono ?_; rintro e w1 ⟨v1, F1, rfl, g1, r1⟩
    have x1 := heap_kept g1.below (heap_new_past _ _ q1)
    have x2 := heap_kept g1.below (heap_new_at ((w.alloc (.cells #[.int .i64 kind, .int .i64 a, d] 29)).alloc (.cells #[.int .i64 0, .int .i64 0, .int .i64 0, .slice none 0 0] 31)) (.cells #[.int .i64 1, .int .i64 (pick a 8), .int .i64 0, .slice none 0 0] 31) (n := w.heap.size + 1 + 1) (by simp))
    obtain ⟨y0, y1, y2, y3, yf⟩ := box4 x1
    obtain ⟨z0, z1, z2, z3, zf⟩ := box4 x2
    have n1 : F1 (w.heap.size + 1) = none := by rw [g1.old _ (by simp)]; exact hs.out (by omega)
    have n2 : F1 (w.heap.size + 1 + 1) = none := by rw [g1.old _ (by simp)]; exact hs.out (by omega)
    have hg := (Gr.of_below hs hB).trans g1
    clear q1 x1 x2 g1 hB hsW
    obtain ⟨a3, c3, rfl, _, _⟩ := r1.shape
    go_wp2_with fail
    refine bodyPost_ret (v := .agg #[.int .i64 1, .int .i64 (pick a 8), .int .i64 0, .slice a3 (l.take (Int.toNat 80)).length c3]) (by simp [results, Try.results42, go_sem, y0, y1, y2, y3]) rfl ⟨_, F1, rfl, ?_, ?_⟩
    · repeat (first | exact hg | refine Gr.set ?_ (by first | (simp; done) | (simp; omega)) (by first | exact n1 | exact n2) _)
    · have K : actKind kind = 1 := by rw [e.out, h]; rfl
      have K3 : ¬ actKind kind = 3 := by omega
      simp only [actSess, actKeep, actData, if_pos K, if_neg K3]
      rw [K]
      refine ⟨_, rfl, ?_⟩
      simpa using r1
  · rw [h]
    go_wp2_with fail
    refine (picked_spec _ _ _ a1 a2 (by omega) (by omega)).mono ?_; rintro e w' ⟨rfl, rfl⟩
    go_wp2_with fail
    have hg : Gr w F (((w.alloc (.cells #[.int .i64 kind, .int .i64 a, d] 29)).alloc (.cells #[.int .i64 3, .int .i64 0, .int .i64 (pick a 1000), .slice none 0 0] 31)).alloc (.cells #[.int .i64 3, .int .i64 0, .int .i64 (pick a 1000), .slice none 0 0] 31)) F := (((Gr.refl hs).new _).new _).new _
    refine bodyPost_ret (v := .agg #[.int .i64 3, .int .i64 0, .int .i64 (pick a 1000), .slice none 0 0]) (by simp [results, Try.results42, go_sem]) rfl ⟨_, F, rfl, hg, ?_⟩
    have K : actKind kind = 3 := by rw [e.out, h]; rfl
    have K1 : ¬ actKind kind = 1 := by omega
    simp only [actSess, actKeep, actData, if_neg K1, if_pos K]
    rw [K]
    exact ⟨_, rfl, Bs.nil F⟩
  · have K1 : ¬ actKind kind = 1 := by rw [e.out]; omega
    have K3 : ¬ actKind kind = 3 := by rw [e.out]; omega
    have q1 : (1 + pick kind 4 == 1) = false := by rw [beq_eq_false_iff_ne]; omega
    have q3 : (1 + pick kind 4 == 3) = false := by rw [beq_eq_false_iff_ne]; omega
    have KK1 := hid K1
    have KK3 := hid K3
    clear K1 K3
    go_wp2_with fail
    have hg : Gr w F (((w.alloc (.cells #[.int .i64 kind, .int .i64 a, d] 29)).alloc (.cells #[.int .i64 (1 + pick kind 4), .int .i64 0, .int .i64 0, .slice none 0 0] 31)).alloc (.cells #[.int .i64 (1 + pick kind 4), .int .i64 0, .int .i64 0, .slice none 0 0] 31)) F := (((Gr.refl hs).new _).new _).new _
    refine bodyPost_ret (v := .agg #[.int .i64 (1 + pick kind 4), .int .i64 0, .int .i64 0, .slice none 0 0]) (by simp [results, Try.results42, go_sem]) rfl ⟨_, F, rfl, hg, ?_⟩
    simp only [actSess, actKeep, actData, if_neg KK1.out, if_neg KK3.out]
    rw [e.out]
    exact ⟨_, rfl, Bs.nil F⟩
end Go.Proofs.Yteefnnnbbmbmcaa
