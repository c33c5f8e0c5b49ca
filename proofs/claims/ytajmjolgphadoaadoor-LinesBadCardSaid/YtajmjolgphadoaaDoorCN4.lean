/- Rules, plain laws and walks: LC -/
import Derived.Test.YtajmjolgphadoaaDoorCN2
import Derived.Test.YtajmjolgphadoaaDoorCN3
namespace Go.Proofs.YtajmjolgphadoaaDoor
open Go.RowKit
set_option maxRecDepth 100000
set_option linter.unusedVariables false
set_option linter.unusedSimpArgs false
/-- An act, by value. -/
def AtV (F : Fz) (v : Value) (a : At) : Prop := ∃ x y, v = .agg #[.int .i64 a.kind, .int .i64 a.sess, .int .i64 a.n, .slice x a.data.length y] ∧ Bs F (.slice x a.data.length y) a.data
set_option maxHeartbeats 8000000 in
theorem checkA_spec (F : Fz) (w : World) (v : Value) (a : At) (hs : Sat w F) (hv : AtV F v a) :
    Calls Tryd.prog 25 #[v] w (Tells w (.int .i64 (checkA a))) := by
 obtain ⟨x, y, rfl, hv⟩ := hv
 have S := St.start hs
 go_enter Tryd.func25, Tryd.ntmps25
 refine wp_seq_k (fun K1 hK1 => region_wl ?_)
 refine stNew S (v := fun n => .pointer (some ⟨n, 0, none⟩)) rfl (ex_box (v := (.agg #[(.int .i64 a.kind), (.int .i64 a.sess), (.int .i64 a.n), (.slice x a.data.length y)])) rfl) (fun n2 w3 S4 => ?_)
 simp only [pS, pN, pA, pC, pZ]
 have S4 : St w F w3 F [⟨n2, [(.int .i64 a.kind), (.int .i64 a.sess), (.int .i64 a.n), (.slice x a.data.length y)], 50⟩] [] := S4
 refine do_ rfl (.int .i64 0) (ex_assign _) ?_
 simp only [pS, pN, pA, pC, pZ]
 refine wl_nil (hK1 _ _ ?_)
 refine wp_seq_k (fun K5 hK5 => ?_)
 refine wp_seq_k (fun K6 hK6 => region_wl ?_)
 refine do_ rfl (.pointer (some ⟨n2, 0, none⟩)) (ex_field (q := ⟨n2, 0, none⟩) rfl (fa_50_0 _ _)) ?_
 simp only [pS, pN, pA, pC, pZ]
 refine do_ rfl (.int .i64 a.kind) (ex_load rfl (load1 (nagg_3 _) (St.cell S4 (i := 0) rfl rfl))) ?_
 simp only [pS, pN, pA, pC, pZ]
 by_cases hc5 : a.kind < (1 : Int)
 ·refine do_ rfl (.bool true) (ex_lss (m := a.kind) (n := (1 : Int)) (b := true) rfl rfl (decide_eq_true (by omega))) ?_
  simp only [pS, pN, pA, pC, pZ]
  refine do_ rfl (.bool true) (ex_move _) ?_
  simp only [pS, pN, pA, pC, pZ]
  refine doN (wanted_no rfl rfl rfl (c := true) rfl (by decide)) ?_
  simp only [pS, pN, pA, pC, pZ]
  refine doN (wanted_no rfl rfl rfl (c := true) rfl (by decide)) ?_
  simp only [pS, pN, pA, pC, pZ]
  refine doN (wanted_no rfl rfl rfl (c := true) rfl (by decide)) ?_
  simp only [pS, pN, pA, pC, pZ]
  refine do_ rfl (.bool true) (ex_pick (b := true) rfl) ?_
  simp only [pS, pN, pA, pC, pZ]
  refine wl_nil (hK6 _ _ ?_)
  refine wp_cond_true rfl ?_
  refine wp_seq_k (fun K7 hK7 => region_wl ?_)
  refine do_ rfl (.int .i64 5) (ex_assign _) ?_
  simp only [pS, pN, pA, pC, pZ]
  refine wl_nil (hK7 _ _ ?_)
  refine wp_ret ?_
  (try simp only [Exit.then, Exit.inBlock, ↓reduceIte, Nat.reduceEqDiff])
  refine bodyPost_ret (v := (.int .i64 5)) ?_ rfl ?_
  ·exact res_t rfl rfl
  ·have hfin : checkA a = (5 : Int) := by
    unfold checkA
    (repeat split) <;> first | rfl | omega
   rw [hfin]
   exact ⟨rfl, S4.gr.below⟩
 ·refine do_ rfl (.bool false) (ex_lss (m := a.kind) (n := (1 : Int)) (b := false) rfl rfl (decide_eq_false (by omega))) ?_
  simp only [pS, pN, pA, pC, pZ]
  refine do_ rfl (.bool false) (ex_move _) ?_
  simp only [pS, pN, pA, pC, pZ]
  refine do_ rfl (.pointer (some ⟨n2, 0, none⟩)) (ex_field (q := ⟨n2, 0, none⟩) rfl (fa_50_0 _ _)) ?_
  simp only [pS, pN, pA, pC, pZ]
  refine do_ rfl (.int .i64 a.kind) (ex_load rfl (load1 (nagg_3 _) (St.cell S4 (i := 0) rfl rfl))) ?_
  simp only [pS, pN, pA, pC, pZ]
  by_cases hc9 : (4 : Int) < a.kind
  ·refine do_ rfl (.bool true) (ex_gtr (m := a.kind) (n := (4 : Int)) (b := true) rfl rfl (decide_eq_true (by omega))) ?_
   simp only [pS, pN, pA, pC, pZ]
   refine do_ rfl (.bool true) (ex_pick (b := false) rfl) ?_
   simp only [pS, pN, pA, pC, pZ]
   refine wl_nil (hK6 _ _ ?_)
   refine wp_cond_true rfl ?_
   refine wp_seq_k (fun K8 hK8 => region_wl ?_)
   refine do_ rfl (.int .i64 5) (ex_assign _) ?_
   simp only [pS, pN, pA, pC, pZ]
   refine wl_nil (hK8 _ _ ?_)
   refine wp_ret ?_
   (try simp only [Exit.then, Exit.inBlock, ↓reduceIte, Nat.reduceEqDiff])
   refine bodyPost_ret (v := (.int .i64 5)) ?_ rfl ?_
   ·exact res_t rfl rfl
   ·have hfin : checkA a = (5 : Int) := by
     unfold checkA
     (repeat split) <;> first | rfl | omega
    rw [hfin]
    exact ⟨rfl, S4.gr.below⟩
  ·refine do_ rfl (.bool false) (ex_gtr (m := a.kind) (n := (4 : Int)) (b := false) rfl rfl (decide_eq_false (by omega))) ?_
   simp only [pS, pN, pA, pC, pZ]
   refine do_ rfl (.bool false) (ex_pick (b := false) rfl) ?_
   simp only [pS, pN, pA, pC, pZ]
   refine wl_nil (hK6 _ _ ?_)
   refine wp_cond_false rfl ?_
   refine wp_skip ?_
   refine hK5 _ _ ?_
   refine wp_seq_k (fun K9 hK9 => ?_)
   refine wp_seq_k (fun K10 hK10 => region_wl ?_)
   refine do_ rfl (.pointer (some ⟨n2, 0, none⟩)) (ex_field (q := ⟨n2, 0, none⟩) rfl (fa_50_0 _ _)) ?_
   simp only [pS, pN, pA, pC, pZ]
   refine do_ rfl (.int .i64 a.kind) (ex_load rfl (load1 (nagg_3 _) (St.cell S4 (i := 0) rfl rfl))) ?_
   simp only [pS, pN, pA, pC, pZ]
   by_cases hc13 : a.kind = (1 : Int)
   ·refine do_ rfl (.bool true) (ex_eql (m := a.kind) (n := (1 : Int)) (b := true) rfl rfl (beq_iff_eq.2 (by omega))) ?_
    simp only [pS, pN, pA, pC, pZ]
    refine do_ rfl (.bool true) (ex_move _) ?_
    simp only [pS, pN, pA, pC, pZ]
    refine do_ rfl (.pointer (some ⟨n2, 1, none⟩)) (ex_field (q := ⟨n2, 1, none⟩) rfl (fa_50_1 _ _)) ?_
    simp only [pS, pN, pA, pC, pZ]
    refine do_ rfl (.int .i64 a.sess) (ex_load rfl (load1 (nagg_3 _) (St.cell S4 (i := 0) rfl rfl))) ?_
    simp only [pS, pN, pA, pC, pZ]
    by_cases hc17 : a.sess < (0 : Int)
    ·refine do_ rfl (.bool true) (ex_lss (m := a.sess) (n := (0 : Int)) (b := true) rfl rfl (decide_eq_true (by omega))) ?_
     simp only [pS, pN, pA, pC, pZ]
     refine do_ rfl (.bool true) (ex_move _) ?_
     simp only [pS, pN, pA, pC, pZ]
     refine doN (wanted_no rfl rfl rfl (c := true) rfl (by decide)) ?_
     simp only [pS, pN, pA, pC, pZ]
     refine doN (wanted_no rfl rfl rfl (c := true) rfl (by decide)) ?_
     simp only [pS, pN, pA, pC, pZ]
     refine doN (wanted_no rfl rfl rfl (c := true) rfl (by decide)) ?_
     simp only [pS, pN, pA, pC, pZ]
     refine do_ rfl (.bool true) (ex_pick (b := true) rfl) ?_
     simp only [pS, pN, pA, pC, pZ]
     refine do_ rfl (.bool true) (ex_pick (b := true) rfl) ?_
     simp only [pS, pN, pA, pC, pZ]
     refine do_ rfl (.bool true) (ex_move _) ?_
     simp only [pS, pN, pA, pC, pZ]
     refine doN (wanted_no rfl rfl rfl (c := true) rfl (by decide)) ?_
     simp only [pS, pN, pA, pC, pZ]
     refine doN (wanted_no rfl rfl rfl (c := true) rfl (by decide)) ?_
     simp only [pS, pN, pA, pC, pZ]
     refine doN (wanted_no rfl rfl rfl (c := true) rfl (by decide)) ?_
     simp only [pS, pN, pA, pC, pZ]
     refine doN (wanted_no rfl rfl rfl (c := true) rfl (by decide)) ?_
     simp only [pS, pN, pA, pC, pZ]
     refine doN (wanted_un rfl rfl rfl rfl) ?_
     simp only [pS, pN, pA, pC, pZ]
     refine doN (wanted_un rfl rfl rfl rfl) ?_
     simp only [pS, pN, pA, pC, pZ]
     refine doN (wanted_un rfl rfl rfl rfl) ?_
     simp only [pS, pN, pA, pC, pZ]
     refine doN (wanted_un rfl rfl rfl rfl) ?_
     simp only [pS, pN, pA, pC, pZ]
     refine doN (wanted_un rfl rfl rfl rfl) ?_
     simp only [pS, pN, pA, pC, pZ]
     refine doN (wanted_un rfl rfl rfl rfl) ?_
     simp only [pS, pN, pA, pC, pZ]
     refine doN (wanted_un rfl rfl rfl rfl) ?_
     simp only [pS, pN, pA, pC, pZ]
     refine doN (wanted_un rfl rfl rfl rfl) ?_
     simp only [pS, pN, pA, pC, pZ]
     refine doN (wanted_no rfl rfl rfl (c := true) rfl (by decide)) ?_
     simp only [pS, pN, pA, pC, pZ]
     refine do_ rfl (.bool true) (ex_pick (b := true) rfl) ?_
     simp only [pS, pN, pA, pC, pZ]
     refine wl_nil (hK10 _ _ ?_)
     refine wp_cond_true rfl ?_
     refine wp_seq_k (fun K11 hK11 => region_wl ?_)
     refine do_ rfl (.int .i64 2) (ex_assign _) ?_
     simp only [pS, pN, pA, pC, pZ]
     refine wl_nil (hK11 _ _ ?_)
     refine wp_ret ?_
     (try simp only [Exit.then, Exit.inBlock, ↓reduceIte, Nat.reduceEqDiff])
     refine bodyPost_ret (v := (.int .i64 2)) ?_ rfl ?_
     ·exact res_t rfl rfl
     ·have hfin : checkA a = (2 : Int) := by
       unfold checkA
       (repeat split) <;> first | rfl | omega
      rw [hfin]
      exact ⟨rfl, S4.gr.below⟩
    ·refine do_ rfl (.bool false) (ex_lss (m := a.sess) (n := (0 : Int)) (b := false) rfl rfl (decide_eq_false (by omega))) ?_
     simp only [pS, pN, pA, pC, pZ]
     refine do_ rfl (.bool false) (ex_move _) ?_
     simp only [pS, pN, pA, pC, pZ]
     refine do_ rfl (.pointer (some ⟨n2, 1, none⟩)) (ex_field (q := ⟨n2, 1, none⟩) rfl (fa_50_1 _ _)) ?_
     simp only [pS, pN, pA, pC, pZ]
     refine do_ rfl (.int .i64 a.sess) (ex_load rfl (load1 (nagg_3 _) (St.cell S4 (i := 0) rfl rfl))) ?_
     simp only [pS, pN, pA, pC, pZ]
     by_cases hc21 : (8 : Int) ≤ a.sess
     ·refine do_ rfl (.bool true) (ex_geq (m := a.sess) (n := (8 : Int)) (b := true) rfl rfl (decide_eq_true (by omega))) ?_
      simp only [pS, pN, pA, pC, pZ]
      refine do_ rfl (.bool true) (ex_pick (b := false) rfl) ?_
      simp only [pS, pN, pA, pC, pZ]
      refine do_ rfl (.bool true) (ex_pick (b := true) rfl) ?_
      simp only [pS, pN, pA, pC, pZ]
      refine do_ rfl (.bool true) (ex_move _) ?_
      simp only [pS, pN, pA, pC, pZ]
      refine doN (wanted_no rfl rfl rfl (c := true) rfl (by decide)) ?_
      simp only [pS, pN, pA, pC, pZ]
      refine doN (wanted_no rfl rfl rfl (c := true) rfl (by decide)) ?_
      simp only [pS, pN, pA, pC, pZ]
      refine doN (wanted_no rfl rfl rfl (c := true) rfl (by decide)) ?_
      simp only [pS, pN, pA, pC, pZ]
      refine doN (wanted_no rfl rfl rfl (c := true) rfl (by decide)) ?_
      simp only [pS, pN, pA, pC, pZ]
      refine doN (wanted_un rfl rfl rfl rfl) ?_
      simp only [pS, pN, pA, pC, pZ]
      refine doN (wanted_un rfl rfl rfl rfl) ?_
      simp only [pS, pN, pA, pC, pZ]
      refine doN (wanted_un rfl rfl rfl rfl) ?_
      simp only [pS, pN, pA, pC, pZ]
      refine doN (wanted_un rfl rfl rfl rfl) ?_
      simp only [pS, pN, pA, pC, pZ]
      refine doN (wanted_un rfl rfl rfl rfl) ?_
      simp only [pS, pN, pA, pC, pZ]
      refine doN (wanted_un rfl rfl rfl rfl) ?_
      simp only [pS, pN, pA, pC, pZ]
      refine doN (wanted_un rfl rfl rfl rfl) ?_
      simp only [pS, pN, pA, pC, pZ]
      refine doN (wanted_un rfl rfl rfl rfl) ?_
      simp only [pS, pN, pA, pC, pZ]
      refine doN (wanted_no rfl rfl rfl (c := true) rfl (by decide)) ?_
      simp only [pS, pN, pA, pC, pZ]
      refine do_ rfl (.bool true) (ex_pick (b := true) rfl) ?_
      simp only [pS, pN, pA, pC, pZ]
      refine wl_nil (hK10 _ _ ?_)
      refine wp_cond_true rfl ?_
      refine wp_seq_k (fun K12 hK12 => region_wl ?_)
      refine do_ rfl (.int .i64 2) (ex_assign _) ?_
      simp only [pS, pN, pA, pC, pZ]
      refine wl_nil (hK12 _ _ ?_)
      refine wp_ret ?_
      (try simp only [Exit.then, Exit.inBlock, ↓reduceIte, Nat.reduceEqDiff])
      refine bodyPost_ret (v := (.int .i64 2)) ?_ rfl ?_
      ·exact res_t rfl rfl
      ·have hfin : checkA a = (2 : Int) := by
        unfold checkA
        (repeat split) <;> first | rfl | omega
       rw [hfin]
       exact ⟨rfl, S4.gr.below⟩
     ·refine do_ rfl (.bool false) (ex_geq (m := a.sess) (n := (8 : Int)) (b := false) rfl rfl (decide_eq_false (by omega))) ?_
      simp only [pS, pN, pA, pC, pZ]
      refine do_ rfl (.bool false) (ex_pick (b := false) rfl) ?_
      simp only [pS, pN, pA, pC, pZ]
      refine do_ rfl (.bool false) (ex_pick (b := true) rfl) ?_
      simp only [pS, pN, pA, pC, pZ]
      refine do_ rfl (.bool false) (ex_move _) ?_
      simp only [pS, pN, pA, pC, pZ]
      refine do_ rfl (.pointer (some ⟨n2, 0, none⟩)) (ex_field (q := ⟨n2, 0, none⟩) rfl (fa_50_0 _ _)) ?_
      simp only [pS, pN, pA, pC, pZ]
      refine do_ rfl (.int .i64 a.kind) (ex_load rfl (load1 (nagg_3 _) (St.cell S4 (i := 0) rfl rfl))) ?_
      simp only [pS, pN, pA, pC, pZ]
      by_cases hc27 : a.kind = (3 : Int)
      ·refine do_ rfl (.bool true) (ex_eql (m := a.kind) (n := (3 : Int)) (b := true) rfl rfl (beq_iff_eq.2 (by omega))) ?_
       simp only [pS, pN, pA, pC, pZ]
       refine do_ rfl (.bool true) (ex_move _) ?_
       simp only [pS, pN, pA, pC, pZ]
       refine do_ rfl (.pointer (some ⟨n2, 2, none⟩)) (ex_field (q := ⟨n2, 2, none⟩) rfl (fa_50_2 _ _)) ?_
       simp only [pS, pN, pA, pC, pZ]
       refine do_ rfl (.int .i64 a.n) (ex_load rfl (load1 (nagg_3 _) (St.cell S4 (i := 0) rfl rfl))) ?_
       simp only [pS, pN, pA, pC, pZ]
       by_cases hc31 : a.n < (0 : Int)
       ·refine do_ rfl (.bool true) (ex_lss (m := a.n) (n := (0 : Int)) (b := true) rfl rfl (decide_eq_true (by omega))) ?_
        simp only [pS, pN, pA, pC, pZ]
        refine do_ rfl (.bool true) (ex_move _) ?_
        simp only [pS, pN, pA, pC, pZ]
        refine doN (wanted_no rfl rfl rfl (c := true) rfl (by decide)) ?_
        simp only [pS, pN, pA, pC, pZ]
        refine doN (wanted_no rfl rfl rfl (c := true) rfl (by decide)) ?_
        simp only [pS, pN, pA, pC, pZ]
        refine doN (wanted_no rfl rfl rfl (c := true) rfl (by decide)) ?_
        simp only [pS, pN, pA, pC, pZ]
        refine do_ rfl (.bool true) (ex_pick (b := true) rfl) ?_
        simp only [pS, pN, pA, pC, pZ]
        refine do_ rfl (.bool true) (ex_pick (b := true) rfl) ?_
        simp only [pS, pN, pA, pC, pZ]
        refine do_ rfl (.bool true) (ex_pick (b := false) rfl) ?_
        simp only [pS, pN, pA, pC, pZ]
        refine wl_nil (hK10 _ _ ?_)
        refine wp_cond_true rfl ?_
        refine wp_seq_k (fun K13 hK13 => region_wl ?_)
        refine do_ rfl (.int .i64 2) (ex_assign _) ?_
        simp only [pS, pN, pA, pC, pZ]
        refine wl_nil (hK13 _ _ ?_)
        refine wp_ret ?_
        (try simp only [Exit.then, Exit.inBlock, ↓reduceIte, Nat.reduceEqDiff])
        refine bodyPost_ret (v := (.int .i64 2)) ?_ rfl ?_
        ·exact res_t rfl rfl
        ·have hfin : checkA a = (2 : Int) := by
          unfold checkA
          (repeat split) <;> first | rfl | omega
         rw [hfin]
         exact ⟨rfl, S4.gr.below⟩
       ·refine do_ rfl (.bool false) (ex_lss (m := a.n) (n := (0 : Int)) (b := false) rfl rfl (decide_eq_false (by omega))) ?_
        simp only [pS, pN, pA, pC, pZ]
        refine do_ rfl (.bool false) (ex_move _) ?_
        simp only [pS, pN, pA, pC, pZ]
        refine do_ rfl (.pointer (some ⟨n2, 2, none⟩)) (ex_field (q := ⟨n2, 2, none⟩) rfl (fa_50_2 _ _)) ?_
        simp only [pS, pN, pA, pC, pZ]
        refine do_ rfl (.int .i64 a.n) (ex_load rfl (load1 (nagg_3 _) (St.cell S4 (i := 0) rfl rfl))) ?_
        simp only [pS, pN, pA, pC, pZ]
        by_cases hc35 : (200000 : Int) < a.n
        ·refine do_ rfl (.bool true) (ex_gtr (m := a.n) (n := (200000 : Int)) (b := true) rfl rfl (decide_eq_true (by omega))) ?_
         simp only [pS, pN, pA, pC, pZ]
         refine do_ rfl (.bool true) (ex_pick (b := false) rfl) ?_
         simp only [pS, pN, pA, pC, pZ]
         refine do_ rfl (.bool true) (ex_pick (b := true) rfl) ?_
         simp only [pS, pN, pA, pC, pZ]
         refine do_ rfl (.bool true) (ex_pick (b := false) rfl) ?_
         simp only [pS, pN, pA, pC, pZ]
         refine wl_nil (hK10 _ _ ?_)
         refine wp_cond_true rfl ?_
         refine wp_seq_k (fun K14 hK14 => region_wl ?_)
         refine do_ rfl (.int .i64 2) (ex_assign _) ?_
         simp only [pS, pN, pA, pC, pZ]
         refine wl_nil (hK14 _ _ ?_)
         refine wp_ret ?_
         (try simp only [Exit.then, Exit.inBlock, ↓reduceIte, Nat.reduceEqDiff])
         refine bodyPost_ret (v := (.int .i64 2)) ?_ rfl ?_
         ·exact res_t rfl rfl
         ·have hfin : checkA a = (2 : Int) := by
           unfold checkA
           (repeat split) <;> first | rfl | omega
          rw [hfin]
          exact ⟨rfl, S4.gr.below⟩
        ·refine do_ rfl (.bool false) (ex_gtr (m := a.n) (n := (200000 : Int)) (b := false) rfl rfl (decide_eq_false (by omega))) ?_
         simp only [pS, pN, pA, pC, pZ]
         refine do_ rfl (.bool false) (ex_pick (b := false) rfl) ?_
         simp only [pS, pN, pA, pC, pZ]
         refine do_ rfl (.bool false) (ex_pick (b := true) rfl) ?_
         simp only [pS, pN, pA, pC, pZ]
         refine do_ rfl (.bool false) (ex_pick (b := false) rfl) ?_
         simp only [pS, pN, pA, pC, pZ]
         refine wl_nil (hK10 _ _ ?_)
         refine wp_cond_false rfl ?_
         refine wp_skip ?_
         refine hK9 _ _ ?_
         refine wp_seq_k (fun K15 hK15 => ?_)
         refine wp_seq_k (fun K16 hK16 => region_wl ?_)
         refine do_ rfl (.pointer (some ⟨n2, 3, none⟩)) (ex_field (q := ⟨n2, 3, none⟩) rfl (fa_50_3 _ _)) ?_
         simp only [pS, pN, pA, pC, pZ]
         refine do_ rfl (.slice x a.data.length y) (ex_load rfl (load1 (nagg_27 _) (St.cell S4 (i := 0) rfl rfl))) ?_
         simp only [pS, pN, pA, pC, pZ]
         refine do_ rfl (.int .i64 ((a.data.length : Nat) : Int)) (ex_len Tryd.underlying27 rfl) ?_
         simp only [pS, pN, pA, pC, pZ]
         by_cases hc42 : 4000 < a.data.length
         ·refine do_ rfl (.bool true) (ex_gtr (m := ((a.data.length : Nat) : Int)) (n := (4000 : Int)) (b := true) rfl rfl (decide_eq_true (by omega))) ?_
          simp only [pS, pN, pA, pC, pZ]
          refine wl_nil (hK16 _ _ ?_)
          refine wp_cond_true rfl ?_
          refine wp_seq_k (fun K17 hK17 => region_wl ?_)
          refine do_ rfl (.int .i64 1) (ex_assign _) ?_
          simp only [pS, pN, pA, pC, pZ]
          refine wl_nil (hK17 _ _ ?_)
          refine wp_ret ?_
          (try simp only [Exit.then, Exit.inBlock, ↓reduceIte, Nat.reduceEqDiff])
          refine bodyPost_ret (v := (.int .i64 1)) ?_ rfl ?_
          ·exact res_t rfl rfl
          ·have hfin : checkA a = (1 : Int) := by
            unfold checkA
            (repeat split) <;> first | rfl | omega
           rw [hfin]
           exact ⟨rfl, S4.gr.below⟩
         ·refine do_ rfl (.bool false) (ex_gtr (m := ((a.data.length : Nat) : Int)) (n := (4000 : Int)) (b := false) rfl rfl (decide_eq_false (by omega))) ?_
          simp only [pS, pN, pA, pC, pZ]
          refine wl_nil (hK16 _ _ ?_)
          refine wp_cond_false rfl ?_
          refine wp_skip ?_
          refine hK15 _ _ ?_
          refine wp_seq_k (fun K18 hK18 => ?_)
          refine wp_seq_k (fun K19 hK19 => region_wl ?_)
          refine do_ rfl (.pointer (some ⟨n2, 0, none⟩)) (ex_field (q := ⟨n2, 0, none⟩) rfl (fa_50_0 _ _)) ?_
          simp only [pS, pN, pA, pC, pZ]
          refine do_ rfl (.int .i64 a.kind) (ex_load rfl (load1 (nagg_3 _) (St.cell S4 (i := 0) rfl rfl))) ?_
          simp only [pS, pN, pA, pC, pZ]
          by_cases hc45 : a.kind = (1 : Int)
          ·refine do_ rfl (.bool false) (ex_neq (m := a.kind) (n := (1 : Int)) (b := false) rfl rfl (bne_eq_false_iff_eq.2 (by omega))) ?_
           simp only [pS, pN, pA, pC, pZ]
           refine do_ rfl (.bool false) (ex_move _) ?_
           simp only [pS, pN, pA, pC, pZ]
           refine doN (wanted_no rfl rfl rfl (c := false) rfl (by decide)) ?_
           simp only [pS, pN, pA, pC, pZ]
           refine doN (wanted_no rfl rfl rfl (c := false) rfl (by decide)) ?_
           simp only [pS, pN, pA, pC, pZ]
           refine doN (wanted_no rfl rfl rfl (c := false) rfl (by decide)) ?_
           simp only [pS, pN, pA, pC, pZ]
           refine doN (wanted_no rfl rfl rfl (c := false) rfl (by decide)) ?_
           simp only [pS, pN, pA, pC, pZ]
           refine doN (wanted_un rfl rfl rfl rfl) ?_
           simp only [pS, pN, pA, pC, pZ]
           refine doN (wanted_un rfl rfl rfl rfl) ?_
           simp only [pS, pN, pA, pC, pZ]
           refine doN (wanted_un rfl rfl rfl rfl) ?_
           simp only [pS, pN, pA, pC, pZ]
           refine doN (wanted_un rfl rfl rfl rfl) ?_
           simp only [pS, pN, pA, pC, pZ]
           refine doN (wanted_no rfl rfl rfl (c := false) rfl (by decide)) ?_
           simp only [pS, pN, pA, pC, pZ]
           refine do_ rfl (.bool false) (ex_pick (b := false) rfl) ?_
           simp only [pS, pN, pA, pC, pZ]
           refine do_ rfl (.bool false) (ex_move _) ?_
           simp only [pS, pN, pA, pC, pZ]
           refine do_ rfl (.pointer (some ⟨n2, 0, none⟩)) (ex_field (q := ⟨n2, 0, none⟩) rfl (fa_50_0 _ _)) ?_
           simp only [pS, pN, pA, pC, pZ]
           refine do_ rfl (.int .i64 a.kind) (ex_load rfl (load1 (nagg_3 _) (St.cell S4 (i := 0) rfl rfl))) ?_
           simp only [pS, pN, pA, pC, pZ]
           by_cases hc60 : a.kind = (3 : Int)
           ·refine do_ rfl (.bool false) (ex_neq (m := a.kind) (n := (3 : Int)) (b := false) rfl rfl (bne_eq_false_iff_eq.2 (by omega))) ?_
            simp only [pS, pN, pA, pC, pZ]
            refine do_ rfl (.bool false) (ex_move _) ?_
            simp only [pS, pN, pA, pC, pZ]
            refine doN (wanted_no rfl rfl rfl (c := false) rfl (by decide)) ?_
            simp only [pS, pN, pA, pC, pZ]
            refine doN (wanted_no rfl rfl rfl (c := false) rfl (by decide)) ?_
            simp only [pS, pN, pA, pC, pZ]
            refine doN (wanted_no rfl rfl rfl (c := false) rfl (by decide)) ?_
            simp only [pS, pN, pA, pC, pZ]
            refine do_ rfl (.bool false) (ex_pick (b := false) rfl) ?_
            simp only [pS, pN, pA, pC, pZ]
            refine do_ rfl (.bool false) (ex_pick (b := false) rfl) ?_
            simp only [pS, pN, pA, pC, pZ]
            refine wl_nil (hK19 _ _ ?_)
            refine wp_cond_false rfl ?_
            refine wp_skip ?_
            refine hK18 _ _ ?_
            refine wp_seq_k (fun K20 hK20 => region_wl ?_)
            refine do_ rfl (.int .i64 0) (ex_assign _) ?_
            simp only [pS, pN, pA, pC, pZ]
            refine wl_nil (hK20 _ _ ?_)
            refine wp_ret ?_
            (try simp only [Exit.then, Exit.inBlock, ↓reduceIte, Nat.reduceEqDiff])
            refine bodyPost_ret (v := (.int .i64 0)) ?_ rfl ?_
            ·exact res_t rfl rfl
            ·have hfin : checkA a = (0 : Int) := by
              unfold checkA
              (repeat split) <;> first | rfl | omega
             rw [hfin]
             exact ⟨rfl, S4.gr.below⟩
           ·refine do_ rfl (.bool true) (ex_neq (m := a.kind) (n := (3 : Int)) (b := true) rfl rfl (bne_iff_ne.2 (by omega))) ?_
            simp only [pS, pN, pA, pC, pZ]
            refine do_ rfl (.bool true) (ex_move _) ?_
            simp only [pS, pN, pA, pC, pZ]
            refine do_ rfl (.pointer (some ⟨n2, 2, none⟩)) (ex_field (q := ⟨n2, 2, none⟩) rfl (fa_50_2 _ _)) ?_
            simp only [pS, pN, pA, pC, pZ]
            refine do_ rfl (.int .i64 a.n) (ex_load rfl (load1 (nagg_3 _) (St.cell S4 (i := 0) rfl rfl))) ?_
            simp only [pS, pN, pA, pC, pZ]
            by_cases hc64 : a.n = (0 : Int)
            ·refine do_ rfl (.bool false) (ex_neq (m := a.n) (n := (0 : Int)) (b := false) rfl rfl (bne_eq_false_iff_eq.2 (by omega))) ?_
             simp only [pS, pN, pA, pC, pZ]
             refine do_ rfl (.bool false) (ex_pick (b := true) rfl) ?_
             simp only [pS, pN, pA, pC, pZ]
             refine do_ rfl (.bool false) (ex_pick (b := false) rfl) ?_
             simp only [pS, pN, pA, pC, pZ]
             refine wl_nil (hK19 _ _ ?_)
             refine wp_cond_false rfl ?_
             refine wp_skip ?_
             refine hK18 _ _ ?_
             refine wp_seq_k (fun K21 hK21 => region_wl ?_)
             refine do_ rfl (.int .i64 0) (ex_assign _) ?_
             simp only [pS, pN, pA, pC, pZ]
             refine wl_nil (hK21 _ _ ?_)
             refine wp_ret ?_
             (try simp only [Exit.then, Exit.inBlock, ↓reduceIte, Nat.reduceEqDiff])
             refine bodyPost_ret (v := (.int .i64 0)) ?_ rfl ?_
             ·exact res_t rfl rfl
             ·have hfin : checkA a = (0 : Int) := by
               unfold checkA
               (repeat split) <;> first | rfl | omega
              rw [hfin]
              exact ⟨rfl, S4.gr.below⟩
            ·refine do_ rfl (.bool true) (ex_neq (m := a.n) (n := (0 : Int)) (b := true) rfl rfl (bne_iff_ne.2 (by omega))) ?_
             simp only [pS, pN, pA, pC, pZ]
             refine do_ rfl (.bool true) (ex_pick (b := true) rfl) ?_
             simp only [pS, pN, pA, pC, pZ]
             refine do_ rfl (.bool true) (ex_pick (b := false) rfl) ?_
             simp only [pS, pN, pA, pC, pZ]
             refine wl_nil (hK19 _ _ ?_)
             refine wp_cond_true rfl ?_
             refine wp_seq_k (fun K22 hK22 => region_wl ?_)
             refine do_ rfl (.int .i64 4) (ex_assign _) ?_
             simp only [pS, pN, pA, pC, pZ]
             refine wl_nil (hK22 _ _ ?_)
             refine wp_ret ?_
             (try simp only [Exit.then, Exit.inBlock, ↓reduceIte, Nat.reduceEqDiff])
             refine bodyPost_ret (v := (.int .i64 4)) ?_ rfl ?_
             ·exact res_t rfl rfl
             ·have hfin : checkA a = (4 : Int) := by
               unfold checkA
               (repeat split) <;> first | rfl | omega
              rw [hfin]
              exact ⟨rfl, S4.gr.below⟩
          ·refine do_ rfl (.bool true) (ex_neq (m := a.kind) (n := (1 : Int)) (b := true) rfl rfl (bne_iff_ne.2 (by omega))) ?_
           simp only [pS, pN, pA, pC, pZ]
           refine do_ rfl (.bool true) (ex_move _) ?_
           simp only [pS, pN, pA, pC, pZ]
           refine do_ rfl (.pointer (some ⟨n2, 1, none⟩)) (ex_field (q := ⟨n2, 1, none⟩) rfl (fa_50_1 _ _)) ?_
           simp only [pS, pN, pA, pC, pZ]
           refine do_ rfl (.int .i64 a.sess) (ex_load rfl (load1 (nagg_3 _) (St.cell S4 (i := 0) rfl rfl))) ?_
           simp only [pS, pN, pA, pC, pZ]
           by_cases hc49 : a.sess = (0 : Int)
           ·refine do_ rfl (.bool false) (ex_neq (m := a.sess) (n := (0 : Int)) (b := false) rfl rfl (bne_eq_false_iff_eq.2 (by omega))) ?_
            simp only [pS, pN, pA, pC, pZ]
            refine do_ rfl (.bool false) (ex_move _) ?_
            simp only [pS, pN, pA, pC, pZ]
            refine do_ rfl (.pointer (some ⟨n2, 3, none⟩)) (ex_field (q := ⟨n2, 3, none⟩) rfl (fa_50_3 _ _)) ?_
            simp only [pS, pN, pA, pC, pZ]
            refine do_ rfl (.slice x a.data.length y) (ex_load rfl (load1 (nagg_27 _) (St.cell S4 (i := 0) rfl rfl))) ?_
            simp only [pS, pN, pA, pC, pZ]
            refine do_ rfl (.int .i64 ((a.data.length : Nat) : Int)) (ex_len Tryd.underlying27 rfl) ?_
            simp only [pS, pN, pA, pC, pZ]
            by_cases hc54 : 0 < a.data.length
            ·refine do_ rfl (.bool true) (ex_gtr (m := ((a.data.length : Nat) : Int)) (n := (0 : Int)) (b := true) rfl rfl (decide_eq_true (by omega))) ?_
             simp only [pS, pN, pA, pC, pZ]
             refine do_ rfl (.bool true) (ex_pick (b := false) rfl) ?_
             simp only [pS, pN, pA, pC, pZ]
             refine do_ rfl (.bool true) (ex_pick (b := true) rfl) ?_
             simp only [pS, pN, pA, pC, pZ]
             refine do_ rfl (.bool true) (ex_move _) ?_
             simp only [pS, pN, pA, pC, pZ]
             refine doN (wanted_no rfl rfl rfl (c := true) rfl (by decide)) ?_
             simp only [pS, pN, pA, pC, pZ]
             refine doN (wanted_no rfl rfl rfl (c := true) rfl (by decide)) ?_
             simp only [pS, pN, pA, pC, pZ]
             refine doN (wanted_no rfl rfl rfl (c := true) rfl (by decide)) ?_
             simp only [pS, pN, pA, pC, pZ]
             refine doN (wanted_no rfl rfl rfl (c := true) rfl (by decide)) ?_
             simp only [pS, pN, pA, pC, pZ]
             refine doN (wanted_un rfl rfl rfl rfl) ?_
             simp only [pS, pN, pA, pC, pZ]
             refine doN (wanted_un rfl rfl rfl rfl) ?_
             simp only [pS, pN, pA, pC, pZ]
             refine doN (wanted_un rfl rfl rfl rfl) ?_
             simp only [pS, pN, pA, pC, pZ]
             refine doN (wanted_no rfl rfl rfl (c := true) rfl (by decide)) ?_
             simp only [pS, pN, pA, pC, pZ]
             refine do_ rfl (.bool true) (ex_pick (b := true) rfl) ?_
             simp only [pS, pN, pA, pC, pZ]
             refine wl_nil (hK19 _ _ ?_)
             refine wp_cond_true rfl ?_
             refine wp_seq_k (fun K23 hK23 => region_wl ?_)
             refine do_ rfl (.int .i64 4) (ex_assign _) ?_
             simp only [pS, pN, pA, pC, pZ]
             refine wl_nil (hK23 _ _ ?_)
             refine wp_ret ?_
             (try simp only [Exit.then, Exit.inBlock, ↓reduceIte, Nat.reduceEqDiff])
             refine bodyPost_ret (v := (.int .i64 4)) ?_ rfl ?_
             ·exact res_t rfl rfl
             ·have hfin : checkA a = (4 : Int) := by
               unfold checkA
               (repeat split) <;> first | rfl | omega
              rw [hfin]
              exact ⟨rfl, S4.gr.below⟩
            ·refine do_ rfl (.bool false) (ex_gtr (m := ((a.data.length : Nat) : Int)) (n := (0 : Int)) (b := false) rfl rfl (decide_eq_false (by omega))) ?_
             simp only [pS, pN, pA, pC, pZ]
             refine do_ rfl (.bool false) (ex_pick (b := false) rfl) ?_
             simp only [pS, pN, pA, pC, pZ]
             refine do_ rfl (.bool false) (ex_pick (b := true) rfl) ?_
             simp only [pS, pN, pA, pC, pZ]
             refine do_ rfl (.bool false) (ex_move _) ?_
             simp only [pS, pN, pA, pC, pZ]
             refine do_ rfl (.pointer (some ⟨n2, 0, none⟩)) (ex_field (q := ⟨n2, 0, none⟩) rfl (fa_50_0 _ _)) ?_
             simp only [pS, pN, pA, pC, pZ]
             refine do_ rfl (.int .i64 a.kind) (ex_load rfl (load1 (nagg_3 _) (St.cell S4 (i := 0) rfl rfl))) ?_
             simp only [pS, pN, pA, pC, pZ]
             by_cases hc60 : a.kind = (3 : Int)
             ·refine do_ rfl (.bool false) (ex_neq (m := a.kind) (n := (3 : Int)) (b := false) rfl rfl (bne_eq_false_iff_eq.2 (by omega))) ?_
              simp only [pS, pN, pA, pC, pZ]
              refine do_ rfl (.bool false) (ex_move _) ?_
              simp only [pS, pN, pA, pC, pZ]
              refine doN (wanted_no rfl rfl rfl (c := false) rfl (by decide)) ?_
              simp only [pS, pN, pA, pC, pZ]
              refine doN (wanted_no rfl rfl rfl (c := false) rfl (by decide)) ?_
              simp only [pS, pN, pA, pC, pZ]
              refine doN (wanted_no rfl rfl rfl (c := false) rfl (by decide)) ?_
              simp only [pS, pN, pA, pC, pZ]
              refine do_ rfl (.bool false) (ex_pick (b := false) rfl) ?_
              simp only [pS, pN, pA, pC, pZ]
              refine do_ rfl (.bool false) (ex_pick (b := false) rfl) ?_
              simp only [pS, pN, pA, pC, pZ]
              refine wl_nil (hK19 _ _ ?_)
              refine wp_cond_false rfl ?_
              refine wp_skip ?_
              refine hK18 _ _ ?_
              refine wp_seq_k (fun K24 hK24 => region_wl ?_)
              refine do_ rfl (.int .i64 0) (ex_assign _) ?_
              simp only [pS, pN, pA, pC, pZ]
              refine wl_nil (hK24 _ _ ?_)
              refine wp_ret ?_
              (try simp only [Exit.then, Exit.inBlock, ↓reduceIte, Nat.reduceEqDiff])
              refine bodyPost_ret (v := (.int .i64 0)) ?_ rfl ?_
              ·exact res_t rfl rfl
              ·have hfin : checkA a = (0 : Int) := by
                unfold checkA
                (repeat split) <;> first | rfl | omega
               rw [hfin]
               exact ⟨rfl, S4.gr.below⟩
             ·refine do_ rfl (.bool true) (ex_neq (m := a.kind) (n := (3 : Int)) (b := true) rfl rfl (bne_iff_ne.2 (by omega))) ?_
              simp only [pS, pN, pA, pC, pZ]
              refine do_ rfl (.bool true) (ex_move _) ?_
              simp only [pS, pN, pA, pC, pZ]
              refine do_ rfl (.pointer (some ⟨n2, 2, none⟩)) (ex_field (q := ⟨n2, 2, none⟩) rfl (fa_50_2 _ _)) ?_
              simp only [pS, pN, pA, pC, pZ]
              refine do_ rfl (.int .i64 a.n) (ex_load rfl (load1 (nagg_3 _) (St.cell S4 (i := 0) rfl rfl))) ?_
              simp only [pS, pN, pA, pC, pZ]
              by_cases hc64 : a.n = (0 : Int)
              ·refine do_ rfl (.bool false) (ex_neq (m := a.n) (n := (0 : Int)) (b := false) rfl rfl (bne_eq_false_iff_eq.2 (by omega))) ?_
               simp only [pS, pN, pA, pC, pZ]
               refine do_ rfl (.bool false) (ex_pick (b := true) rfl) ?_
               simp only [pS, pN, pA, pC, pZ]
               refine do_ rfl (.bool false) (ex_pick (b := false) rfl) ?_
               simp only [pS, pN, pA, pC, pZ]
               refine wl_nil (hK19 _ _ ?_)
               refine wp_cond_false rfl ?_
               refine wp_skip ?_
               refine hK18 _ _ ?_
               refine wp_seq_k (fun K25 hK25 => region_wl ?_)
               refine do_ rfl (.int .i64 0) (ex_assign _) ?_
               simp only [pS, pN, pA, pC, pZ]
               refine wl_nil (hK25 _ _ ?_)
               refine wp_ret ?_
               (try simp only [Exit.then, Exit.inBlock, ↓reduceIte, Nat.reduceEqDiff])
               refine bodyPost_ret (v := (.int .i64 0)) ?_ rfl ?_
               ·exact res_t rfl rfl
               ·have hfin : checkA a = (0 : Int) := by
                 unfold checkA
                 (repeat split) <;> first | rfl | omega
                rw [hfin]
                exact ⟨rfl, S4.gr.below⟩
              ·refine do_ rfl (.bool true) (ex_neq (m := a.n) (n := (0 : Int)) (b := true) rfl rfl (bne_iff_ne.2 (by omega))) ?_
               simp only [pS, pN, pA, pC, pZ]
               refine do_ rfl (.bool true) (ex_pick (b := true) rfl) ?_
               simp only [pS, pN, pA, pC, pZ]
               refine do_ rfl (.bool true) (ex_pick (b := false) rfl) ?_
               simp only [pS, pN, pA, pC, pZ]
               refine wl_nil (hK19 _ _ ?_)
               refine wp_cond_true rfl ?_
               refine wp_seq_k (fun K26 hK26 => region_wl ?_)
               refine do_ rfl (.int .i64 4) (ex_assign _) ?_
               simp only [pS, pN, pA, pC, pZ]
               refine wl_nil (hK26 _ _ ?_)
               refine wp_ret ?_
               (try simp only [Exit.then, Exit.inBlock, ↓reduceIte, Nat.reduceEqDiff])
               refine bodyPost_ret (v := (.int .i64 4)) ?_ rfl ?_
               ·exact res_t rfl rfl
               ·have hfin : checkA a = (4 : Int) := by
                 unfold checkA
                 (repeat split) <;> first | rfl | omega
                rw [hfin]
                exact ⟨rfl, S4.gr.below⟩
           ·refine do_ rfl (.bool true) (ex_neq (m := a.sess) (n := (0 : Int)) (b := true) rfl rfl (bne_iff_ne.2 (by omega))) ?_
            simp only [pS, pN, pA, pC, pZ]
            refine do_ rfl (.bool true) (ex_move _) ?_
            simp only [pS, pN, pA, pC, pZ]
            refine doN (wanted_no rfl rfl rfl (c := true) rfl (by decide)) ?_
            simp only [pS, pN, pA, pC, pZ]
            refine doN (wanted_no rfl rfl rfl (c := true) rfl (by decide)) ?_
            simp only [pS, pN, pA, pC, pZ]
            refine doN (wanted_no rfl rfl rfl (c := true) rfl (by decide)) ?_
            simp only [pS, pN, pA, pC, pZ]
            refine doN (wanted_no rfl rfl rfl (c := true) rfl (by decide)) ?_
            simp only [pS, pN, pA, pC, pZ]
            refine do_ rfl (.bool true) (ex_pick (b := true) rfl) ?_
            simp only [pS, pN, pA, pC, pZ]
            refine do_ rfl (.bool true) (ex_pick (b := true) rfl) ?_
            simp only [pS, pN, pA, pC, pZ]
            refine do_ rfl (.bool true) (ex_move _) ?_
            simp only [pS, pN, pA, pC, pZ]
            refine doN (wanted_no rfl rfl rfl (c := true) rfl (by decide)) ?_
            simp only [pS, pN, pA, pC, pZ]
            refine doN (wanted_no rfl rfl rfl (c := true) rfl (by decide)) ?_
            simp only [pS, pN, pA, pC, pZ]
            refine doN (wanted_no rfl rfl rfl (c := true) rfl (by decide)) ?_
            simp only [pS, pN, pA, pC, pZ]
            refine doN (wanted_no rfl rfl rfl (c := true) rfl (by decide)) ?_
            simp only [pS, pN, pA, pC, pZ]
            refine doN (wanted_un rfl rfl rfl rfl) ?_
            simp only [pS, pN, pA, pC, pZ]
            refine doN (wanted_un rfl rfl rfl rfl) ?_
            simp only [pS, pN, pA, pC, pZ]
            refine doN (wanted_un rfl rfl rfl rfl) ?_
            simp only [pS, pN, pA, pC, pZ]
            refine doN (wanted_no rfl rfl rfl (c := true) rfl (by decide)) ?_
            simp only [pS, pN, pA, pC, pZ]
            refine do_ rfl (.bool true) (ex_pick (b := true) rfl) ?_
            simp only [pS, pN, pA, pC, pZ]
            refine wl_nil (hK19 _ _ ?_)
            refine wp_cond_true rfl ?_
            refine wp_seq_k (fun K27 hK27 => region_wl ?_)
            refine do_ rfl (.int .i64 4) (ex_assign _) ?_
            simp only [pS, pN, pA, pC, pZ]
            refine wl_nil (hK27 _ _ ?_)
            refine wp_ret ?_
            (try simp only [Exit.then, Exit.inBlock, ↓reduceIte, Nat.reduceEqDiff])
            refine bodyPost_ret (v := (.int .i64 4)) ?_ rfl ?_
            ·exact res_t rfl rfl
            ·have hfin : checkA a = (4 : Int) := by
              unfold checkA
              (repeat split) <;> first | rfl | omega
             rw [hfin]
             exact ⟨rfl, S4.gr.below⟩
      ·refine do_ rfl (.bool false) (ex_eql (m := a.kind) (n := (3 : Int)) (b := false) rfl rfl (beq_eq_false_iff_ne.2 (by omega))) ?_
       simp only [pS, pN, pA, pC, pZ]
       refine do_ rfl (.bool false) (ex_move _) ?_
       simp only [pS, pN, pA, pC, pZ]
       refine doN (wanted_no rfl rfl rfl (c := false) rfl (by decide)) ?_
       simp only [pS, pN, pA, pC, pZ]
       refine doN (wanted_no rfl rfl rfl (c := false) rfl (by decide)) ?_
       simp only [pS, pN, pA, pC, pZ]
       refine doN (wanted_no rfl rfl rfl (c := false) rfl (by decide)) ?_
       simp only [pS, pN, pA, pC, pZ]
       refine doN (wanted_no rfl rfl rfl (c := false) rfl (by decide)) ?_
       simp only [pS, pN, pA, pC, pZ]
       refine doN (wanted_un rfl rfl rfl rfl) ?_
       simp only [pS, pN, pA, pC, pZ]
       refine doN (wanted_un rfl rfl rfl rfl) ?_
       simp only [pS, pN, pA, pC, pZ]
       refine doN (wanted_un rfl rfl rfl rfl) ?_
       simp only [pS, pN, pA, pC, pZ]
       refine doN (wanted_no rfl rfl rfl (c := false) rfl (by decide)) ?_
       simp only [pS, pN, pA, pC, pZ]
       refine do_ rfl (.bool false) (ex_pick (b := false) rfl) ?_
       simp only [pS, pN, pA, pC, pZ]
       refine do_ rfl (.bool false) (ex_pick (b := false) rfl) ?_
       simp only [pS, pN, pA, pC, pZ]
       refine wl_nil (hK10 _ _ ?_)
       refine wp_cond_false rfl ?_
       refine wp_skip ?_
       refine hK9 _ _ ?_
       refine wp_seq_k (fun K28 hK28 => ?_)
       refine wp_seq_k (fun K29 hK29 => region_wl ?_)
       refine do_ rfl (.pointer (some ⟨n2, 3, none⟩)) (ex_field (q := ⟨n2, 3, none⟩) rfl (fa_50_3 _ _)) ?_
       simp only [pS, pN, pA, pC, pZ]
       refine do_ rfl (.slice x a.data.length y) (ex_load rfl (load1 (nagg_27 _) (St.cell S4 (i := 0) rfl rfl))) ?_
       simp only [pS, pN, pA, pC, pZ]
       refine do_ rfl (.int .i64 ((a.data.length : Nat) : Int)) (ex_len Tryd.underlying27 rfl) ?_
       simp only [pS, pN, pA, pC, pZ]
       by_cases hc42 : 4000 < a.data.length
       ·refine do_ rfl (.bool true) (ex_gtr (m := ((a.data.length : Nat) : Int)) (n := (4000 : Int)) (b := true) rfl rfl (decide_eq_true (by omega))) ?_
        simp only [pS, pN, pA, pC, pZ]
        refine wl_nil (hK29 _ _ ?_)
        refine wp_cond_true rfl ?_
        refine wp_seq_k (fun K30 hK30 => region_wl ?_)
        refine do_ rfl (.int .i64 1) (ex_assign _) ?_
        simp only [pS, pN, pA, pC, pZ]
        refine wl_nil (hK30 _ _ ?_)
        refine wp_ret ?_
        (try simp only [Exit.then, Exit.inBlock, ↓reduceIte, Nat.reduceEqDiff])
        refine bodyPost_ret (v := (.int .i64 1)) ?_ rfl ?_
        ·exact res_t rfl rfl
        ·have hfin : checkA a = (1 : Int) := by
          unfold checkA
          (repeat split) <;> first | rfl | omega
         rw [hfin]
         exact ⟨rfl, S4.gr.below⟩
       ·refine do_ rfl (.bool false) (ex_gtr (m := ((a.data.length : Nat) : Int)) (n := (4000 : Int)) (b := false) rfl rfl (decide_eq_false (by omega))) ?_
        simp only [pS, pN, pA, pC, pZ]
        refine wl_nil (hK29 _ _ ?_)
        refine wp_cond_false rfl ?_
        refine wp_skip ?_
        refine hK28 _ _ ?_
        refine wp_seq_k (fun K31 hK31 => ?_)
        refine wp_seq_k (fun K32 hK32 => region_wl ?_)
        refine do_ rfl (.pointer (some ⟨n2, 0, none⟩)) (ex_field (q := ⟨n2, 0, none⟩) rfl (fa_50_0 _ _)) ?_
        simp only [pS, pN, pA, pC, pZ]
        refine do_ rfl (.int .i64 a.kind) (ex_load rfl (load1 (nagg_3 _) (St.cell S4 (i := 0) rfl rfl))) ?_
        simp only [pS, pN, pA, pC, pZ]
        by_cases hc45 : a.kind = (1 : Int)
        ·refine do_ rfl (.bool false) (ex_neq (m := a.kind) (n := (1 : Int)) (b := false) rfl rfl (bne_eq_false_iff_eq.2 (by omega))) ?_
         simp only [pS, pN, pA, pC, pZ]
         refine do_ rfl (.bool false) (ex_move _) ?_
         simp only [pS, pN, pA, pC, pZ]
         refine doN (wanted_no rfl rfl rfl (c := false) rfl (by decide)) ?_
         simp only [pS, pN, pA, pC, pZ]
         refine doN (wanted_no rfl rfl rfl (c := false) rfl (by decide)) ?_
         simp only [pS, pN, pA, pC, pZ]
         refine doN (wanted_no rfl rfl rfl (c := false) rfl (by decide)) ?_
         simp only [pS, pN, pA, pC, pZ]
         refine doN (wanted_no rfl rfl rfl (c := false) rfl (by decide)) ?_
         simp only [pS, pN, pA, pC, pZ]
         refine doN (wanted_un rfl rfl rfl rfl) ?_
         simp only [pS, pN, pA, pC, pZ]
         refine doN (wanted_un rfl rfl rfl rfl) ?_
         simp only [pS, pN, pA, pC, pZ]
         refine doN (wanted_un rfl rfl rfl rfl) ?_
         simp only [pS, pN, pA, pC, pZ]
         refine doN (wanted_un rfl rfl rfl rfl) ?_
         simp only [pS, pN, pA, pC, pZ]
         refine doN (wanted_no rfl rfl rfl (c := false) rfl (by decide)) ?_
         simp only [pS, pN, pA, pC, pZ]
         refine do_ rfl (.bool false) (ex_pick (b := false) rfl) ?_
         simp only [pS, pN, pA, pC, pZ]
         refine do_ rfl (.bool false) (ex_move _) ?_
         simp only [pS, pN, pA, pC, pZ]
         refine do_ rfl (.pointer (some ⟨n2, 0, none⟩)) (ex_field (q := ⟨n2, 0, none⟩) rfl (fa_50_0 _ _)) ?_
         simp only [pS, pN, pA, pC, pZ]
         refine do_ rfl (.int .i64 a.kind) (ex_load rfl (load1 (nagg_3 _) (St.cell S4 (i := 0) rfl rfl))) ?_
         simp only [pS, pN, pA, pC, pZ]
         by_cases hc60 : a.kind = (3 : Int)
         ·refine do_ rfl (.bool false) (ex_neq (m := a.kind) (n := (3 : Int)) (b := false) rfl rfl (bne_eq_false_iff_eq.2 (by omega))) ?_
          simp only [pS, pN, pA, pC, pZ]
          refine do_ rfl (.bool false) (ex_move _) ?_
          simp only [pS, pN, pA, pC, pZ]
          refine doN (wanted_no rfl rfl rfl (c := false) rfl (by decide)) ?_
          simp only [pS, pN, pA, pC, pZ]
          refine doN (wanted_no rfl rfl rfl (c := false) rfl (by decide)) ?_
          simp only [pS, pN, pA, pC, pZ]
          refine doN (wanted_no rfl rfl rfl (c := false) rfl (by decide)) ?_
          simp only [pS, pN, pA, pC, pZ]
          refine do_ rfl (.bool false) (ex_pick (b := false) rfl) ?_
          simp only [pS, pN, pA, pC, pZ]
          refine do_ rfl (.bool false) (ex_pick (b := false) rfl) ?_
          simp only [pS, pN, pA, pC, pZ]
          refine wl_nil (hK32 _ _ ?_)
          refine wp_cond_false rfl ?_
          refine wp_skip ?_
          refine hK31 _ _ ?_
          refine wp_seq_k (fun K33 hK33 => region_wl ?_)
          refine do_ rfl (.int .i64 0) (ex_assign _) ?_
          simp only [pS, pN, pA, pC, pZ]
          refine wl_nil (hK33 _ _ ?_)
          refine wp_ret ?_
          (try simp only [Exit.then, Exit.inBlock, ↓reduceIte, Nat.reduceEqDiff])
          refine bodyPost_ret (v := (.int .i64 0)) ?_ rfl ?_
          ·exact res_t rfl rfl
          ·have hfin : checkA a = (0 : Int) := by
            unfold checkA
            (repeat split) <;> first | rfl | omega
           rw [hfin]
           exact ⟨rfl, S4.gr.below⟩
         ·refine do_ rfl (.bool true) (ex_neq (m := a.kind) (n := (3 : Int)) (b := true) rfl rfl (bne_iff_ne.2 (by omega))) ?_
          simp only [pS, pN, pA, pC, pZ]
          refine do_ rfl (.bool true) (ex_move _) ?_
          simp only [pS, pN, pA, pC, pZ]
          refine do_ rfl (.pointer (some ⟨n2, 2, none⟩)) (ex_field (q := ⟨n2, 2, none⟩) rfl (fa_50_2 _ _)) ?_
          simp only [pS, pN, pA, pC, pZ]
          refine do_ rfl (.int .i64 a.n) (ex_load rfl (load1 (nagg_3 _) (St.cell S4 (i := 0) rfl rfl))) ?_
          simp only [pS, pN, pA, pC, pZ]
          by_cases hc64 : a.n = (0 : Int)
          ·refine do_ rfl (.bool false) (ex_neq (m := a.n) (n := (0 : Int)) (b := false) rfl rfl (bne_eq_false_iff_eq.2 (by omega))) ?_
           simp only [pS, pN, pA, pC, pZ]
           refine do_ rfl (.bool false) (ex_pick (b := true) rfl) ?_
           simp only [pS, pN, pA, pC, pZ]
           refine do_ rfl (.bool false) (ex_pick (b := false) rfl) ?_
           simp only [pS, pN, pA, pC, pZ]
           refine wl_nil (hK32 _ _ ?_)
           refine wp_cond_false rfl ?_
           refine wp_skip ?_
           refine hK31 _ _ ?_
           refine wp_seq_k (fun K34 hK34 => region_wl ?_)
           refine do_ rfl (.int .i64 0) (ex_assign _) ?_
           simp only [pS, pN, pA, pC, pZ]
           refine wl_nil (hK34 _ _ ?_)
           refine wp_ret ?_
           (try simp only [Exit.then, Exit.inBlock, ↓reduceIte, Nat.reduceEqDiff])
           refine bodyPost_ret (v := (.int .i64 0)) ?_ rfl ?_
           ·exact res_t rfl rfl
           ·have hfin : checkA a = (0 : Int) := by
             unfold checkA
             (repeat split) <;> first | rfl | omega
            rw [hfin]
            exact ⟨rfl, S4.gr.below⟩
          ·refine do_ rfl (.bool true) (ex_neq (m := a.n) (n := (0 : Int)) (b := true) rfl rfl (bne_iff_ne.2 (by omega))) ?_
           simp only [pS, pN, pA, pC, pZ]
           refine do_ rfl (.bool true) (ex_pick (b := true) rfl) ?_
           simp only [pS, pN, pA, pC, pZ]
           refine do_ rfl (.bool true) (ex_pick (b := false) rfl) ?_
           simp only [pS, pN, pA, pC, pZ]
           refine wl_nil (hK32 _ _ ?_)
           refine wp_cond_true rfl ?_
           refine wp_seq_k (fun K35 hK35 => region_wl ?_)
           refine do_ rfl (.int .i64 4) (ex_assign _) ?_
           simp only [pS, pN, pA, pC, pZ]
           refine wl_nil (hK35 _ _ ?_)
           refine wp_ret ?_
           (try simp only [Exit.then, Exit.inBlock, ↓reduceIte, Nat.reduceEqDiff])
           refine bodyPost_ret (v := (.int .i64 4)) ?_ rfl ?_
           ·exact res_t rfl rfl
           ·have hfin : checkA a = (4 : Int) := by
             unfold checkA
             (repeat split) <;> first | rfl | omega
            rw [hfin]
            exact ⟨rfl, S4.gr.below⟩
        ·refine do_ rfl (.bool true) (ex_neq (m := a.kind) (n := (1 : Int)) (b := true) rfl rfl (bne_iff_ne.2 (by omega))) ?_
         simp only [pS, pN, pA, pC, pZ]
         refine do_ rfl (.bool true) (ex_move _) ?_
         simp only [pS, pN, pA, pC, pZ]
         refine do_ rfl (.pointer (some ⟨n2, 1, none⟩)) (ex_field (q := ⟨n2, 1, none⟩) rfl (fa_50_1 _ _)) ?_
         simp only [pS, pN, pA, pC, pZ]
         refine do_ rfl (.int .i64 a.sess) (ex_load rfl (load1 (nagg_3 _) (St.cell S4 (i := 0) rfl rfl))) ?_
         simp only [pS, pN, pA, pC, pZ]
         by_cases hc49 : a.sess = (0 : Int)
         ·refine do_ rfl (.bool false) (ex_neq (m := a.sess) (n := (0 : Int)) (b := false) rfl rfl (bne_eq_false_iff_eq.2 (by omega))) ?_
          simp only [pS, pN, pA, pC, pZ]
          refine do_ rfl (.bool false) (ex_move _) ?_
          simp only [pS, pN, pA, pC, pZ]
          refine do_ rfl (.pointer (some ⟨n2, 3, none⟩)) (ex_field (q := ⟨n2, 3, none⟩) rfl (fa_50_3 _ _)) ?_
          simp only [pS, pN, pA, pC, pZ]
          refine do_ rfl (.slice x a.data.length y) (ex_load rfl (load1 (nagg_27 _) (St.cell S4 (i := 0) rfl rfl))) ?_
          simp only [pS, pN, pA, pC, pZ]
          refine do_ rfl (.int .i64 ((a.data.length : Nat) : Int)) (ex_len Tryd.underlying27 rfl) ?_
          simp only [pS, pN, pA, pC, pZ]
          by_cases hc54 : 0 < a.data.length
          ·refine do_ rfl (.bool true) (ex_gtr (m := ((a.data.length : Nat) : Int)) (n := (0 : Int)) (b := true) rfl rfl (decide_eq_true (by omega))) ?_
           simp only [pS, pN, pA, pC, pZ]
           refine do_ rfl (.bool true) (ex_pick (b := false) rfl) ?_
           simp only [pS, pN, pA, pC, pZ]
           refine do_ rfl (.bool true) (ex_pick (b := true) rfl) ?_
           simp only [pS, pN, pA, pC, pZ]
           refine do_ rfl (.bool true) (ex_move _) ?_
           simp only [pS, pN, pA, pC, pZ]
           refine doN (wanted_no rfl rfl rfl (c := true) rfl (by decide)) ?_
           simp only [pS, pN, pA, pC, pZ]
           refine doN (wanted_no rfl rfl rfl (c := true) rfl (by decide)) ?_
           simp only [pS, pN, pA, pC, pZ]
           refine doN (wanted_no rfl rfl rfl (c := true) rfl (by decide)) ?_
           simp only [pS, pN, pA, pC, pZ]
           refine doN (wanted_no rfl rfl rfl (c := true) rfl (by decide)) ?_
           simp only [pS, pN, pA, pC, pZ]
           refine doN (wanted_un rfl rfl rfl rfl) ?_
           simp only [pS, pN, pA, pC, pZ]
           refine doN (wanted_un rfl rfl rfl rfl) ?_
           simp only [pS, pN, pA, pC, pZ]
           refine doN (wanted_un rfl rfl rfl rfl) ?_
           simp only [pS, pN, pA, pC, pZ]
           refine doN (wanted_no rfl rfl rfl (c := true) rfl (by decide)) ?_
           simp only [pS, pN, pA, pC, pZ]
           refine do_ rfl (.bool true) (ex_pick (b := true) rfl) ?_
           simp only [pS, pN, pA, pC, pZ]
           refine wl_nil (hK32 _ _ ?_)
           refine wp_cond_true rfl ?_
           refine wp_seq_k (fun K36 hK36 => region_wl ?_)
           refine do_ rfl (.int .i64 4) (ex_assign _) ?_
           simp only [pS, pN, pA, pC, pZ]
           refine wl_nil (hK36 _ _ ?_)
           refine wp_ret ?_
           (try simp only [Exit.then, Exit.inBlock, ↓reduceIte, Nat.reduceEqDiff])
           refine bodyPost_ret (v := (.int .i64 4)) ?_ rfl ?_
           ·exact res_t rfl rfl
           ·have hfin : checkA a = (4 : Int) := by
             unfold checkA
             (repeat split) <;> first | rfl | omega
            rw [hfin]
            exact ⟨rfl, S4.gr.below⟩
          ·refine do_ rfl (.bool false) (ex_gtr (m := ((a.data.length : Nat) : Int)) (n := (0 : Int)) (b := false) rfl rfl (decide_eq_false (by omega))) ?_
           simp only [pS, pN, pA, pC, pZ]
           refine do_ rfl (.bool false) (ex_pick (b := false) rfl) ?_
           simp only [pS, pN, pA, pC, pZ]
           refine do_ rfl (.bool false) (ex_pick (b := true) rfl) ?_
           simp only [pS, pN, pA, pC, pZ]
           refine do_ rfl (.bool false) (ex_move _) ?_
           simp only [pS, pN, pA, pC, pZ]
           refine do_ rfl (.pointer (some ⟨n2, 0, none⟩)) (ex_field (q := ⟨n2, 0, none⟩) rfl (fa_50_0 _ _)) ?_
           simp only [pS, pN, pA, pC, pZ]
           refine do_ rfl (.int .i64 a.kind) (ex_load rfl (load1 (nagg_3 _) (St.cell S4 (i := 0) rfl rfl))) ?_
           simp only [pS, pN, pA, pC, pZ]
           by_cases hc60 : a.kind = (3 : Int)
           ·refine do_ rfl (.bool false) (ex_neq (m := a.kind) (n := (3 : Int)) (b := false) rfl rfl (bne_eq_false_iff_eq.2 (by omega))) ?_
            simp only [pS, pN, pA, pC, pZ]
            refine do_ rfl (.bool false) (ex_move _) ?_
            simp only [pS, pN, pA, pC, pZ]
            refine doN (wanted_no rfl rfl rfl (c := false) rfl (by decide)) ?_
            simp only [pS, pN, pA, pC, pZ]
            refine doN (wanted_no rfl rfl rfl (c := false) rfl (by decide)) ?_
            simp only [pS, pN, pA, pC, pZ]
            refine doN (wanted_no rfl rfl rfl (c := false) rfl (by decide)) ?_
            simp only [pS, pN, pA, pC, pZ]
            refine do_ rfl (.bool false) (ex_pick (b := false) rfl) ?_
            simp only [pS, pN, pA, pC, pZ]
            refine do_ rfl (.bool false) (ex_pick (b := false) rfl) ?_
            simp only [pS, pN, pA, pC, pZ]
            refine wl_nil (hK32 _ _ ?_)
            refine wp_cond_false rfl ?_
            refine wp_skip ?_
            refine hK31 _ _ ?_
            refine wp_seq_k (fun K37 hK37 => region_wl ?_)
            refine do_ rfl (.int .i64 0) (ex_assign _) ?_
            simp only [pS, pN, pA, pC, pZ]
            refine wl_nil (hK37 _ _ ?_)
            refine wp_ret ?_
            (try simp only [Exit.then, Exit.inBlock, ↓reduceIte, Nat.reduceEqDiff])
            refine bodyPost_ret (v := (.int .i64 0)) ?_ rfl ?_
            ·exact res_t rfl rfl
            ·have hfin : checkA a = (0 : Int) := by
              unfold checkA
              (repeat split) <;> first | rfl | omega
             rw [hfin]
             exact ⟨rfl, S4.gr.below⟩
           ·refine do_ rfl (.bool true) (ex_neq (m := a.kind) (n := (3 : Int)) (b := true) rfl rfl (bne_iff_ne.2 (by omega))) ?_
            simp only [pS, pN, pA, pC, pZ]
            refine do_ rfl (.bool true) (ex_move _) ?_
            simp only [pS, pN, pA, pC, pZ]
            refine do_ rfl (.pointer (some ⟨n2, 2, none⟩)) (ex_field (q := ⟨n2, 2, none⟩) rfl (fa_50_2 _ _)) ?_
            simp only [pS, pN, pA, pC, pZ]
            refine do_ rfl (.int .i64 a.n) (ex_load rfl (load1 (nagg_3 _) (St.cell S4 (i := 0) rfl rfl))) ?_
            simp only [pS, pN, pA, pC, pZ]
            by_cases hc64 : a.n = (0 : Int)
            ·refine do_ rfl (.bool false) (ex_neq (m := a.n) (n := (0 : Int)) (b := false) rfl rfl (bne_eq_false_iff_eq.2 (by omega))) ?_
             simp only [pS, pN, pA, pC, pZ]
             refine do_ rfl (.bool false) (ex_pick (b := true) rfl) ?_
             simp only [pS, pN, pA, pC, pZ]
             refine do_ rfl (.bool false) (ex_pick (b := false) rfl) ?_
             simp only [pS, pN, pA, pC, pZ]
             refine wl_nil (hK32 _ _ ?_)
             refine wp_cond_false rfl ?_
             refine wp_skip ?_
             refine hK31 _ _ ?_
             refine wp_seq_k (fun K38 hK38 => region_wl ?_)
             refine do_ rfl (.int .i64 0) (ex_assign _) ?_
             simp only [pS, pN, pA, pC, pZ]
             refine wl_nil (hK38 _ _ ?_)
             refine wp_ret ?_
             (try simp only [Exit.then, Exit.inBlock, ↓reduceIte, Nat.reduceEqDiff])
             refine bodyPost_ret (v := (.int .i64 0)) ?_ rfl ?_
             ·exact res_t rfl rfl
             ·have hfin : checkA a = (0 : Int) := by
               unfold checkA
               (repeat split) <;> first | rfl | omega
              rw [hfin]
              exact ⟨rfl, S4.gr.below⟩
            ·refine do_ rfl (.bool true) (ex_neq (m := a.n) (n := (0 : Int)) (b := true) rfl rfl (bne_iff_ne.2 (by omega))) ?_
             simp only [pS, pN, pA, pC, pZ]
             refine do_ rfl (.bool true) (ex_pick (b := true) rfl) ?_
             simp only [pS, pN, pA, pC, pZ]
             refine do_ rfl (.bool true) (ex_pick (b := false) rfl) ?_
             simp only [pS, pN, pA, pC, pZ]
             refine wl_nil (hK32 _ _ ?_)
             refine wp_cond_true rfl ?_
             refine wp_seq_k (fun K39 hK39 => region_wl ?_)
             refine do_ rfl (.int .i64 4) (ex_assign _) ?_
             simp only [pS, pN, pA, pC, pZ]
             refine wl_nil (hK39 _ _ ?_)
             refine wp_ret ?_
             (try simp only [Exit.then, Exit.inBlock, ↓reduceIte, Nat.reduceEqDiff])
             refine bodyPost_ret (v := (.int .i64 4)) ?_ rfl ?_
             ·exact res_t rfl rfl
             ·have hfin : checkA a = (4 : Int) := by
               unfold checkA
               (repeat split) <;> first | rfl | omega
              rw [hfin]
              exact ⟨rfl, S4.gr.below⟩
         ·refine do_ rfl (.bool true) (ex_neq (m := a.sess) (n := (0 : Int)) (b := true) rfl rfl (bne_iff_ne.2 (by omega))) ?_
          simp only [pS, pN, pA, pC, pZ]
          refine do_ rfl (.bool true) (ex_move _) ?_
          simp only [pS, pN, pA, pC, pZ]
          refine doN (wanted_no rfl rfl rfl (c := true) rfl (by decide)) ?_
          simp only [pS, pN, pA, pC, pZ]
          refine doN (wanted_no rfl rfl rfl (c := true) rfl (by decide)) ?_
          simp only [pS, pN, pA, pC, pZ]
          refine doN (wanted_no rfl rfl rfl (c := true) rfl (by decide)) ?_
          simp only [pS, pN, pA, pC, pZ]
          refine doN (wanted_no rfl rfl rfl (c := true) rfl (by decide)) ?_
          simp only [pS, pN, pA, pC, pZ]
          refine do_ rfl (.bool true) (ex_pick (b := true) rfl) ?_
          simp only [pS, pN, pA, pC, pZ]
          refine do_ rfl (.bool true) (ex_pick (b := true) rfl) ?_
          simp only [pS, pN, pA, pC, pZ]
          refine do_ rfl (.bool true) (ex_move _) ?_
          simp only [pS, pN, pA, pC, pZ]
          refine doN (wanted_no rfl rfl rfl (c := true) rfl (by decide)) ?_
          simp only [pS, pN, pA, pC, pZ]
          refine doN (wanted_no rfl rfl rfl (c := true) rfl (by decide)) ?_
          simp only [pS, pN, pA, pC, pZ]
          refine doN (wanted_no rfl rfl rfl (c := true) rfl (by decide)) ?_
          simp only [pS, pN, pA, pC, pZ]
          refine doN (wanted_no rfl rfl rfl (c := true) rfl (by decide)) ?_
          simp only [pS, pN, pA, pC, pZ]
          refine doN (wanted_un rfl rfl rfl rfl) ?_
          simp only [pS, pN, pA, pC, pZ]
          refine doN (wanted_un rfl rfl rfl rfl) ?_
          simp only [pS, pN, pA, pC, pZ]
          refine doN (wanted_un rfl rfl rfl rfl) ?_
          simp only [pS, pN, pA, pC, pZ]
          refine doN (wanted_no rfl rfl rfl (c := true) rfl (by decide)) ?_
          simp only [pS, pN, pA, pC, pZ]
          refine do_ rfl (.bool true) (ex_pick (b := true) rfl) ?_
          simp only [pS, pN, pA, pC, pZ]
          refine wl_nil (hK32 _ _ ?_)
          refine wp_cond_true rfl ?_
          refine wp_seq_k (fun K40 hK40 => region_wl ?_)
          refine do_ rfl (.int .i64 4) (ex_assign _) ?_
          simp only [pS, pN, pA, pC, pZ]
          refine wl_nil (hK40 _ _ ?_)
          refine wp_ret ?_
          (try simp only [Exit.then, Exit.inBlock, ↓reduceIte, Nat.reduceEqDiff])
          refine bodyPost_ret (v := (.int .i64 4)) ?_ rfl ?_
          ·exact res_t rfl rfl
          ·have hfin : checkA a = (4 : Int) := by
            unfold checkA
            (repeat split) <;> first | rfl | omega
           rw [hfin]
           exact ⟨rfl, S4.gr.below⟩
   ·refine do_ rfl (.bool false) (ex_eql (m := a.kind) (n := (1 : Int)) (b := false) rfl rfl (beq_eq_false_iff_ne.2 (by omega))) ?_
    simp only [pS, pN, pA, pC, pZ]
    refine do_ rfl (.bool false) (ex_move _) ?_
    simp only [pS, pN, pA, pC, pZ]
    refine doN (wanted_no rfl rfl rfl (c := false) rfl (by decide)) ?_
    simp only [pS, pN, pA, pC, pZ]
    refine doN (wanted_no rfl rfl rfl (c := false) rfl (by decide)) ?_
    simp only [pS, pN, pA, pC, pZ]
    refine doN (wanted_no rfl rfl rfl (c := false) rfl (by decide)) ?_
    simp only [pS, pN, pA, pC, pZ]
    refine doN (wanted_no rfl rfl rfl (c := false) rfl (by decide)) ?_
    simp only [pS, pN, pA, pC, pZ]
    refine doN (wanted_un rfl rfl rfl rfl) ?_
    simp only [pS, pN, pA, pC, pZ]
    refine doN (wanted_un rfl rfl rfl rfl) ?_
    simp only [pS, pN, pA, pC, pZ]
    refine doN (wanted_un rfl rfl rfl rfl) ?_
    simp only [pS, pN, pA, pC, pZ]
    refine doN (wanted_no rfl rfl rfl (c := false) rfl (by decide)) ?_
    simp only [pS, pN, pA, pC, pZ]
    refine do_ rfl (.bool false) (ex_pick (b := false) rfl) ?_
    simp only [pS, pN, pA, pC, pZ]
    refine do_ rfl (.bool false) (ex_move _) ?_
    simp only [pS, pN, pA, pC, pZ]
    refine do_ rfl (.pointer (some ⟨n2, 0, none⟩)) (ex_field (q := ⟨n2, 0, none⟩) rfl (fa_50_0 _ _)) ?_
    simp only [pS, pN, pA, pC, pZ]
    refine do_ rfl (.int .i64 a.kind) (ex_load rfl (load1 (nagg_3 _) (St.cell S4 (i := 0) rfl rfl))) ?_
    simp only [pS, pN, pA, pC, pZ]
    by_cases hc27 : a.kind = (3 : Int)
    ·refine do_ rfl (.bool true) (ex_eql (m := a.kind) (n := (3 : Int)) (b := true) rfl rfl (beq_iff_eq.2 (by omega))) ?_
     simp only [pS, pN, pA, pC, pZ]
     refine do_ rfl (.bool true) (ex_move _) ?_
     simp only [pS, pN, pA, pC, pZ]
     refine do_ rfl (.pointer (some ⟨n2, 2, none⟩)) (ex_field (q := ⟨n2, 2, none⟩) rfl (fa_50_2 _ _)) ?_
     simp only [pS, pN, pA, pC, pZ]
     refine do_ rfl (.int .i64 a.n) (ex_load rfl (load1 (nagg_3 _) (St.cell S4 (i := 0) rfl rfl))) ?_
     simp only [pS, pN, pA, pC, pZ]
     by_cases hc31 : a.n < (0 : Int)
     ·refine do_ rfl (.bool true) (ex_lss (m := a.n) (n := (0 : Int)) (b := true) rfl rfl (decide_eq_true (by omega))) ?_
      simp only [pS, pN, pA, pC, pZ]
      refine do_ rfl (.bool true) (ex_move _) ?_
      simp only [pS, pN, pA, pC, pZ]
      refine doN (wanted_no rfl rfl rfl (c := true) rfl (by decide)) ?_
      simp only [pS, pN, pA, pC, pZ]
      refine doN (wanted_no rfl rfl rfl (c := true) rfl (by decide)) ?_
      simp only [pS, pN, pA, pC, pZ]
      refine doN (wanted_no rfl rfl rfl (c := true) rfl (by decide)) ?_
      simp only [pS, pN, pA, pC, pZ]
      refine do_ rfl (.bool true) (ex_pick (b := true) rfl) ?_
      simp only [pS, pN, pA, pC, pZ]
      refine do_ rfl (.bool true) (ex_pick (b := true) rfl) ?_
      simp only [pS, pN, pA, pC, pZ]
      refine do_ rfl (.bool true) (ex_pick (b := false) rfl) ?_
      simp only [pS, pN, pA, pC, pZ]
      refine wl_nil (hK10 _ _ ?_)
      refine wp_cond_true rfl ?_
      refine wp_seq_k (fun K41 hK41 => region_wl ?_)
      refine do_ rfl (.int .i64 2) (ex_assign _) ?_
      simp only [pS, pN, pA, pC, pZ]
      refine wl_nil (hK41 _ _ ?_)
      refine wp_ret ?_
      (try simp only [Exit.then, Exit.inBlock, ↓reduceIte, Nat.reduceEqDiff])
      refine bodyPost_ret (v := (.int .i64 2)) ?_ rfl ?_
      ·exact res_t rfl rfl
      ·have hfin : checkA a = (2 : Int) := by
        unfold checkA
        (repeat split) <;> first | rfl | omega
       rw [hfin]
       exact ⟨rfl, S4.gr.below⟩
     ·refine do_ rfl (.bool false) (ex_lss (m := a.n) (n := (0 : Int)) (b := false) rfl rfl (decide_eq_false (by omega))) ?_
      simp only [pS, pN, pA, pC, pZ]
      refine do_ rfl (.bool false) (ex_move _) ?_
      simp only [pS, pN, pA, pC, pZ]
      refine do_ rfl (.pointer (some ⟨n2, 2, none⟩)) (ex_field (q := ⟨n2, 2, none⟩) rfl (fa_50_2 _ _)) ?_
      simp only [pS, pN, pA, pC, pZ]
      refine do_ rfl (.int .i64 a.n) (ex_load rfl (load1 (nagg_3 _) (St.cell S4 (i := 0) rfl rfl))) ?_
      simp only [pS, pN, pA, pC, pZ]
      by_cases hc35 : (200000 : Int) < a.n
      ·refine do_ rfl (.bool true) (ex_gtr (m := a.n) (n := (200000 : Int)) (b := true) rfl rfl (decide_eq_true (by omega))) ?_
       simp only [pS, pN, pA, pC, pZ]
       refine do_ rfl (.bool true) (ex_pick (b := false) rfl) ?_
       simp only [pS, pN, pA, pC, pZ]
       refine do_ rfl (.bool true) (ex_pick (b := true) rfl) ?_
       simp only [pS, pN, pA, pC, pZ]
       refine do_ rfl (.bool true) (ex_pick (b := false) rfl) ?_
       simp only [pS, pN, pA, pC, pZ]
       refine wl_nil (hK10 _ _ ?_)
       refine wp_cond_true rfl ?_
       refine wp_seq_k (fun K42 hK42 => region_wl ?_)
       refine do_ rfl (.int .i64 2) (ex_assign _) ?_
       simp only [pS, pN, pA, pC, pZ]
       refine wl_nil (hK42 _ _ ?_)
       refine wp_ret ?_
       (try simp only [Exit.then, Exit.inBlock, ↓reduceIte, Nat.reduceEqDiff])
       refine bodyPost_ret (v := (.int .i64 2)) ?_ rfl ?_
       ·exact res_t rfl rfl
       ·have hfin : checkA a = (2 : Int) := by
         unfold checkA
         (repeat split) <;> first | rfl | omega
        rw [hfin]
        exact ⟨rfl, S4.gr.below⟩
      ·refine do_ rfl (.bool false) (ex_gtr (m := a.n) (n := (200000 : Int)) (b := false) rfl rfl (decide_eq_false (by omega))) ?_
       simp only [pS, pN, pA, pC, pZ]
       refine do_ rfl (.bool false) (ex_pick (b := false) rfl) ?_
       simp only [pS, pN, pA, pC, pZ]
       refine do_ rfl (.bool false) (ex_pick (b := true) rfl) ?_
       simp only [pS, pN, pA, pC, pZ]
       refine do_ rfl (.bool false) (ex_pick (b := false) rfl) ?_
       simp only [pS, pN, pA, pC, pZ]
       refine wl_nil (hK10 _ _ ?_)
       refine wp_cond_false rfl ?_
       refine wp_skip ?_
       refine hK9 _ _ ?_
       refine wp_seq_k (fun K43 hK43 => ?_)
       refine wp_seq_k (fun K44 hK44 => region_wl ?_)
       refine do_ rfl (.pointer (some ⟨n2, 3, none⟩)) (ex_field (q := ⟨n2, 3, none⟩) rfl (fa_50_3 _ _)) ?_
       simp only [pS, pN, pA, pC, pZ]
       refine do_ rfl (.slice x a.data.length y) (ex_load rfl (load1 (nagg_27 _) (St.cell S4 (i := 0) rfl rfl))) ?_
       simp only [pS, pN, pA, pC, pZ]
       refine do_ rfl (.int .i64 ((a.data.length : Nat) : Int)) (ex_len Tryd.underlying27 rfl) ?_
       simp only [pS, pN, pA, pC, pZ]
       by_cases hc42 : 4000 < a.data.length
       ·refine do_ rfl (.bool true) (ex_gtr (m := ((a.data.length : Nat) : Int)) (n := (4000 : Int)) (b := true) rfl rfl (decide_eq_true (by omega))) ?_
        simp only [pS, pN, pA, pC, pZ]
        refine wl_nil (hK44 _ _ ?_)
        refine wp_cond_true rfl ?_
        refine wp_seq_k (fun K45 hK45 => region_wl ?_)
        refine do_ rfl (.int .i64 1) (ex_assign _) ?_
        simp only [pS, pN, pA, pC, pZ]
        refine wl_nil (hK45 _ _ ?_)
        refine wp_ret ?_
        (try simp only [Exit.then, Exit.inBlock, ↓reduceIte, Nat.reduceEqDiff])
        refine bodyPost_ret (v := (.int .i64 1)) ?_ rfl ?_
        ·exact res_t rfl rfl
        ·have hfin : checkA a = (1 : Int) := by
          unfold checkA
          (repeat split) <;> first | rfl | omega
         rw [hfin]
         exact ⟨rfl, S4.gr.below⟩
       ·refine do_ rfl (.bool false) (ex_gtr (m := ((a.data.length : Nat) : Int)) (n := (4000 : Int)) (b := false) rfl rfl (decide_eq_false (by omega))) ?_
        simp only [pS, pN, pA, pC, pZ]
        refine wl_nil (hK44 _ _ ?_)
        refine wp_cond_false rfl ?_
        refine wp_skip ?_
        refine hK43 _ _ ?_
        refine wp_seq_k (fun K46 hK46 => ?_)
        refine wp_seq_k (fun K47 hK47 => region_wl ?_)
        refine do_ rfl (.pointer (some ⟨n2, 0, none⟩)) (ex_field (q := ⟨n2, 0, none⟩) rfl (fa_50_0 _ _)) ?_
        simp only [pS, pN, pA, pC, pZ]
        refine do_ rfl (.int .i64 a.kind) (ex_load rfl (load1 (nagg_3 _) (St.cell S4 (i := 0) rfl rfl))) ?_
        simp only [pS, pN, pA, pC, pZ]
        by_cases hc45 : a.kind = (1 : Int)
        ·refine do_ rfl (.bool false) (ex_neq (m := a.kind) (n := (1 : Int)) (b := false) rfl rfl (bne_eq_false_iff_eq.2 (by omega))) ?_
         simp only [pS, pN, pA, pC, pZ]
         refine do_ rfl (.bool false) (ex_move _) ?_
         simp only [pS, pN, pA, pC, pZ]
         refine doN (wanted_no rfl rfl rfl (c := false) rfl (by decide)) ?_
         simp only [pS, pN, pA, pC, pZ]
         refine doN (wanted_no rfl rfl rfl (c := false) rfl (by decide)) ?_
         simp only [pS, pN, pA, pC, pZ]
         refine doN (wanted_no rfl rfl rfl (c := false) rfl (by decide)) ?_
         simp only [pS, pN, pA, pC, pZ]
         refine doN (wanted_no rfl rfl rfl (c := false) rfl (by decide)) ?_
         simp only [pS, pN, pA, pC, pZ]
         refine doN (wanted_un rfl rfl rfl rfl) ?_
         simp only [pS, pN, pA, pC, pZ]
         refine doN (wanted_un rfl rfl rfl rfl) ?_
         simp only [pS, pN, pA, pC, pZ]
         refine doN (wanted_un rfl rfl rfl rfl) ?_
         simp only [pS, pN, pA, pC, pZ]
         refine doN (wanted_un rfl rfl rfl rfl) ?_
         simp only [pS, pN, pA, pC, pZ]
         refine doN (wanted_no rfl rfl rfl (c := false) rfl (by decide)) ?_
         simp only [pS, pN, pA, pC, pZ]
         refine do_ rfl (.bool false) (ex_pick (b := false) rfl) ?_
         simp only [pS, pN, pA, pC, pZ]
         refine do_ rfl (.bool false) (ex_move _) ?_
         simp only [pS, pN, pA, pC, pZ]
         refine do_ rfl (.pointer (some ⟨n2, 0, none⟩)) (ex_field (q := ⟨n2, 0, none⟩) rfl (fa_50_0 _ _)) ?_
         simp only [pS, pN, pA, pC, pZ]
         refine do_ rfl (.int .i64 a.kind) (ex_load rfl (load1 (nagg_3 _) (St.cell S4 (i := 0) rfl rfl))) ?_
         simp only [pS, pN, pA, pC, pZ]
         by_cases hc60 : a.kind = (3 : Int)
         ·refine do_ rfl (.bool false) (ex_neq (m := a.kind) (n := (3 : Int)) (b := false) rfl rfl (bne_eq_false_iff_eq.2 (by omega))) ?_
          simp only [pS, pN, pA, pC, pZ]
          refine do_ rfl (.bool false) (ex_move _) ?_
          simp only [pS, pN, pA, pC, pZ]
          refine doN (wanted_no rfl rfl rfl (c := false) rfl (by decide)) ?_
          simp only [pS, pN, pA, pC, pZ]
          refine doN (wanted_no rfl rfl rfl (c := false) rfl (by decide)) ?_
          simp only [pS, pN, pA, pC, pZ]
          refine doN (wanted_no rfl rfl rfl (c := false) rfl (by decide)) ?_
          simp only [pS, pN, pA, pC, pZ]
          refine do_ rfl (.bool false) (ex_pick (b := false) rfl) ?_
          simp only [pS, pN, pA, pC, pZ]
          refine do_ rfl (.bool false) (ex_pick (b := false) rfl) ?_
          simp only [pS, pN, pA, pC, pZ]
          refine wl_nil (hK47 _ _ ?_)
          refine wp_cond_false rfl ?_
          refine wp_skip ?_
          refine hK46 _ _ ?_
          refine wp_seq_k (fun K48 hK48 => region_wl ?_)
          refine do_ rfl (.int .i64 0) (ex_assign _) ?_
          simp only [pS, pN, pA, pC, pZ]
          refine wl_nil (hK48 _ _ ?_)
          refine wp_ret ?_
          (try simp only [Exit.then, Exit.inBlock, ↓reduceIte, Nat.reduceEqDiff])
          refine bodyPost_ret (v := (.int .i64 0)) ?_ rfl ?_
          ·exact res_t rfl rfl
          ·have hfin : checkA a = (0 : Int) := by
            unfold checkA
            (repeat split) <;> first | rfl | omega
           rw [hfin]
           exact ⟨rfl, S4.gr.below⟩
         ·refine do_ rfl (.bool true) (ex_neq (m := a.kind) (n := (3 : Int)) (b := true) rfl rfl (bne_iff_ne.2 (by omega))) ?_
          simp only [pS, pN, pA, pC, pZ]
          refine do_ rfl (.bool true) (ex_move _) ?_
          simp only [pS, pN, pA, pC, pZ]
          refine do_ rfl (.pointer (some ⟨n2, 2, none⟩)) (ex_field (q := ⟨n2, 2, none⟩) rfl (fa_50_2 _ _)) ?_
          simp only [pS, pN, pA, pC, pZ]
          refine do_ rfl (.int .i64 a.n) (ex_load rfl (load1 (nagg_3 _) (St.cell S4 (i := 0) rfl rfl))) ?_
          simp only [pS, pN, pA, pC, pZ]
          by_cases hc64 : a.n = (0 : Int)
          ·refine do_ rfl (.bool false) (ex_neq (m := a.n) (n := (0 : Int)) (b := false) rfl rfl (bne_eq_false_iff_eq.2 (by omega))) ?_
           simp only [pS, pN, pA, pC, pZ]
           refine do_ rfl (.bool false) (ex_pick (b := true) rfl) ?_
           simp only [pS, pN, pA, pC, pZ]
           refine do_ rfl (.bool false) (ex_pick (b := false) rfl) ?_
           simp only [pS, pN, pA, pC, pZ]
           refine wl_nil (hK47 _ _ ?_)
           refine wp_cond_false rfl ?_
           refine wp_skip ?_
           refine hK46 _ _ ?_
           refine wp_seq_k (fun K49 hK49 => region_wl ?_)
           refine do_ rfl (.int .i64 0) (ex_assign _) ?_
           simp only [pS, pN, pA, pC, pZ]
           refine wl_nil (hK49 _ _ ?_)
           refine wp_ret ?_
           (try simp only [Exit.then, Exit.inBlock, ↓reduceIte, Nat.reduceEqDiff])
           refine bodyPost_ret (v := (.int .i64 0)) ?_ rfl ?_
           ·exact res_t rfl rfl
           ·have hfin : checkA a = (0 : Int) := by
             unfold checkA
             (repeat split) <;> first | rfl | omega
            rw [hfin]
            exact ⟨rfl, S4.gr.below⟩
          ·refine do_ rfl (.bool true) (ex_neq (m := a.n) (n := (0 : Int)) (b := true) rfl rfl (bne_iff_ne.2 (by omega))) ?_
           simp only [pS, pN, pA, pC, pZ]
           refine do_ rfl (.bool true) (ex_pick (b := true) rfl) ?_
           simp only [pS, pN, pA, pC, pZ]
           refine do_ rfl (.bool true) (ex_pick (b := false) rfl) ?_
           simp only [pS, pN, pA, pC, pZ]
           refine wl_nil (hK47 _ _ ?_)
           refine wp_cond_true rfl ?_
           refine wp_seq_k (fun K50 hK50 => region_wl ?_)
           refine do_ rfl (.int .i64 4) (ex_assign _) ?_
           simp only [pS, pN, pA, pC, pZ]
           refine wl_nil (hK50 _ _ ?_)
           refine wp_ret ?_
           (try simp only [Exit.then, Exit.inBlock, ↓reduceIte, Nat.reduceEqDiff])
           refine bodyPost_ret (v := (.int .i64 4)) ?_ rfl ?_
           ·exact res_t rfl rfl
           ·have hfin : checkA a = (4 : Int) := by
             unfold checkA
             (repeat split) <;> first | rfl | omega
            rw [hfin]
            exact ⟨rfl, S4.gr.below⟩
        ·refine do_ rfl (.bool true) (ex_neq (m := a.kind) (n := (1 : Int)) (b := true) rfl rfl (bne_iff_ne.2 (by omega))) ?_
         simp only [pS, pN, pA, pC, pZ]
         refine do_ rfl (.bool true) (ex_move _) ?_
         simp only [pS, pN, pA, pC, pZ]
         refine do_ rfl (.pointer (some ⟨n2, 1, none⟩)) (ex_field (q := ⟨n2, 1, none⟩) rfl (fa_50_1 _ _)) ?_
         simp only [pS, pN, pA, pC, pZ]
         refine do_ rfl (.int .i64 a.sess) (ex_load rfl (load1 (nagg_3 _) (St.cell S4 (i := 0) rfl rfl))) ?_
         simp only [pS, pN, pA, pC, pZ]
         by_cases hc49 : a.sess = (0 : Int)
         ·refine do_ rfl (.bool false) (ex_neq (m := a.sess) (n := (0 : Int)) (b := false) rfl rfl (bne_eq_false_iff_eq.2 (by omega))) ?_
          simp only [pS, pN, pA, pC, pZ]
          refine do_ rfl (.bool false) (ex_move _) ?_
          simp only [pS, pN, pA, pC, pZ]
          refine do_ rfl (.pointer (some ⟨n2, 3, none⟩)) (ex_field (q := ⟨n2, 3, none⟩) rfl (fa_50_3 _ _)) ?_
          simp only [pS, pN, pA, pC, pZ]
          refine do_ rfl (.slice x a.data.length y) (ex_load rfl (load1 (nagg_27 _) (St.cell S4 (i := 0) rfl rfl))) ?_
          simp only [pS, pN, pA, pC, pZ]
          refine do_ rfl (.int .i64 ((a.data.length : Nat) : Int)) (ex_len Tryd.underlying27 rfl) ?_
          simp only [pS, pN, pA, pC, pZ]
          by_cases hc54 : 0 < a.data.length
          ·refine do_ rfl (.bool true) (ex_gtr (m := ((a.data.length : Nat) : Int)) (n := (0 : Int)) (b := true) rfl rfl (decide_eq_true (by omega))) ?_
           simp only [pS, pN, pA, pC, pZ]
           refine do_ rfl (.bool true) (ex_pick (b := false) rfl) ?_
           simp only [pS, pN, pA, pC, pZ]
           refine do_ rfl (.bool true) (ex_pick (b := true) rfl) ?_
           simp only [pS, pN, pA, pC, pZ]
           refine do_ rfl (.bool true) (ex_move _) ?_
           simp only [pS, pN, pA, pC, pZ]
           refine doN (wanted_no rfl rfl rfl (c := true) rfl (by decide)) ?_
           simp only [pS, pN, pA, pC, pZ]
           refine doN (wanted_no rfl rfl rfl (c := true) rfl (by decide)) ?_
           simp only [pS, pN, pA, pC, pZ]
           refine doN (wanted_no rfl rfl rfl (c := true) rfl (by decide)) ?_
           simp only [pS, pN, pA, pC, pZ]
           refine doN (wanted_no rfl rfl rfl (c := true) rfl (by decide)) ?_
           simp only [pS, pN, pA, pC, pZ]
           refine doN (wanted_un rfl rfl rfl rfl) ?_
           simp only [pS, pN, pA, pC, pZ]
           refine doN (wanted_un rfl rfl rfl rfl) ?_
           simp only [pS, pN, pA, pC, pZ]
           refine doN (wanted_un rfl rfl rfl rfl) ?_
           simp only [pS, pN, pA, pC, pZ]
           refine doN (wanted_no rfl rfl rfl (c := true) rfl (by decide)) ?_
           simp only [pS, pN, pA, pC, pZ]
           refine do_ rfl (.bool true) (ex_pick (b := true) rfl) ?_
           simp only [pS, pN, pA, pC, pZ]
           refine wl_nil (hK47 _ _ ?_)
           refine wp_cond_true rfl ?_
           refine wp_seq_k (fun K51 hK51 => region_wl ?_)
           refine do_ rfl (.int .i64 4) (ex_assign _) ?_
           simp only [pS, pN, pA, pC, pZ]
           refine wl_nil (hK51 _ _ ?_)
           refine wp_ret ?_
           (try simp only [Exit.then, Exit.inBlock, ↓reduceIte, Nat.reduceEqDiff])
           refine bodyPost_ret (v := (.int .i64 4)) ?_ rfl ?_
           ·exact res_t rfl rfl
           ·have hfin : checkA a = (4 : Int) := by
             unfold checkA
             (repeat split) <;> first | rfl | omega
            rw [hfin]
            exact ⟨rfl, S4.gr.below⟩
          ·refine do_ rfl (.bool false) (ex_gtr (m := ((a.data.length : Nat) : Int)) (n := (0 : Int)) (b := false) rfl rfl (decide_eq_false (by omega))) ?_
           simp only [pS, pN, pA, pC, pZ]
           refine do_ rfl (.bool false) (ex_pick (b := false) rfl) ?_
           simp only [pS, pN, pA, pC, pZ]
           refine do_ rfl (.bool false) (ex_pick (b := true) rfl) ?_
           simp only [pS, pN, pA, pC, pZ]
           refine do_ rfl (.bool false) (ex_move _) ?_
           simp only [pS, pN, pA, pC, pZ]
           refine do_ rfl (.pointer (some ⟨n2, 0, none⟩)) (ex_field (q := ⟨n2, 0, none⟩) rfl (fa_50_0 _ _)) ?_
           simp only [pS, pN, pA, pC, pZ]
           refine do_ rfl (.int .i64 a.kind) (ex_load rfl (load1 (nagg_3 _) (St.cell S4 (i := 0) rfl rfl))) ?_
           simp only [pS, pN, pA, pC, pZ]
           by_cases hc60 : a.kind = (3 : Int)
           ·refine do_ rfl (.bool false) (ex_neq (m := a.kind) (n := (3 : Int)) (b := false) rfl rfl (bne_eq_false_iff_eq.2 (by omega))) ?_
            simp only [pS, pN, pA, pC, pZ]
            refine do_ rfl (.bool false) (ex_move _) ?_
            simp only [pS, pN, pA, pC, pZ]
            refine doN (wanted_no rfl rfl rfl (c := false) rfl (by decide)) ?_
            simp only [pS, pN, pA, pC, pZ]
            refine doN (wanted_no rfl rfl rfl (c := false) rfl (by decide)) ?_
            simp only [pS, pN, pA, pC, pZ]
            refine doN (wanted_no rfl rfl rfl (c := false) rfl (by decide)) ?_
            simp only [pS, pN, pA, pC, pZ]
            refine do_ rfl (.bool false) (ex_pick (b := false) rfl) ?_
            simp only [pS, pN, pA, pC, pZ]
            refine do_ rfl (.bool false) (ex_pick (b := false) rfl) ?_
            simp only [pS, pN, pA, pC, pZ]
            refine wl_nil (hK47 _ _ ?_)
            refine wp_cond_false rfl ?_
            refine wp_skip ?_
            refine hK46 _ _ ?_
            refine wp_seq_k (fun K52 hK52 => region_wl ?_)
            refine do_ rfl (.int .i64 0) (ex_assign _) ?_
            simp only [pS, pN, pA, pC, pZ]
            refine wl_nil (hK52 _ _ ?_)
            refine wp_ret ?_
            (try simp only [Exit.then, Exit.inBlock, ↓reduceIte, Nat.reduceEqDiff])
            refine bodyPost_ret (v := (.int .i64 0)) ?_ rfl ?_
            ·exact res_t rfl rfl
            ·have hfin : checkA a = (0 : Int) := by
              unfold checkA
              (repeat split) <;> first | rfl | omega
             rw [hfin]
             exact ⟨rfl, S4.gr.below⟩
           ·refine do_ rfl (.bool true) (ex_neq (m := a.kind) (n := (3 : Int)) (b := true) rfl rfl (bne_iff_ne.2 (by omega))) ?_
            simp only [pS, pN, pA, pC, pZ]
            refine do_ rfl (.bool true) (ex_move _) ?_
            simp only [pS, pN, pA, pC, pZ]
            refine do_ rfl (.pointer (some ⟨n2, 2, none⟩)) (ex_field (q := ⟨n2, 2, none⟩) rfl (fa_50_2 _ _)) ?_
            simp only [pS, pN, pA, pC, pZ]
            refine do_ rfl (.int .i64 a.n) (ex_load rfl (load1 (nagg_3 _) (St.cell S4 (i := 0) rfl rfl))) ?_
            simp only [pS, pN, pA, pC, pZ]
            by_cases hc64 : a.n = (0 : Int)
            ·refine do_ rfl (.bool false) (ex_neq (m := a.n) (n := (0 : Int)) (b := false) rfl rfl (bne_eq_false_iff_eq.2 (by omega))) ?_
             simp only [pS, pN, pA, pC, pZ]
             refine do_ rfl (.bool false) (ex_pick (b := true) rfl) ?_
             simp only [pS, pN, pA, pC, pZ]
             refine do_ rfl (.bool false) (ex_pick (b := false) rfl) ?_
             simp only [pS, pN, pA, pC, pZ]
             refine wl_nil (hK47 _ _ ?_)
             refine wp_cond_false rfl ?_
             refine wp_skip ?_
             refine hK46 _ _ ?_
             refine wp_seq_k (fun K53 hK53 => region_wl ?_)
             refine do_ rfl (.int .i64 0) (ex_assign _) ?_
             simp only [pS, pN, pA, pC, pZ]
             refine wl_nil (hK53 _ _ ?_)
             refine wp_ret ?_
             (try simp only [Exit.then, Exit.inBlock, ↓reduceIte, Nat.reduceEqDiff])
             refine bodyPost_ret (v := (.int .i64 0)) ?_ rfl ?_
             ·exact res_t rfl rfl
             ·have hfin : checkA a = (0 : Int) := by
               unfold checkA
               (repeat split) <;> first | rfl | omega
              rw [hfin]
              exact ⟨rfl, S4.gr.below⟩
            ·refine do_ rfl (.bool true) (ex_neq (m := a.n) (n := (0 : Int)) (b := true) rfl rfl (bne_iff_ne.2 (by omega))) ?_
             simp only [pS, pN, pA, pC, pZ]
             refine do_ rfl (.bool true) (ex_pick (b := true) rfl) ?_
             simp only [pS, pN, pA, pC, pZ]
             refine do_ rfl (.bool true) (ex_pick (b := false) rfl) ?_
             simp only [pS, pN, pA, pC, pZ]
             refine wl_nil (hK47 _ _ ?_)
             refine wp_cond_true rfl ?_
             refine wp_seq_k (fun K54 hK54 => region_wl ?_)
             refine do_ rfl (.int .i64 4) (ex_assign _) ?_
             simp only [pS, pN, pA, pC, pZ]
             refine wl_nil (hK54 _ _ ?_)
             refine wp_ret ?_
             (try simp only [Exit.then, Exit.inBlock, ↓reduceIte, Nat.reduceEqDiff])
             refine bodyPost_ret (v := (.int .i64 4)) ?_ rfl ?_
             ·exact res_t rfl rfl
             ·have hfin : checkA a = (4 : Int) := by
               unfold checkA
               (repeat split) <;> first | rfl | omega
              rw [hfin]
              exact ⟨rfl, S4.gr.below⟩
         ·refine do_ rfl (.bool true) (ex_neq (m := a.sess) (n := (0 : Int)) (b := true) rfl rfl (bne_iff_ne.2 (by omega))) ?_
          simp only [pS, pN, pA, pC, pZ]
          refine do_ rfl (.bool true) (ex_move _) ?_
          simp only [pS, pN, pA, pC, pZ]
          refine doN (wanted_no rfl rfl rfl (c := true) rfl (by decide)) ?_
          simp only [pS, pN, pA, pC, pZ]
          refine doN (wanted_no rfl rfl rfl (c := true) rfl (by decide)) ?_
          simp only [pS, pN, pA, pC, pZ]
          refine doN (wanted_no rfl rfl rfl (c := true) rfl (by decide)) ?_
          simp only [pS, pN, pA, pC, pZ]
          refine doN (wanted_no rfl rfl rfl (c := true) rfl (by decide)) ?_
          simp only [pS, pN, pA, pC, pZ]
          refine do_ rfl (.bool true) (ex_pick (b := true) rfl) ?_
          simp only [pS, pN, pA, pC, pZ]
          refine do_ rfl (.bool true) (ex_pick (b := true) rfl) ?_
          simp only [pS, pN, pA, pC, pZ]
          refine do_ rfl (.bool true) (ex_move _) ?_
          simp only [pS, pN, pA, pC, pZ]
          refine doN (wanted_no rfl rfl rfl (c := true) rfl (by decide)) ?_
          simp only [pS, pN, pA, pC, pZ]
          refine doN (wanted_no rfl rfl rfl (c := true) rfl (by decide)) ?_
          simp only [pS, pN, pA, pC, pZ]
          refine doN (wanted_no rfl rfl rfl (c := true) rfl (by decide)) ?_
          simp only [pS, pN, pA, pC, pZ]
          refine doN (wanted_no rfl rfl rfl (c := true) rfl (by decide)) ?_
          simp only [pS, pN, pA, pC, pZ]
          refine doN (wanted_un rfl rfl rfl rfl) ?_
          simp only [pS, pN, pA, pC, pZ]
          refine doN (wanted_un rfl rfl rfl rfl) ?_
          simp only [pS, pN, pA, pC, pZ]
          refine doN (wanted_un rfl rfl rfl rfl) ?_
          simp only [pS, pN, pA, pC, pZ]
          refine doN (wanted_no rfl rfl rfl (c := true) rfl (by decide)) ?_
          simp only [pS, pN, pA, pC, pZ]
          refine do_ rfl (.bool true) (ex_pick (b := true) rfl) ?_
          simp only [pS, pN, pA, pC, pZ]
          refine wl_nil (hK47 _ _ ?_)
          refine wp_cond_true rfl ?_
          refine wp_seq_k (fun K55 hK55 => region_wl ?_)
          refine do_ rfl (.int .i64 4) (ex_assign _) ?_
          simp only [pS, pN, pA, pC, pZ]
          refine wl_nil (hK55 _ _ ?_)
          refine wp_ret ?_
          (try simp only [Exit.then, Exit.inBlock, ↓reduceIte, Nat.reduceEqDiff])
          refine bodyPost_ret (v := (.int .i64 4)) ?_ rfl ?_
          ·exact res_t rfl rfl
          ·have hfin : checkA a = (4 : Int) := by
            unfold checkA
            (repeat split) <;> first | rfl | omega
           rw [hfin]
           exact ⟨rfl, S4.gr.below⟩
    ·refine do_ rfl (.bool false) (ex_eql (m := a.kind) (n := (3 : Int)) (b := false) rfl rfl (beq_eq_false_iff_ne.2 (by omega))) ?_
     simp only [pS, pN, pA, pC, pZ]
     refine do_ rfl (.bool false) (ex_move _) ?_
     simp only [pS, pN, pA, pC, pZ]
     refine doN (wanted_no rfl rfl rfl (c := false) rfl (by decide)) ?_
     simp only [pS, pN, pA, pC, pZ]
     refine doN (wanted_no rfl rfl rfl (c := false) rfl (by decide)) ?_
     simp only [pS, pN, pA, pC, pZ]
     refine doN (wanted_no rfl rfl rfl (c := false) rfl (by decide)) ?_
     simp only [pS, pN, pA, pC, pZ]
     refine doN (wanted_no rfl rfl rfl (c := false) rfl (by decide)) ?_
     simp only [pS, pN, pA, pC, pZ]
     refine doN (wanted_un rfl rfl rfl rfl) ?_
     simp only [pS, pN, pA, pC, pZ]
     refine doN (wanted_un rfl rfl rfl rfl) ?_
     simp only [pS, pN, pA, pC, pZ]
     refine doN (wanted_un rfl rfl rfl rfl) ?_
     simp only [pS, pN, pA, pC, pZ]
     refine doN (wanted_no rfl rfl rfl (c := false) rfl (by decide)) ?_
     simp only [pS, pN, pA, pC, pZ]
     refine do_ rfl (.bool false) (ex_pick (b := false) rfl) ?_
     simp only [pS, pN, pA, pC, pZ]
     refine do_ rfl (.bool false) (ex_pick (b := false) rfl) ?_
     simp only [pS, pN, pA, pC, pZ]
     refine wl_nil (hK10 _ _ ?_)
     refine wp_cond_false rfl ?_
     refine wp_skip ?_
     refine hK9 _ _ ?_
     refine wp_seq_k (fun K56 hK56 => ?_)
     refine wp_seq_k (fun K57 hK57 => region_wl ?_)
     refine do_ rfl (.pointer (some ⟨n2, 3, none⟩)) (ex_field (q := ⟨n2, 3, none⟩) rfl (fa_50_3 _ _)) ?_
     simp only [pS, pN, pA, pC, pZ]
     refine do_ rfl (.slice x a.data.length y) (ex_load rfl (load1 (nagg_27 _) (St.cell S4 (i := 0) rfl rfl))) ?_
     simp only [pS, pN, pA, pC, pZ]
     refine do_ rfl (.int .i64 ((a.data.length : Nat) : Int)) (ex_len Tryd.underlying27 rfl) ?_
     simp only [pS, pN, pA, pC, pZ]
     by_cases hc42 : 4000 < a.data.length
     ·refine do_ rfl (.bool true) (ex_gtr (m := ((a.data.length : Nat) : Int)) (n := (4000 : Int)) (b := true) rfl rfl (decide_eq_true (by omega))) ?_
      simp only [pS, pN, pA, pC, pZ]
      refine wl_nil (hK57 _ _ ?_)
      refine wp_cond_true rfl ?_
      refine wp_seq_k (fun K58 hK58 => region_wl ?_)
      refine do_ rfl (.int .i64 1) (ex_assign _) ?_
      simp only [pS, pN, pA, pC, pZ]
      refine wl_nil (hK58 _ _ ?_)
      refine wp_ret ?_
      (try simp only [Exit.then, Exit.inBlock, ↓reduceIte, Nat.reduceEqDiff])
      refine bodyPost_ret (v := (.int .i64 1)) ?_ rfl ?_
      ·exact res_t rfl rfl
      ·have hfin : checkA a = (1 : Int) := by
        unfold checkA
        (repeat split) <;> first | rfl | omega
       rw [hfin]
       exact ⟨rfl, S4.gr.below⟩
     ·refine do_ rfl (.bool false) (ex_gtr (m := ((a.data.length : Nat) : Int)) (n := (4000 : Int)) (b := false) rfl rfl (decide_eq_false (by omega))) ?_
      simp only [pS, pN, pA, pC, pZ]
      refine wl_nil (hK57 _ _ ?_)
      refine wp_cond_false rfl ?_
      refine wp_skip ?_
      refine hK56 _ _ ?_
      refine wp_seq_k (fun K59 hK59 => ?_)
      refine wp_seq_k (fun K60 hK60 => region_wl ?_)
      refine do_ rfl (.pointer (some ⟨n2, 0, none⟩)) (ex_field (q := ⟨n2, 0, none⟩) rfl (fa_50_0 _ _)) ?_
      simp only [pS, pN, pA, pC, pZ]
      refine do_ rfl (.int .i64 a.kind) (ex_load rfl (load1 (nagg_3 _) (St.cell S4 (i := 0) rfl rfl))) ?_
      simp only [pS, pN, pA, pC, pZ]
      by_cases hc45 : a.kind = (1 : Int)
      ·refine do_ rfl (.bool false) (ex_neq (m := a.kind) (n := (1 : Int)) (b := false) rfl rfl (bne_eq_false_iff_eq.2 (by omega))) ?_
       simp only [pS, pN, pA, pC, pZ]
       refine do_ rfl (.bool false) (ex_move _) ?_
       simp only [pS, pN, pA, pC, pZ]
       refine doN (wanted_no rfl rfl rfl (c := false) rfl (by decide)) ?_
       simp only [pS, pN, pA, pC, pZ]
       refine doN (wanted_no rfl rfl rfl (c := false) rfl (by decide)) ?_
       simp only [pS, pN, pA, pC, pZ]
       refine doN (wanted_no rfl rfl rfl (c := false) rfl (by decide)) ?_
       simp only [pS, pN, pA, pC, pZ]
       refine doN (wanted_no rfl rfl rfl (c := false) rfl (by decide)) ?_
       simp only [pS, pN, pA, pC, pZ]
       refine doN (wanted_un rfl rfl rfl rfl) ?_
       simp only [pS, pN, pA, pC, pZ]
       refine doN (wanted_un rfl rfl rfl rfl) ?_
       simp only [pS, pN, pA, pC, pZ]
       refine doN (wanted_un rfl rfl rfl rfl) ?_
       simp only [pS, pN, pA, pC, pZ]
       refine doN (wanted_un rfl rfl rfl rfl) ?_
       simp only [pS, pN, pA, pC, pZ]
       refine doN (wanted_no rfl rfl rfl (c := false) rfl (by decide)) ?_
       simp only [pS, pN, pA, pC, pZ]
       refine do_ rfl (.bool false) (ex_pick (b := false) rfl) ?_
       simp only [pS, pN, pA, pC, pZ]
       refine do_ rfl (.bool false) (ex_move _) ?_
       simp only [pS, pN, pA, pC, pZ]
       refine do_ rfl (.pointer (some ⟨n2, 0, none⟩)) (ex_field (q := ⟨n2, 0, none⟩) rfl (fa_50_0 _ _)) ?_
       simp only [pS, pN, pA, pC, pZ]
       refine do_ rfl (.int .i64 a.kind) (ex_load rfl (load1 (nagg_3 _) (St.cell S4 (i := 0) rfl rfl))) ?_
       simp only [pS, pN, pA, pC, pZ]
       by_cases hc60 : a.kind = (3 : Int)
       ·refine do_ rfl (.bool false) (ex_neq (m := a.kind) (n := (3 : Int)) (b := false) rfl rfl (bne_eq_false_iff_eq.2 (by omega))) ?_
        simp only [pS, pN, pA, pC, pZ]
        refine do_ rfl (.bool false) (ex_move _) ?_
        simp only [pS, pN, pA, pC, pZ]
        refine doN (wanted_no rfl rfl rfl (c := false) rfl (by decide)) ?_
        simp only [pS, pN, pA, pC, pZ]
        refine doN (wanted_no rfl rfl rfl (c := false) rfl (by decide)) ?_
        simp only [pS, pN, pA, pC, pZ]
        refine doN (wanted_no rfl rfl rfl (c := false) rfl (by decide)) ?_
        simp only [pS, pN, pA, pC, pZ]
        refine do_ rfl (.bool false) (ex_pick (b := false) rfl) ?_
        simp only [pS, pN, pA, pC, pZ]
        refine do_ rfl (.bool false) (ex_pick (b := false) rfl) ?_
        simp only [pS, pN, pA, pC, pZ]
        refine wl_nil (hK60 _ _ ?_)
        refine wp_cond_false rfl ?_
        refine wp_skip ?_
        refine hK59 _ _ ?_
        refine wp_seq_k (fun K61 hK61 => region_wl ?_)
        refine do_ rfl (.int .i64 0) (ex_assign _) ?_
        simp only [pS, pN, pA, pC, pZ]
        refine wl_nil (hK61 _ _ ?_)
        refine wp_ret ?_
        (try simp only [Exit.then, Exit.inBlock, ↓reduceIte, Nat.reduceEqDiff])
        refine bodyPost_ret (v := (.int .i64 0)) ?_ rfl ?_
        ·exact res_t rfl rfl
        ·have hfin : checkA a = (0 : Int) := by
          unfold checkA
          (repeat split) <;> first | rfl | omega
         rw [hfin]
         exact ⟨rfl, S4.gr.below⟩
       ·refine do_ rfl (.bool true) (ex_neq (m := a.kind) (n := (3 : Int)) (b := true) rfl rfl (bne_iff_ne.2 (by omega))) ?_
        simp only [pS, pN, pA, pC, pZ]
        refine do_ rfl (.bool true) (ex_move _) ?_
        simp only [pS, pN, pA, pC, pZ]
        refine do_ rfl (.pointer (some ⟨n2, 2, none⟩)) (ex_field (q := ⟨n2, 2, none⟩) rfl (fa_50_2 _ _)) ?_
        simp only [pS, pN, pA, pC, pZ]
        refine do_ rfl (.int .i64 a.n) (ex_load rfl (load1 (nagg_3 _) (St.cell S4 (i := 0) rfl rfl))) ?_
        simp only [pS, pN, pA, pC, pZ]
        by_cases hc64 : a.n = (0 : Int)
        ·refine do_ rfl (.bool false) (ex_neq (m := a.n) (n := (0 : Int)) (b := false) rfl rfl (bne_eq_false_iff_eq.2 (by omega))) ?_
         simp only [pS, pN, pA, pC, pZ]
         refine do_ rfl (.bool false) (ex_pick (b := true) rfl) ?_
         simp only [pS, pN, pA, pC, pZ]
         refine do_ rfl (.bool false) (ex_pick (b := false) rfl) ?_
         simp only [pS, pN, pA, pC, pZ]
         refine wl_nil (hK60 _ _ ?_)
         refine wp_cond_false rfl ?_
         refine wp_skip ?_
         refine hK59 _ _ ?_
         refine wp_seq_k (fun K62 hK62 => region_wl ?_)
         refine do_ rfl (.int .i64 0) (ex_assign _) ?_
         simp only [pS, pN, pA, pC, pZ]
         refine wl_nil (hK62 _ _ ?_)
         refine wp_ret ?_
         (try simp only [Exit.then, Exit.inBlock, ↓reduceIte, Nat.reduceEqDiff])
         refine bodyPost_ret (v := (.int .i64 0)) ?_ rfl ?_
         ·exact res_t rfl rfl
         ·have hfin : checkA a = (0 : Int) := by
           unfold checkA
           (repeat split) <;> first | rfl | omega
          rw [hfin]
          exact ⟨rfl, S4.gr.below⟩
        ·refine do_ rfl (.bool true) (ex_neq (m := a.n) (n := (0 : Int)) (b := true) rfl rfl (bne_iff_ne.2 (by omega))) ?_
         simp only [pS, pN, pA, pC, pZ]
         refine do_ rfl (.bool true) (ex_pick (b := true) rfl) ?_
         simp only [pS, pN, pA, pC, pZ]
         refine do_ rfl (.bool true) (ex_pick (b := false) rfl) ?_
         simp only [pS, pN, pA, pC, pZ]
         refine wl_nil (hK60 _ _ ?_)
         refine wp_cond_true rfl ?_
         refine wp_seq_k (fun K63 hK63 => region_wl ?_)
         refine do_ rfl (.int .i64 4) (ex_assign _) ?_
         simp only [pS, pN, pA, pC, pZ]
         refine wl_nil (hK63 _ _ ?_)
         refine wp_ret ?_
         (try simp only [Exit.then, Exit.inBlock, ↓reduceIte, Nat.reduceEqDiff])
         refine bodyPost_ret (v := (.int .i64 4)) ?_ rfl ?_
         ·exact res_t rfl rfl
         ·have hfin : checkA a = (4 : Int) := by
           unfold checkA
           (repeat split) <;> first | rfl | omega
          rw [hfin]
          exact ⟨rfl, S4.gr.below⟩
      ·refine do_ rfl (.bool true) (ex_neq (m := a.kind) (n := (1 : Int)) (b := true) rfl rfl (bne_iff_ne.2 (by omega))) ?_
       simp only [pS, pN, pA, pC, pZ]
       refine do_ rfl (.bool true) (ex_move _) ?_
       simp only [pS, pN, pA, pC, pZ]
       refine do_ rfl (.pointer (some ⟨n2, 1, none⟩)) (ex_field (q := ⟨n2, 1, none⟩) rfl (fa_50_1 _ _)) ?_
       simp only [pS, pN, pA, pC, pZ]
       refine do_ rfl (.int .i64 a.sess) (ex_load rfl (load1 (nagg_3 _) (St.cell S4 (i := 0) rfl rfl))) ?_
       simp only [pS, pN, pA, pC, pZ]
       by_cases hc49 : a.sess = (0 : Int)
       ·refine do_ rfl (.bool false) (ex_neq (m := a.sess) (n := (0 : Int)) (b := false) rfl rfl (bne_eq_false_iff_eq.2 (by omega))) ?_
        simp only [pS, pN, pA, pC, pZ]
        refine do_ rfl (.bool false) (ex_move _) ?_
        simp only [pS, pN, pA, pC, pZ]
        refine do_ rfl (.pointer (some ⟨n2, 3, none⟩)) (ex_field (q := ⟨n2, 3, none⟩) rfl (fa_50_3 _ _)) ?_
        simp only [pS, pN, pA, pC, pZ]
        refine do_ rfl (.slice x a.data.length y) (ex_load rfl (load1 (nagg_27 _) (St.cell S4 (i := 0) rfl rfl))) ?_
        simp only [pS, pN, pA, pC, pZ]
        refine do_ rfl (.int .i64 ((a.data.length : Nat) : Int)) (ex_len Tryd.underlying27 rfl) ?_
        simp only [pS, pN, pA, pC, pZ]
        by_cases hc54 : 0 < a.data.length
        ·refine do_ rfl (.bool true) (ex_gtr (m := ((a.data.length : Nat) : Int)) (n := (0 : Int)) (b := true) rfl rfl (decide_eq_true (by omega))) ?_
         simp only [pS, pN, pA, pC, pZ]
         refine do_ rfl (.bool true) (ex_pick (b := false) rfl) ?_
         simp only [pS, pN, pA, pC, pZ]
         refine do_ rfl (.bool true) (ex_pick (b := true) rfl) ?_
         simp only [pS, pN, pA, pC, pZ]
         refine do_ rfl (.bool true) (ex_move _) ?_
         simp only [pS, pN, pA, pC, pZ]
         refine doN (wanted_no rfl rfl rfl (c := true) rfl (by decide)) ?_
         simp only [pS, pN, pA, pC, pZ]
         refine doN (wanted_no rfl rfl rfl (c := true) rfl (by decide)) ?_
         simp only [pS, pN, pA, pC, pZ]
         refine doN (wanted_no rfl rfl rfl (c := true) rfl (by decide)) ?_
         simp only [pS, pN, pA, pC, pZ]
         refine doN (wanted_no rfl rfl rfl (c := true) rfl (by decide)) ?_
         simp only [pS, pN, pA, pC, pZ]
         refine doN (wanted_un rfl rfl rfl rfl) ?_
         simp only [pS, pN, pA, pC, pZ]
         refine doN (wanted_un rfl rfl rfl rfl) ?_
         simp only [pS, pN, pA, pC, pZ]
         refine doN (wanted_un rfl rfl rfl rfl) ?_
         simp only [pS, pN, pA, pC, pZ]
         refine doN (wanted_no rfl rfl rfl (c := true) rfl (by decide)) ?_
         simp only [pS, pN, pA, pC, pZ]
         refine do_ rfl (.bool true) (ex_pick (b := true) rfl) ?_
         simp only [pS, pN, pA, pC, pZ]
         refine wl_nil (hK60 _ _ ?_)
         refine wp_cond_true rfl ?_
         refine wp_seq_k (fun K64 hK64 => region_wl ?_)
         refine do_ rfl (.int .i64 4) (ex_assign _) ?_
         simp only [pS, pN, pA, pC, pZ]
         refine wl_nil (hK64 _ _ ?_)
         refine wp_ret ?_
         (try simp only [Exit.then, Exit.inBlock, ↓reduceIte, Nat.reduceEqDiff])
         refine bodyPost_ret (v := (.int .i64 4)) ?_ rfl ?_
         ·exact res_t rfl rfl
         ·have hfin : checkA a = (4 : Int) := by
           unfold checkA
           (repeat split) <;> first | rfl | omega
          rw [hfin]
          exact ⟨rfl, S4.gr.below⟩
        ·refine do_ rfl (.bool false) (ex_gtr (m := ((a.data.length : Nat) : Int)) (n := (0 : Int)) (b := false) rfl rfl (decide_eq_false (by omega))) ?_
         simp only [pS, pN, pA, pC, pZ]
         refine do_ rfl (.bool false) (ex_pick (b := false) rfl) ?_
         simp only [pS, pN, pA, pC, pZ]
         refine do_ rfl (.bool false) (ex_pick (b := true) rfl) ?_
         simp only [pS, pN, pA, pC, pZ]
         refine do_ rfl (.bool false) (ex_move _) ?_
         simp only [pS, pN, pA, pC, pZ]
         refine do_ rfl (.pointer (some ⟨n2, 0, none⟩)) (ex_field (q := ⟨n2, 0, none⟩) rfl (fa_50_0 _ _)) ?_
         simp only [pS, pN, pA, pC, pZ]
         refine do_ rfl (.int .i64 a.kind) (ex_load rfl (load1 (nagg_3 _) (St.cell S4 (i := 0) rfl rfl))) ?_
         simp only [pS, pN, pA, pC, pZ]
         by_cases hc60 : a.kind = (3 : Int)
         ·refine do_ rfl (.bool false) (ex_neq (m := a.kind) (n := (3 : Int)) (b := false) rfl rfl (bne_eq_false_iff_eq.2 (by omega))) ?_
          simp only [pS, pN, pA, pC, pZ]
          refine do_ rfl (.bool false) (ex_move _) ?_
          simp only [pS, pN, pA, pC, pZ]
          refine doN (wanted_no rfl rfl rfl (c := false) rfl (by decide)) ?_
          simp only [pS, pN, pA, pC, pZ]
          refine doN (wanted_no rfl rfl rfl (c := false) rfl (by decide)) ?_
          simp only [pS, pN, pA, pC, pZ]
          refine doN (wanted_no rfl rfl rfl (c := false) rfl (by decide)) ?_
          simp only [pS, pN, pA, pC, pZ]
          refine do_ rfl (.bool false) (ex_pick (b := false) rfl) ?_
          simp only [pS, pN, pA, pC, pZ]
          refine do_ rfl (.bool false) (ex_pick (b := false) rfl) ?_
          simp only [pS, pN, pA, pC, pZ]
          refine wl_nil (hK60 _ _ ?_)
          refine wp_cond_false rfl ?_
          refine wp_skip ?_
          refine hK59 _ _ ?_
          refine wp_seq_k (fun K65 hK65 => region_wl ?_)
          refine do_ rfl (.int .i64 0) (ex_assign _) ?_
          simp only [pS, pN, pA, pC, pZ]
          refine wl_nil (hK65 _ _ ?_)
          refine wp_ret ?_
          (try simp only [Exit.then, Exit.inBlock, ↓reduceIte, Nat.reduceEqDiff])
          refine bodyPost_ret (v := (.int .i64 0)) ?_ rfl ?_
          ·exact res_t rfl rfl
          ·have hfin : checkA a = (0 : Int) := by
            unfold checkA
            (repeat split) <;> first | rfl | omega
           rw [hfin]
           exact ⟨rfl, S4.gr.below⟩
         ·refine do_ rfl (.bool true) (ex_neq (m := a.kind) (n := (3 : Int)) (b := true) rfl rfl (bne_iff_ne.2 (by omega))) ?_
          simp only [pS, pN, pA, pC, pZ]
          refine do_ rfl (.bool true) (ex_move _) ?_
          simp only [pS, pN, pA, pC, pZ]
          refine do_ rfl (.pointer (some ⟨n2, 2, none⟩)) (ex_field (q := ⟨n2, 2, none⟩) rfl (fa_50_2 _ _)) ?_
          simp only [pS, pN, pA, pC, pZ]
          refine do_ rfl (.int .i64 a.n) (ex_load rfl (load1 (nagg_3 _) (St.cell S4 (i := 0) rfl rfl))) ?_
          simp only [pS, pN, pA, pC, pZ]
          by_cases hc64 : a.n = (0 : Int)
          ·refine do_ rfl (.bool false) (ex_neq (m := a.n) (n := (0 : Int)) (b := false) rfl rfl (bne_eq_false_iff_eq.2 (by omega))) ?_
           simp only [pS, pN, pA, pC, pZ]
           refine do_ rfl (.bool false) (ex_pick (b := true) rfl) ?_
           simp only [pS, pN, pA, pC, pZ]
           refine do_ rfl (.bool false) (ex_pick (b := false) rfl) ?_
           simp only [pS, pN, pA, pC, pZ]
           refine wl_nil (hK60 _ _ ?_)
           refine wp_cond_false rfl ?_
           refine wp_skip ?_
           refine hK59 _ _ ?_
           refine wp_seq_k (fun K66 hK66 => region_wl ?_)
           refine do_ rfl (.int .i64 0) (ex_assign _) ?_
           simp only [pS, pN, pA, pC, pZ]
           refine wl_nil (hK66 _ _ ?_)
           refine wp_ret ?_
           (try simp only [Exit.then, Exit.inBlock, ↓reduceIte, Nat.reduceEqDiff])
           refine bodyPost_ret (v := (.int .i64 0)) ?_ rfl ?_
           ·exact res_t rfl rfl
           ·have hfin : checkA a = (0 : Int) := by
             unfold checkA
             (repeat split) <;> first | rfl | omega
            rw [hfin]
            exact ⟨rfl, S4.gr.below⟩
          ·refine do_ rfl (.bool true) (ex_neq (m := a.n) (n := (0 : Int)) (b := true) rfl rfl (bne_iff_ne.2 (by omega))) ?_
           simp only [pS, pN, pA, pC, pZ]
           refine do_ rfl (.bool true) (ex_pick (b := true) rfl) ?_
           simp only [pS, pN, pA, pC, pZ]
           refine do_ rfl (.bool true) (ex_pick (b := false) rfl) ?_
           simp only [pS, pN, pA, pC, pZ]
           refine wl_nil (hK60 _ _ ?_)
           refine wp_cond_true rfl ?_
           refine wp_seq_k (fun K67 hK67 => region_wl ?_)
           refine do_ rfl (.int .i64 4) (ex_assign _) ?_
           simp only [pS, pN, pA, pC, pZ]
           refine wl_nil (hK67 _ _ ?_)
           refine wp_ret ?_
           (try simp only [Exit.then, Exit.inBlock, ↓reduceIte, Nat.reduceEqDiff])
           refine bodyPost_ret (v := (.int .i64 4)) ?_ rfl ?_
           ·exact res_t rfl rfl
           ·have hfin : checkA a = (4 : Int) := by
             unfold checkA
             (repeat split) <;> first | rfl | omega
            rw [hfin]
            exact ⟨rfl, S4.gr.below⟩
       ·refine do_ rfl (.bool true) (ex_neq (m := a.sess) (n := (0 : Int)) (b := true) rfl rfl (bne_iff_ne.2 (by omega))) ?_
        simp only [pS, pN, pA, pC, pZ]
        refine do_ rfl (.bool true) (ex_move _) ?_
        simp only [pS, pN, pA, pC, pZ]
        refine doN (wanted_no rfl rfl rfl (c := true) rfl (by decide)) ?_
        simp only [pS, pN, pA, pC, pZ]
        refine doN (wanted_no rfl rfl rfl (c := true) rfl (by decide)) ?_
        simp only [pS, pN, pA, pC, pZ]
        refine doN (wanted_no rfl rfl rfl (c := true) rfl (by decide)) ?_
        simp only [pS, pN, pA, pC, pZ]
        refine doN (wanted_no rfl rfl rfl (c := true) rfl (by decide)) ?_
        simp only [pS, pN, pA, pC, pZ]
        refine do_ rfl (.bool true) (ex_pick (b := true) rfl) ?_
        simp only [pS, pN, pA, pC, pZ]
        refine do_ rfl (.bool true) (ex_pick (b := true) rfl) ?_
        simp only [pS, pN, pA, pC, pZ]
        refine do_ rfl (.bool true) (ex_move _) ?_
        simp only [pS, pN, pA, pC, pZ]
        refine doN (wanted_no rfl rfl rfl (c := true) rfl (by decide)) ?_
        simp only [pS, pN, pA, pC, pZ]
        refine doN (wanted_no rfl rfl rfl (c := true) rfl (by decide)) ?_
        simp only [pS, pN, pA, pC, pZ]
        refine doN (wanted_no rfl rfl rfl (c := true) rfl (by decide)) ?_
        simp only [pS, pN, pA, pC, pZ]
        refine doN (wanted_no rfl rfl rfl (c := true) rfl (by decide)) ?_
        simp only [pS, pN, pA, pC, pZ]
        refine doN (wanted_un rfl rfl rfl rfl) ?_
        simp only [pS, pN, pA, pC, pZ]
        refine doN (wanted_un rfl rfl rfl rfl) ?_
        simp only [pS, pN, pA, pC, pZ]
        refine doN (wanted_un rfl rfl rfl rfl) ?_
        simp only [pS, pN, pA, pC, pZ]
        refine doN (wanted_no rfl rfl rfl (c := true) rfl (by decide)) ?_
        simp only [pS, pN, pA, pC, pZ]
        refine do_ rfl (.bool true) (ex_pick (b := true) rfl) ?_
        simp only [pS, pN, pA, pC, pZ]
        refine wl_nil (hK60 _ _ ?_)
        refine wp_cond_true rfl ?_
        refine wp_seq_k (fun K68 hK68 => region_wl ?_)
        refine do_ rfl (.int .i64 4) (ex_assign _) ?_
        simp only [pS, pN, pA, pC, pZ]
        refine wl_nil (hK68 _ _ ?_)
        refine wp_ret ?_
        (try simp only [Exit.then, Exit.inBlock, ↓reduceIte, Nat.reduceEqDiff])
        refine bodyPost_ret (v := (.int .i64 4)) ?_ rfl ?_
        ·exact res_t rfl rfl
        ·have hfin : checkA a = (4 : Int) := by
          unfold checkA
          (repeat split) <;> first | rfl | omega
         rw [hfin]
         exact ⟨rfl, S4.gr.below⟩
end Go.Proofs.YtajmjolgphadoaaDoor
