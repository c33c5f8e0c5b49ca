/- The walk of LinesFixed -/
import Derived.Test.YtajmjolgphadoaaDoorCN6
namespace Go.Proofs.YtajmjolgphadoaaDoor
open Go.RowKit
set_option maxRecDepth 100000
set_option linter.unusedVariables false
set_option linter.unusedSimpArgs false
set_option maxHeartbeats 8000000 in
theorem linesFixed_walk (W : World) (hT : Laid W) (hW : WordsL W) (t : By) :
    Calls Tryd.prog 5 #[strV t] W (Tells W (.bool true)) := by
 have S := St.start (Sat.whole W)
 go_enter Tryd.func5, Tryd.ntmps5
 refine wp_seq_k (fun K101 hK101 => region_wl ?_)
 refine do_ rfl (.bool false) (ex_assign _) ?_
 simp only [pS, pN, pA, pC, pZ]
 refine wl_nil (hK101 _ _ ?_)
 refine wp_seq_k (fun K102 hK102 => region_wl ?_)
 refine do_ rfl (.string ⟨t.toArray⟩) (ex_move _) ?_
 simp only [pS, pN, pA, pC, pZ]
 refine stGives S rfl (ex_fn (vs := #[(.string ⟨t.toArray⟩)]) (map1 rfl) rfl (ent_15 _ _)) (read_spec W hT hW _ (S.gr.le (Sat.whole W)) _ t (S).sat) ?_
 intro v108 w103 F105 S104 le106 R107
 obtain ⟨ys, yi, ye, sv, rfl, hrd, hys⟩ := R107
 obtain ⟨sa109, sc110, rfl, _, hyl⟩ := Sl.shape hys
 unfold maxLen at hyl
 simp only [pS, pN, pA, pC, pZ]
 refine do_ rfl (.tuple #[(.slice sa109 ys.length sc110), (.int .i64 ((yi : Nat) : Int)), (.int .i64 ye)]) (ex_move _) ?_
 simp only [pS, pN, pA, pC, pZ]
 refine do_ rfl (.slice sa109 ys.length sc110) (ex_extract rfl rfl) ?_
 simp only [pS, pN, pA, pC, pZ]
 refine do_ rfl (.int .i64 ((yi : Nat) : Int)) (ex_extract rfl rfl) ?_
 simp only [pS, pN, pA, pC, pZ]
 refine do_ rfl (.int .i64 ye) (ex_extract rfl rfl) ?_
 simp only [pS, pN, pA, pC, pZ]
 refine do_ rfl (.slice sa109 ys.length sc110) (ex_assign _) ?_
 simp only [pS, pN, pA, pC, pZ]
 refine do_ rfl (.int .i64 ((yi : Nat) : Int)) (ex_assign _) ?_
 simp only [pS, pN, pA, pC, pZ]
 refine do_ rfl (.int .i64 ye) (ex_assign _) ?_
 simp only [pS, pN, pA, pC, pZ]
 refine wl_nil (hK102 _ _ ?_)
 refine wp_seq_k (fun K111 hK111 => ?_)
 refine wp_seq_k (fun K112 hK112 => region_wl ?_)
 refine do_ rfl (.int .i64 ye) (ex_move _) ?_
 simp only [pS, pN, pA, pC, pZ]
 by_cases hc16 : ye = (0 : Int)
 ·refine do_ rfl (.bool false) (ex_neq (m := ye) (n := (0 : Int)) (b := false) rfl rfl (bne_eq_false_iff_eq.2 (by omega))) ?_
  simp only [pS, pN, pA, pC, pZ]
  refine wl_nil (hK112 _ _ ?_)
  refine wp_cond_false rfl ?_
  refine wp_skip ?_
  refine hK111 _ _ ?_
  refine wp_seq_k (fun K113 hK113 => ?_)
  rw [hc16] at hrd
  obtain ⟨hy0, hok, hzl, hfl, htl⟩ := read_ok hrd
  refine region_wl ?_
  refine do_ rfl (.slice sa109 ys.length sc110) (ex_move _) ?_
  simp only [pS, pN, pA, pC, pZ]
  refine stTells (v := (.tuple #[(.string ⟨(flatA ys).toArray⟩), (.int .i64 0), (.int .i64 0)])) S104 rfl (ex_fn (vs := #[(.slice sa109 ys.length sc110)]) (map1 rfl) rfl (ent_14 _ _)) (show_spec W hT hW _ (S104.gr.le (Sat.whole W)) _ _ ys (S104).sat hys hok (hzl) (by rw [hfl]; omega)) (fun w114 S115 => ?_)
  simp only [pS, pN, pA, pC, pZ]
  refine do_ rfl (.tuple #[(.string ⟨(flatA ys).toArray⟩), (.int .i64 0), (.int .i64 0)]) (ex_move _) ?_
  simp only [pS, pN, pA, pC, pZ]
  refine do_ rfl (.string ⟨(flatA ys).toArray⟩) (ex_extract rfl rfl) ?_
  simp only [pS, pN, pA, pC, pZ]
  refine do_ rfl (.int .i64 0) (ex_extract rfl rfl) ?_
  simp only [pS, pN, pA, pC, pZ]
  refine do_ rfl (.int .i64 0) (ex_extract rfl rfl) ?_
  simp only [pS, pN, pA, pC, pZ]
  refine do_ rfl (.string ⟨(flatA ys).toArray⟩) (ex_assign _) ?_
  simp only [pS, pN, pA, pC, pZ]
  refine do_ rfl (.int .i64 0) (ex_assign _) ?_
  simp only [pS, pN, pA, pC, pZ]
  refine do_ rfl (.int .i64 0) (ex_assign _) ?_
  simp only [pS, pN, pA, pC, pZ]
  refine wl_nil (hK113 _ _ ?_)
  refine wp_seq_k (fun K116 hK116 => region_wl ?_)
  refine do_ rfl (.int .i64 0) (ex_move _) ?_
  simp only [pS, pN, pA, pC, pZ]
  refine do_ rfl (.bool true) (ex_eql (m := (0 : Int)) (n := (0 : Int)) (b := true) rfl rfl (beq_iff_eq.2 (rfl))) ?_
  simp only [pS, pN, pA, pC, pZ]
  refine do_ rfl (.bool true) (ex_move _) ?_
  simp only [pS, pN, pA, pC, pZ]
  refine do_ rfl (.string ⟨(flatA ys).toArray⟩) (ex_move _) ?_
  simp only [pS, pN, pA, pC, pZ]
  refine do_ rfl (.string ⟨t.toArray⟩) (ex_move _) ?_
  simp only [pS, pN, pA, pC, pZ]
  refine do_ rfl (.bool true) (ex_strop (op := .eql) (l := (flatA ys)) (m := t) (b := true) (by simp) rfl rfl (show (flatA ys == t) = true from by simp [hfl])) ?_
  simp only [pS, pN, pA, pC, pZ]
  refine do_ rfl (.bool true) (ex_pick (b := true) rfl) ?_
  simp only [pS, pN, pA, pC, pZ]
  refine do_ rfl (.bool true) (ex_move _) ?_
  simp only [pS, pN, pA, pC, pZ]
  refine do_ rfl (.int .i64 ((yi : Nat) : Int)) (ex_move _) ?_
  simp only [pS, pN, pA, pC, pZ]
  refine do_ rfl (.bool true) (ex_eql (m := ((yi : Nat) : Int)) (n := (0 : Int)) (b := true) rfl rfl (beq_iff_eq.2 (by omega))) ?_
  simp only [pS, pN, pA, pC, pZ]
  refine do_ rfl (.bool true) (ex_pick (b := true) rfl) ?_
  simp only [pS, pN, pA, pC, pZ]
  refine do_ rfl (.bool true) (ex_move _) ?_
  simp only [pS, pN, pA, pC, pZ]
  refine do_ rfl (.int .i64 0) (ex_move _) ?_
  simp only [pS, pN, pA, pC, pZ]
  refine do_ rfl (.bool true) (ex_eql (m := (0 : Int)) (n := (0 : Int)) (b := true) rfl rfl (beq_iff_eq.2 (by omega))) ?_
  simp only [pS, pN, pA, pC, pZ]
  refine do_ rfl (.bool true) (ex_pick (b := true) rfl) ?_
  simp only [pS, pN, pA, pC, pZ]
  refine do_ rfl (.bool true) (ex_assign _) ?_
  simp only [pS, pN, pA, pC, pZ]
  refine wl_nil (hK116 _ _ ?_)
  refine wp_ret ?_
  (try simp only [Exit.then, Exit.inBlock, ↓reduceIte, Nat.reduceEqDiff])
  refine bodyPost_ret (v := (.bool true)) ?_ rfl ?_
  ·exact res_t rfl rfl
  ·exact ⟨rfl, S115.gr.below⟩
 ·refine do_ rfl (.bool true) (ex_neq (m := ye) (n := (0 : Int)) (b := true) rfl rfl (bne_iff_ne.2 (by omega))) ?_
  simp only [pS, pN, pA, pC, pZ]
  refine wl_nil (hK112 _ _ ?_)
  refine wp_cond_true rfl ?_
  refine wp_seq_k (fun K117 hK117 => ?_)
  have hz0 : ys.length = 0 := by rw [read_bad hrd hc16]; rfl
  refine region_wl ?_
  refine do_ rfl (.slice sa109 ys.length sc110) (ex_move _) ?_
  simp only [pS, pN, pA, pC, pZ]
  refine do_ rfl (.int .i64 ((ys.length : Nat) : Int)) (ex_len Tryd.underlying43 rfl) ?_
  simp only [pS, pN, pA, pC, pZ]
  refine do_ rfl (.bool true) (ex_eql (m := ((ys.length : Nat) : Int)) (n := (0 : Int)) (b := true) rfl rfl (beq_iff_eq.2 (by omega))) ?_
  simp only [pS, pN, pA, pC, pZ]
  refine do_ rfl (.bool true) (ex_move _) ?_
  simp only [pS, pN, pA, pC, pZ]
  refine do_ rfl (.int .i64 ((yi : Nat) : Int)) (ex_move _) ?_
  simp only [pS, pN, pA, pC, pZ]
  refine do_ rfl (.bool true) (ex_geq (m := ((yi : Nat) : Int)) (n := (0 : Int)) (b := true) rfl rfl (decide_eq_true (by omega))) ?_
  simp only [pS, pN, pA, pC, pZ]
  refine do_ rfl (.bool true) (ex_pick (b := true) rfl) ?_
  simp only [pS, pN, pA, pC, pZ]
  refine do_ rfl (.bool true) (ex_assign _) ?_
  simp only [pS, pN, pA, pC, pZ]
  refine wl_nil (hK117 _ _ ?_)
  refine wp_ret ?_
  (try simp only [Exit.then, Exit.inBlock, ↓reduceIte, Nat.reduceEqDiff])
  refine bodyPost_ret (v := (.bool true)) ?_ rfl ?_
  ·exact res_t rfl rfl
  ·exact ⟨rfl, S104.gr.below⟩
end Go.Proofs.YtajmjolgphadoaaDoor
