/- Rules, plain laws and walks: X1 X2 -/
import Derived.Test.YtcpngkkconalhaaBU8
namespace Go.Proofs.Ytcpngkkconalhaa
open Go.RowKit
set_option maxRecDepth 100000
set_option linter.unusedVariables false
set_option linter.unusedSimpArgs false
set_option maxHeartbeats 8000000 in
theorem bytesEqual_spec (F : Fz) (w : World) (v u : Value) (l m : By) (hs : Sat w F) (hv : Bs F v l) (hu : Bs F u m) :
    Calls Try.prog 87 #[v, u] w (Tells w (.bool (l == m))) := by
 obtain ⟨a, c, rfl, _⟩ := hv.shape
 obtain ⟨a2, c2, rfl, _⟩ := hu.shape
 have S := St.start hs
 go_enter Try.func87, Try.ntmps87
 refine wp_seq_k (fun K1 hK1 => region_wl ?_)
 refine do_ rfl (.bool false) (ex_assign _) ?_
 simp only [pS, pN, pA, pC, pZ]
 refine wl_nil (hK1 _ _ ?_)
 refine wp_seq_k (fun K2 hK2 => region_wl ?_)
 refine do_ rfl (.slice a l.length c) (ex_move _) ?_
 simp only [pS, pN, pA, pC, pZ]
 refine do_ rfl (.string ⟨l.toArray⟩) (ex_convert (v := (.slice a l.length c)) rfl (run_string Try.underlying25 Try.underlying5 Try.underlying9 (S).sat hv)) ?_
 simp only [pS, pN, pA, pC, pZ]
 refine do_ rfl (.slice a2 m.length c2) (ex_move _) ?_
 simp only [pS, pN, pA, pC, pZ]
 refine do_ rfl (.string ⟨m.toArray⟩) (ex_convert (v := (.slice a2 m.length c2)) rfl (run_string Try.underlying25 Try.underlying5 Try.underlying9 (S).sat hu)) ?_
 simp only [pS, pN, pA, pC, pZ]
 refine do_ rfl (.bool (l == m)) (ex_strop (op := .eql) (l := l) (m := m) (b := (l == m)) (by simp) rfl rfl (rfl)) ?_
 simp only [pS, pN, pA, pC, pZ]
 refine do_ rfl (.bool (l == m)) (ex_assign _) ?_
 simp only [pS, pN, pA, pC, pZ]
 refine wl_nil (hK2 _ _ ?_)
 refine wp_ret ?_
 (try simp only [Exit.then, Exit.inBlock, ↓reduceIte, Nat.reduceEqDiff])
 refine bodyPost_ret (v := (.bool (l == m))) ?_ rfl ?_
 ·exact res_t rfl rfl
 ·exact ⟨rfl, S.gr.below⟩
set_option maxHeartbeats 8000000 in
theorem samePlace_spec (F : Fz) (w : World) (v u : Value) (p q : Wr) (hs : Sat w F) (hv : WrV F v p) (hu : WrV F u q) :
    Calls Try.prog 78 #[v, u] w (Tells w (.bool (samePl p q))) := by
 obtain ⟨x0, x1, x2, x3, x4, x5, rfl, h0, h1, h3⟩ := hv
 obtain ⟨y0, y1, y2, y3, y4, y5, rfl, k0, k1, k3⟩ := hu
 have S := St.start hs
 go_enter Try.func78, Try.ntmps78
 refine wp_seq_k (fun K1 hK1 => region_wl ?_)
 refine stNew S (v := fun n => .pointer (some ⟨n, 0, none⟩)) rfl (ex_box (v := (.agg #[(.slice x0 p.name.length x1), (.slice x2 p.key.length x3), (.bool p.gone), (.slice x4 p.value.length x5)])) rfl) (fun n2 w3 S4 => ?_)
 simp only [pS, pN, pA, pC, pZ]
 have S4 : St w F w3 F [⟨n2, [(.slice x0 p.name.length x1), (.slice x2 p.key.length x3), (.bool p.gone), (.slice x4 p.value.length x5)], 27⟩] [] := S4
 refine stNew S4 (v := fun n => .pointer (some ⟨n, 0, none⟩)) rfl (ex_box (v := (.agg #[(.slice y0 q.name.length y1), (.slice y2 q.key.length y3), (.bool q.gone), (.slice y4 q.value.length y5)])) rfl) (fun n5 w6 S7 => ?_)
 simp only [pS, pN, pA, pC, pZ]
 have S7 : St w F w6 F [⟨n5, [(.slice y0 q.name.length y1), (.slice y2 q.key.length y3), (.bool q.gone), (.slice y4 q.value.length y5)], 27⟩, ⟨n2, [(.slice x0 p.name.length x1), (.slice x2 p.key.length x3), (.bool p.gone), (.slice x4 p.value.length x5)], 27⟩] [] := S7
 refine do_ rfl (.bool false) (ex_assign _) ?_
 simp only [pS, pN, pA, pC, pZ]
 refine wl_nil (hK1 _ _ ?_)
 refine wp_seq_k (fun K8 hK8 => ?_)
 by_cases e1 : p.name = q.name
 ·refine region_wl ?_
  refine do_ rfl (.pointer (some ⟨n2, 0, none⟩)) (ex_field (q := ⟨n2, 0, none⟩) rfl (fa_27_0 _ _)) ?_
  simp only [pS, pN, pA, pC, pZ]
  refine do_ rfl (.slice x0 p.name.length x1) (ex_load rfl (load1 (nagg_25 _) (St.cell S7 (i := 1) rfl rfl))) ?_
  simp only [pS, pN, pA, pC, pZ]
  refine do_ rfl (.pointer (some ⟨n5, 0, none⟩)) (ex_field (q := ⟨n5, 0, none⟩) rfl (fa_27_0 _ _)) ?_
  simp only [pS, pN, pA, pC, pZ]
  refine do_ rfl (.slice y0 q.name.length y1) (ex_load rfl (load1 (nagg_25 _) (St.cell S7 (i := 0) rfl rfl))) ?_
  simp only [pS, pN, pA, pC, pZ]
  refine stTells (v := (.bool true)) S7 rfl (ex_fn (vs := #[(.slice x0 p.name.length x1), (.slice y0 q.name.length y1)]) (map2 rfl rfl) rfl (ent_87 _ _)) (tells_bool (bytesEqual_spec _ _ _ _ p.name q.name (S7).sat h0 k0) (beq_iff_eq.2 (e1))) (fun w9 S10 => ?_)
  simp only [pS, pN, pA, pC, pZ]
  refine do_ rfl (.bool true) (ex_move _) ?_
  simp only [pS, pN, pA, pC, pZ]
  refine do_ rfl (.pointer (some ⟨n2, 1, none⟩)) (ex_field (q := ⟨n2, 1, none⟩) rfl (fa_27_1 _ _)) ?_
  simp only [pS, pN, pA, pC, pZ]
  refine do_ rfl (.slice x2 p.key.length x3) (ex_load rfl (load1 (nagg_25 _) (St.cell S10 (i := 1) rfl rfl))) ?_
  simp only [pS, pN, pA, pC, pZ]
  refine do_ rfl (.pointer (some ⟨n5, 1, none⟩)) (ex_field (q := ⟨n5, 1, none⟩) rfl (fa_27_1 _ _)) ?_
  simp only [pS, pN, pA, pC, pZ]
  refine do_ rfl (.slice y2 q.key.length y3) (ex_load rfl (load1 (nagg_25 _) (St.cell S10 (i := 0) rfl rfl))) ?_
  simp only [pS, pN, pA, pC, pZ]
  refine stTells (v := (.bool (p.key == q.key))) S10 rfl (ex_fn (vs := #[(.slice x2 p.key.length x3), (.slice y2 q.key.length y3)]) (map2 rfl rfl) rfl (ent_87 _ _)) (bytesEqual_spec _ _ _ _ p.key q.key (S10).sat h1 k1) (fun w11 S12 => ?_)
  simp only [pS, pN, pA, pC, pZ]
  refine do_ rfl (.bool (p.key == q.key)) (ex_pick (b := true) rfl) ?_
  simp only [pS, pN, pA, pC, pZ]
  refine do_ rfl (.bool (p.key == q.key)) (ex_assign _) ?_
  simp only [pS, pN, pA, pC, pZ]
  refine wl_nil (hK8 _ _ ?_)
  refine wp_ret ?_
  (try simp only [Exit.then, Exit.inBlock, ↓reduceIte, Nat.reduceEqDiff])
  refine bodyPost_ret (v := (.bool (p.key == q.key))) ?_ rfl ?_
  ·exact res_t rfl rfl
  ·exact ⟨by unfold samePl; rw [beq_iff_eq.2 e1]; rfl, S12.gr.below⟩
 ·refine region_wl ?_
  refine do_ rfl (.pointer (some ⟨n2, 0, none⟩)) (ex_field (q := ⟨n2, 0, none⟩) rfl (fa_27_0 _ _)) ?_
  simp only [pS, pN, pA, pC, pZ]
  refine do_ rfl (.slice x0 p.name.length x1) (ex_load rfl (load1 (nagg_25 _) (St.cell S7 (i := 1) rfl rfl))) ?_
  simp only [pS, pN, pA, pC, pZ]
  refine do_ rfl (.pointer (some ⟨n5, 0, none⟩)) (ex_field (q := ⟨n5, 0, none⟩) rfl (fa_27_0 _ _)) ?_
  simp only [pS, pN, pA, pC, pZ]
  refine do_ rfl (.slice y0 q.name.length y1) (ex_load rfl (load1 (nagg_25 _) (St.cell S7 (i := 0) rfl rfl))) ?_
  simp only [pS, pN, pA, pC, pZ]
  refine stTells (v := (.bool false)) S7 rfl (ex_fn (vs := #[(.slice x0 p.name.length x1), (.slice y0 q.name.length y1)]) (map2 rfl rfl) rfl (ent_87 _ _)) (tells_bool (bytesEqual_spec _ _ _ _ p.name q.name (S7).sat h0 k0) (beq_eq_false_iff_ne.2 (e1))) (fun w13 S14 => ?_)
  simp only [pS, pN, pA, pC, pZ]
  refine do_ rfl (.bool false) (ex_move _) ?_
  simp only [pS, pN, pA, pC, pZ]
  refine doN (wanted_no rfl rfl rfl (c := false) rfl (by decide)) ?_
  simp only [pS, pN, pA, pC, pZ]
  refine doN (wanted_no rfl rfl rfl (c := false) rfl (by decide)) ?_
  simp only [pS, pN, pA, pC, pZ]
  refine doN (wanted_no rfl rfl rfl (c := false) rfl (by decide)) ?_
  simp only [pS, pN, pA, pC, pZ]
  refine doN (wanted_no rfl rfl rfl (c := false) rfl (by decide)) ?_
  simp only [pS, pN, pA, pC, pZ]
  refine doN (wanted_no rfl rfl rfl (c := false) rfl (by decide)) ?_
  simp only [pS, pN, pA, pC, pZ]
  refine do_ rfl (.bool false) (ex_pick (b := false) rfl) ?_
  simp only [pS, pN, pA, pC, pZ]
  refine do_ rfl (.bool false) (ex_assign _) ?_
  simp only [pS, pN, pA, pC, pZ]
  refine wl_nil (hK8 _ _ ?_)
  refine wp_ret ?_
  (try simp only [Exit.then, Exit.inBlock, ↓reduceIte, Nat.reduceEqDiff])
  refine bodyPost_ret (v := (.bool false)) ?_ rfl ?_
  ·exact res_t rfl rfl
  ·exact ⟨by unfold samePl; rw [beq_eq_false_iff_ne.2 e1]; rfl, S14.gr.below⟩
set_option maxHeartbeats 8000000 in
theorem sameRead_spec (F : Fz) (w : World) (v u : Value) (p q : Rd) (hs : Sat w F) (hv : RdV F v p) (hu : RdV F u q) :
    Calls Try.prog 82 #[v, u] w (Tells w (.bool (decide (p = q)))) := by
 obtain ⟨x0, x1, x2, x3, x4, x5, rfl, h0, h1, h3⟩ := hv
 obtain ⟨y0, y1, y2, y3, y4, y5, rfl, k0, k1, k3⟩ := hu
 have S := St.start hs
 go_enter Try.func82, Try.ntmps82
 refine wp_seq_k (fun K1 hK1 => region_wl ?_)
 refine stNew S (v := fun n => .pointer (some ⟨n, 0, none⟩)) rfl (ex_box (v := (.agg #[(.slice x0 p.name.length x1), (.slice x2 p.key.length x3), (.bool p.wide), (.slice x4 p.last.length x5)])) rfl) (fun n2 w3 S4 => ?_)
 simp only [pS, pN, pA, pC, pZ]
 have S4 : St w F w3 F [⟨n2, [(.slice x0 p.name.length x1), (.slice x2 p.key.length x3), (.bool p.wide), (.slice x4 p.last.length x5)], 83⟩] [] := S4
 refine stNew S4 (v := fun n => .pointer (some ⟨n, 0, none⟩)) rfl (ex_box (v := (.agg #[(.slice y0 q.name.length y1), (.slice y2 q.key.length y3), (.bool q.wide), (.slice y4 q.last.length y5)])) rfl) (fun n5 w6 S7 => ?_)
 simp only [pS, pN, pA, pC, pZ]
 have S7 : St w F w6 F [⟨n5, [(.slice y0 q.name.length y1), (.slice y2 q.key.length y3), (.bool q.wide), (.slice y4 q.last.length y5)], 83⟩, ⟨n2, [(.slice x0 p.name.length x1), (.slice x2 p.key.length x3), (.bool p.wide), (.slice x4 p.last.length x5)], 83⟩] [] := S7
 refine do_ rfl (.bool false) (ex_assign _) ?_
 simp only [pS, pN, pA, pC, pZ]
 refine wl_nil (hK1 _ _ ?_)
 refine wp_seq_k (fun K8 hK8 => ?_)
 by_cases e0 : p.wide = q.wide
 ·by_cases e1 : p.name = q.name
  ·by_cases e2 : p.key = q.key
   ·refine region_wl ?_
    refine do_ rfl (.pointer (some ⟨n2, 2, none⟩)) (ex_field (q := ⟨n2, 2, none⟩) rfl (fa_83_2 _ _)) ?_
    simp only [pS, pN, pA, pC, pZ]
    refine do_ rfl (.bool p.wide) (ex_load rfl (load1 (nagg_4 _) (St.cell S7 (i := 1) rfl rfl))) ?_
    simp only [pS, pN, pA, pC, pZ]
    refine do_ rfl (.pointer (some ⟨n5, 2, none⟩)) (ex_field (q := ⟨n5, 2, none⟩) rfl (fa_83_2 _ _)) ?_
    simp only [pS, pN, pA, pC, pZ]
    refine do_ rfl (.bool q.wide) (ex_load rfl (load1 (nagg_4 _) (St.cell S7 (i := 0) rfl rfl))) ?_
    simp only [pS, pN, pA, pC, pZ]
    refine do_ rfl (.bool true) (ex_eqlB Try.underlying4 rfl rfl (beq_iff_eq.2 e0)) ?_
    simp only [pS, pN, pA, pC, pZ]
    refine do_ rfl (.bool true) (ex_move _) ?_
    simp only [pS, pN, pA, pC, pZ]
    refine do_ rfl (.pointer (some ⟨n2, 0, none⟩)) (ex_field (q := ⟨n2, 0, none⟩) rfl (fa_83_0 _ _)) ?_
    simp only [pS, pN, pA, pC, pZ]
    refine do_ rfl (.slice x0 p.name.length x1) (ex_load rfl (load1 (nagg_25 _) (St.cell S7 (i := 1) rfl rfl))) ?_
    simp only [pS, pN, pA, pC, pZ]
    refine do_ rfl (.pointer (some ⟨n5, 0, none⟩)) (ex_field (q := ⟨n5, 0, none⟩) rfl (fa_83_0 _ _)) ?_
    simp only [pS, pN, pA, pC, pZ]
    refine do_ rfl (.slice y0 q.name.length y1) (ex_load rfl (load1 (nagg_25 _) (St.cell S7 (i := 0) rfl rfl))) ?_
    simp only [pS, pN, pA, pC, pZ]
    refine stTells (v := (.bool true)) S7 rfl (ex_fn (vs := #[(.slice x0 p.name.length x1), (.slice y0 q.name.length y1)]) (map2 rfl rfl) rfl (ent_87 _ _)) (tells_bool (bytesEqual_spec _ _ _ _ p.name q.name (S7).sat h0 k0) (beq_iff_eq.2 (e1))) (fun w9 S10 => ?_)
    simp only [pS, pN, pA, pC, pZ]
    refine do_ rfl (.bool true) (ex_pick (b := true) rfl) ?_
    simp only [pS, pN, pA, pC, pZ]
    refine do_ rfl (.bool true) (ex_move _) ?_
    simp only [pS, pN, pA, pC, pZ]
    refine do_ rfl (.pointer (some ⟨n2, 1, none⟩)) (ex_field (q := ⟨n2, 1, none⟩) rfl (fa_83_1 _ _)) ?_
    simp only [pS, pN, pA, pC, pZ]
    refine do_ rfl (.slice x2 p.key.length x3) (ex_load rfl (load1 (nagg_25 _) (St.cell S10 (i := 1) rfl rfl))) ?_
    simp only [pS, pN, pA, pC, pZ]
    refine do_ rfl (.pointer (some ⟨n5, 1, none⟩)) (ex_field (q := ⟨n5, 1, none⟩) rfl (fa_83_1 _ _)) ?_
    simp only [pS, pN, pA, pC, pZ]
    refine do_ rfl (.slice y2 q.key.length y3) (ex_load rfl (load1 (nagg_25 _) (St.cell S10 (i := 0) rfl rfl))) ?_
    simp only [pS, pN, pA, pC, pZ]
    refine stTells (v := (.bool true)) S10 rfl (ex_fn (vs := #[(.slice x2 p.key.length x3), (.slice y2 q.key.length y3)]) (map2 rfl rfl) rfl (ent_87 _ _)) (tells_bool (bytesEqual_spec _ _ _ _ p.key q.key (S10).sat h1 k1) (beq_iff_eq.2 (e2))) (fun w11 S12 => ?_)
    simp only [pS, pN, pA, pC, pZ]
    refine do_ rfl (.bool true) (ex_pick (b := true) rfl) ?_
    simp only [pS, pN, pA, pC, pZ]
    refine do_ rfl (.bool true) (ex_move _) ?_
    simp only [pS, pN, pA, pC, pZ]
    refine do_ rfl (.pointer (some ⟨n2, 3, none⟩)) (ex_field (q := ⟨n2, 3, none⟩) rfl (fa_83_3 _ _)) ?_
    simp only [pS, pN, pA, pC, pZ]
    refine do_ rfl (.slice x4 p.last.length x5) (ex_load rfl (load1 (nagg_25 _) (St.cell S12 (i := 1) rfl rfl))) ?_
    simp only [pS, pN, pA, pC, pZ]
    refine do_ rfl (.pointer (some ⟨n5, 3, none⟩)) (ex_field (q := ⟨n5, 3, none⟩) rfl (fa_83_3 _ _)) ?_
    simp only [pS, pN, pA, pC, pZ]
    refine do_ rfl (.slice y4 q.last.length y5) (ex_load rfl (load1 (nagg_25 _) (St.cell S12 (i := 0) rfl rfl))) ?_
    simp only [pS, pN, pA, pC, pZ]
    refine stTells (v := (.bool (p.last == q.last))) S12 rfl (ex_fn (vs := #[(.slice x4 p.last.length x5), (.slice y4 q.last.length y5)]) (map2 rfl rfl) rfl (ent_87 _ _)) (bytesEqual_spec _ _ _ _ p.last q.last (S12).sat h3 k3) (fun w13 S14 => ?_)
    simp only [pS, pN, pA, pC, pZ]
    refine do_ rfl (.bool (p.last == q.last)) (ex_pick (b := true) rfl) ?_
    simp only [pS, pN, pA, pC, pZ]
    refine do_ rfl (.bool (p.last == q.last)) (ex_assign _) ?_
    simp only [pS, pN, pA, pC, pZ]
    refine wl_nil (hK8 _ _ ?_)
    refine wp_ret ?_
    (try simp only [Exit.then, Exit.inBlock, ↓reduceIte, Nat.reduceEqDiff])
    refine bodyPost_ret (v := (.bool (p.last == q.last))) ?_ rfl ?_
    ·exact res_t rfl rfl
    ·exact ⟨by rw [show decide (p = q) = (p.last == q.last) from by rw [Bool.eq_iff_iff, decide_eq_true_iff, beq_iff_eq]; exact ⟨fun e => by rw [e], fun e => by cases p; cases q; simp_all⟩], S14.gr.below⟩
   ·refine region_wl ?_
    refine do_ rfl (.pointer (some ⟨n2, 2, none⟩)) (ex_field (q := ⟨n2, 2, none⟩) rfl (fa_83_2 _ _)) ?_
    simp only [pS, pN, pA, pC, pZ]
    refine do_ rfl (.bool p.wide) (ex_load rfl (load1 (nagg_4 _) (St.cell S7 (i := 1) rfl rfl))) ?_
    simp only [pS, pN, pA, pC, pZ]
    refine do_ rfl (.pointer (some ⟨n5, 2, none⟩)) (ex_field (q := ⟨n5, 2, none⟩) rfl (fa_83_2 _ _)) ?_
    simp only [pS, pN, pA, pC, pZ]
    refine do_ rfl (.bool q.wide) (ex_load rfl (load1 (nagg_4 _) (St.cell S7 (i := 0) rfl rfl))) ?_
    simp only [pS, pN, pA, pC, pZ]
    refine do_ rfl (.bool true) (ex_eqlB Try.underlying4 rfl rfl (beq_iff_eq.2 e0)) ?_
    simp only [pS, pN, pA, pC, pZ]
    refine do_ rfl (.bool true) (ex_move _) ?_
    simp only [pS, pN, pA, pC, pZ]
    refine do_ rfl (.pointer (some ⟨n2, 0, none⟩)) (ex_field (q := ⟨n2, 0, none⟩) rfl (fa_83_0 _ _)) ?_
    simp only [pS, pN, pA, pC, pZ]
    refine do_ rfl (.slice x0 p.name.length x1) (ex_load rfl (load1 (nagg_25 _) (St.cell S7 (i := 1) rfl rfl))) ?_
    simp only [pS, pN, pA, pC, pZ]
    refine do_ rfl (.pointer (some ⟨n5, 0, none⟩)) (ex_field (q := ⟨n5, 0, none⟩) rfl (fa_83_0 _ _)) ?_
    simp only [pS, pN, pA, pC, pZ]
    refine do_ rfl (.slice y0 q.name.length y1) (ex_load rfl (load1 (nagg_25 _) (St.cell S7 (i := 0) rfl rfl))) ?_
    simp only [pS, pN, pA, pC, pZ]
    refine stTells (v := (.bool true)) S7 rfl (ex_fn (vs := #[(.slice x0 p.name.length x1), (.slice y0 q.name.length y1)]) (map2 rfl rfl) rfl (ent_87 _ _)) (tells_bool (bytesEqual_spec _ _ _ _ p.name q.name (S7).sat h0 k0) (beq_iff_eq.2 (e1))) (fun w15 S16 => ?_)
    simp only [pS, pN, pA, pC, pZ]
    refine do_ rfl (.bool true) (ex_pick (b := true) rfl) ?_
    simp only [pS, pN, pA, pC, pZ]
    refine do_ rfl (.bool true) (ex_move _) ?_
    simp only [pS, pN, pA, pC, pZ]
    refine do_ rfl (.pointer (some ⟨n2, 1, none⟩)) (ex_field (q := ⟨n2, 1, none⟩) rfl (fa_83_1 _ _)) ?_
    simp only [pS, pN, pA, pC, pZ]
    refine do_ rfl (.slice x2 p.key.length x3) (ex_load rfl (load1 (nagg_25 _) (St.cell S16 (i := 1) rfl rfl))) ?_
    simp only [pS, pN, pA, pC, pZ]
    refine do_ rfl (.pointer (some ⟨n5, 1, none⟩)) (ex_field (q := ⟨n5, 1, none⟩) rfl (fa_83_1 _ _)) ?_
    simp only [pS, pN, pA, pC, pZ]
    refine do_ rfl (.slice y2 q.key.length y3) (ex_load rfl (load1 (nagg_25 _) (St.cell S16 (i := 0) rfl rfl))) ?_
    simp only [pS, pN, pA, pC, pZ]
    refine stTells (v := (.bool false)) S16 rfl (ex_fn (vs := #[(.slice x2 p.key.length x3), (.slice y2 q.key.length y3)]) (map2 rfl rfl) rfl (ent_87 _ _)) (tells_bool (bytesEqual_spec _ _ _ _ p.key q.key (S16).sat h1 k1) (beq_eq_false_iff_ne.2 (e2))) (fun w17 S18 => ?_)
    simp only [pS, pN, pA, pC, pZ]
    refine do_ rfl (.bool false) (ex_pick (b := true) rfl) ?_
    simp only [pS, pN, pA, pC, pZ]
    refine do_ rfl (.bool false) (ex_move _) ?_
    simp only [pS, pN, pA, pC, pZ]
    refine doN (wanted_no rfl rfl rfl (c := false) rfl (by decide)) ?_
    simp only [pS, pN, pA, pC, pZ]
    refine doN (wanted_no rfl rfl rfl (c := false) rfl (by decide)) ?_
    simp only [pS, pN, pA, pC, pZ]
    refine doN (wanted_no rfl rfl rfl (c := false) rfl (by decide)) ?_
    simp only [pS, pN, pA, pC, pZ]
    refine doN (wanted_no rfl rfl rfl (c := false) rfl (by decide)) ?_
    simp only [pS, pN, pA, pC, pZ]
    refine doN (wanted_no rfl rfl rfl (c := false) rfl (by decide)) ?_
    simp only [pS, pN, pA, pC, pZ]
    refine do_ rfl (.bool false) (ex_pick (b := false) rfl) ?_
    simp only [pS, pN, pA, pC, pZ]
    refine do_ rfl (.bool false) (ex_assign _) ?_
    simp only [pS, pN, pA, pC, pZ]
    refine wl_nil (hK8 _ _ ?_)
    refine wp_ret ?_
    (try simp only [Exit.then, Exit.inBlock, ↓reduceIte, Nat.reduceEqDiff])
    refine bodyPost_ret (v := (.bool false)) ?_ rfl ?_
    ·exact res_t rfl rfl
    ·exact ⟨by rw [decide_eq_false (fun e => e2 (by rw [e]))], S18.gr.below⟩
  ·refine region_wl ?_
   refine do_ rfl (.pointer (some ⟨n2, 2, none⟩)) (ex_field (q := ⟨n2, 2, none⟩) rfl (fa_83_2 _ _)) ?_
   simp only [pS, pN, pA, pC, pZ]
   refine do_ rfl (.bool p.wide) (ex_load rfl (load1 (nagg_4 _) (St.cell S7 (i := 1) rfl rfl))) ?_
   simp only [pS, pN, pA, pC, pZ]
   refine do_ rfl (.pointer (some ⟨n5, 2, none⟩)) (ex_field (q := ⟨n5, 2, none⟩) rfl (fa_83_2 _ _)) ?_
   simp only [pS, pN, pA, pC, pZ]
   refine do_ rfl (.bool q.wide) (ex_load rfl (load1 (nagg_4 _) (St.cell S7 (i := 0) rfl rfl))) ?_
   simp only [pS, pN, pA, pC, pZ]
   refine do_ rfl (.bool true) (ex_eqlB Try.underlying4 rfl rfl (beq_iff_eq.2 e0)) ?_
   simp only [pS, pN, pA, pC, pZ]
   refine do_ rfl (.bool true) (ex_move _) ?_
   simp only [pS, pN, pA, pC, pZ]
   refine do_ rfl (.pointer (some ⟨n2, 0, none⟩)) (ex_field (q := ⟨n2, 0, none⟩) rfl (fa_83_0 _ _)) ?_
   simp only [pS, pN, pA, pC, pZ]
   refine do_ rfl (.slice x0 p.name.length x1) (ex_load rfl (load1 (nagg_25 _) (St.cell S7 (i := 1) rfl rfl))) ?_
   simp only [pS, pN, pA, pC, pZ]
   refine do_ rfl (.pointer (some ⟨n5, 0, none⟩)) (ex_field (q := ⟨n5, 0, none⟩) rfl (fa_83_0 _ _)) ?_
   simp only [pS, pN, pA, pC, pZ]
   refine do_ rfl (.slice y0 q.name.length y1) (ex_load rfl (load1 (nagg_25 _) (St.cell S7 (i := 0) rfl rfl))) ?_
   simp only [pS, pN, pA, pC, pZ]
   refine stTells (v := (.bool false)) S7 rfl (ex_fn (vs := #[(.slice x0 p.name.length x1), (.slice y0 q.name.length y1)]) (map2 rfl rfl) rfl (ent_87 _ _)) (tells_bool (bytesEqual_spec _ _ _ _ p.name q.name (S7).sat h0 k0) (beq_eq_false_iff_ne.2 (e1))) (fun w19 S20 => ?_)
   simp only [pS, pN, pA, pC, pZ]
   refine do_ rfl (.bool false) (ex_pick (b := true) rfl) ?_
   simp only [pS, pN, pA, pC, pZ]
   refine do_ rfl (.bool false) (ex_move _) ?_
   simp only [pS, pN, pA, pC, pZ]
   refine doN (wanted_no rfl rfl rfl (c := false) rfl (by decide)) ?_
   simp only [pS, pN, pA, pC, pZ]
   refine doN (wanted_no rfl rfl rfl (c := false) rfl (by decide)) ?_
   simp only [pS, pN, pA, pC, pZ]
   refine doN (wanted_no rfl rfl rfl (c := false) rfl (by decide)) ?_
   simp only [pS, pN, pA, pC, pZ]
   refine doN (wanted_no rfl rfl rfl (c := false) rfl (by decide)) ?_
   simp only [pS, pN, pA, pC, pZ]
   refine doN (wanted_no rfl rfl rfl (c := false) rfl (by decide)) ?_
   simp only [pS, pN, pA, pC, pZ]
   refine do_ rfl (.bool false) (ex_pick (b := false) rfl) ?_
   simp only [pS, pN, pA, pC, pZ]
   refine do_ rfl (.bool false) (ex_move _) ?_
   simp only [pS, pN, pA, pC, pZ]
   refine doN (wanted_no rfl rfl rfl (c := false) rfl (by decide)) ?_
   simp only [pS, pN, pA, pC, pZ]
   refine doN (wanted_no rfl rfl rfl (c := false) rfl (by decide)) ?_
   simp only [pS, pN, pA, pC, pZ]
   refine doN (wanted_no rfl rfl rfl (c := false) rfl (by decide)) ?_
   simp only [pS, pN, pA, pC, pZ]
   refine doN (wanted_no rfl rfl rfl (c := false) rfl (by decide)) ?_
   simp only [pS, pN, pA, pC, pZ]
   refine doN (wanted_no rfl rfl rfl (c := false) rfl (by decide)) ?_
   simp only [pS, pN, pA, pC, pZ]
   refine do_ rfl (.bool false) (ex_pick (b := false) rfl) ?_
   simp only [pS, pN, pA, pC, pZ]
   refine do_ rfl (.bool false) (ex_assign _) ?_
   simp only [pS, pN, pA, pC, pZ]
   refine wl_nil (hK8 _ _ ?_)
   refine wp_ret ?_
   (try simp only [Exit.then, Exit.inBlock, ↓reduceIte, Nat.reduceEqDiff])
   refine bodyPost_ret (v := (.bool false)) ?_ rfl ?_
   ·exact res_t rfl rfl
   ·exact ⟨by rw [decide_eq_false (fun e => e1 (by rw [e]))], S20.gr.below⟩
 ·refine region_wl ?_
  refine do_ rfl (.pointer (some ⟨n2, 2, none⟩)) (ex_field (q := ⟨n2, 2, none⟩) rfl (fa_83_2 _ _)) ?_
  simp only [pS, pN, pA, pC, pZ]
  refine do_ rfl (.bool p.wide) (ex_load rfl (load1 (nagg_4 _) (St.cell S7 (i := 1) rfl rfl))) ?_
  simp only [pS, pN, pA, pC, pZ]
  refine do_ rfl (.pointer (some ⟨n5, 2, none⟩)) (ex_field (q := ⟨n5, 2, none⟩) rfl (fa_83_2 _ _)) ?_
  simp only [pS, pN, pA, pC, pZ]
  refine do_ rfl (.bool q.wide) (ex_load rfl (load1 (nagg_4 _) (St.cell S7 (i := 0) rfl rfl))) ?_
  simp only [pS, pN, pA, pC, pZ]
  refine do_ rfl (.bool false) (ex_eqlB Try.underlying4 rfl rfl (beq_eq_false_iff_ne.2 e0)) ?_
  simp only [pS, pN, pA, pC, pZ]
  refine do_ rfl (.bool false) (ex_move _) ?_
  simp only [pS, pN, pA, pC, pZ]
  refine doN (wanted_no rfl rfl rfl (c := false) rfl (by decide)) ?_
  simp only [pS, pN, pA, pC, pZ]
  refine doN (wanted_no rfl rfl rfl (c := false) rfl (by decide)) ?_
  simp only [pS, pN, pA, pC, pZ]
  refine doN (wanted_no rfl rfl rfl (c := false) rfl (by decide)) ?_
  simp only [pS, pN, pA, pC, pZ]
  refine doN (wanted_no rfl rfl rfl (c := false) rfl (by decide)) ?_
  simp only [pS, pN, pA, pC, pZ]
  refine doN (wanted_no rfl rfl rfl (c := false) rfl (by decide)) ?_
  simp only [pS, pN, pA, pC, pZ]
  refine do_ rfl (.bool false) (ex_pick (b := false) rfl) ?_
  simp only [pS, pN, pA, pC, pZ]
  refine do_ rfl (.bool false) (ex_move _) ?_
  simp only [pS, pN, pA, pC, pZ]
  refine doN (wanted_no rfl rfl rfl (c := false) rfl (by decide)) ?_
  simp only [pS, pN, pA, pC, pZ]
  refine doN (wanted_no rfl rfl rfl (c := false) rfl (by decide)) ?_
  simp only [pS, pN, pA, pC, pZ]
  refine doN (wanted_no rfl rfl rfl (c := false) rfl (by decide)) ?_
  simp only [pS, pN, pA, pC, pZ]
  refine doN (wanted_no rfl rfl rfl (c := false) rfl (by decide)) ?_
  simp only [pS, pN, pA, pC, pZ]
  refine doN (wanted_no rfl rfl rfl (c := false) rfl (by decide)) ?_
  simp only [pS, pN, pA, pC, pZ]
  refine do_ rfl (.bool false) (ex_pick (b := false) rfl) ?_
  simp only [pS, pN, pA, pC, pZ]
  refine do_ rfl (.bool false) (ex_move _) ?_
  simp only [pS, pN, pA, pC, pZ]
  refine doN (wanted_no rfl rfl rfl (c := false) rfl (by decide)) ?_
  simp only [pS, pN, pA, pC, pZ]
  refine doN (wanted_no rfl rfl rfl (c := false) rfl (by decide)) ?_
  simp only [pS, pN, pA, pC, pZ]
  refine doN (wanted_no rfl rfl rfl (c := false) rfl (by decide)) ?_
  simp only [pS, pN, pA, pC, pZ]
  refine doN (wanted_no rfl rfl rfl (c := false) rfl (by decide)) ?_
  simp only [pS, pN, pA, pC, pZ]
  refine doN (wanted_no rfl rfl rfl (c := false) rfl (by decide)) ?_
  simp only [pS, pN, pA, pC, pZ]
  refine do_ rfl (.bool false) (ex_pick (b := false) rfl) ?_
  simp only [pS, pN, pA, pC, pZ]
  refine do_ rfl (.bool false) (ex_assign _) ?_
  simp only [pS, pN, pA, pC, pZ]
  refine wl_nil (hK8 _ _ ?_)
  refine wp_ret ?_
  (try simp only [Exit.then, Exit.inBlock, ↓reduceIte, Nat.reduceEqDiff])
  refine bodyPost_ret (v := (.bool false)) ?_ rfl ?_
  ·exact res_t rfl rfl
  ·exact ⟨by rw [decide_eq_false (fun e => e0 (by rw [e]))], S7.gr.below⟩
/-- What is wrong with a read. -/
def rdE (r : Rd) : Int := if nameN r.name.length ≠ 0 then nameN r.name.length else if checkN r.key.length ≠ 0 then checkN r.key.length else if r.wide = true then checkN r.last.length else if 0 < r.last.length then 4 else 0
set_option maxHeartbeats 8000000 in
theorem shape_spec (F : Fz) (w : World) (v : Value) (r : Rd) (hs : Sat w F) (hv : RdV F v r) :
    Calls Try.prog 79 #[v] w (Tells w (.int .i64 (rdE r))) := by
 obtain ⟨x0, x1, x2, x3, x4, x5, rfl, h0, h1, h3⟩ := hv
 have S := St.start hs
 go_enter Try.func79, Try.ntmps79
 refine wp_seq_k (fun K1 hK1 => region_wl ?_)
 refine stNew S (v := fun n => .pointer (some ⟨n, 0, none⟩)) rfl (ex_box (v := (.agg #[(.slice x0 r.name.length x1), (.slice x2 r.key.length x3), (.bool r.wide), (.slice x4 r.last.length x5)])) rfl) (fun n2 w3 S4 => ?_)
 simp only [pS, pN, pA, pC, pZ]
 have S4 : St w F w3 F [⟨n2, [(.slice x0 r.name.length x1), (.slice x2 r.key.length x3), (.bool r.wide), (.slice x4 r.last.length x5)], 83⟩] [] := S4
 refine do_ rfl (.int .i64 0) (ex_assign _) ?_
 simp only [pS, pN, pA, pC, pZ]
 refine wl_nil (hK1 _ _ ?_)
 refine wp_seq_k (fun K5 hK5 => ?_)
 refine wp_seq_k (fun K6 hK6 => region_wl ?_)
 refine do_ rfl (.pointer (some ⟨n2, 0, none⟩)) (ex_field (q := ⟨n2, 0, none⟩) rfl (fa_83_0 _ _)) ?_
 simp only [pS, pN, pA, pC, pZ]
 refine do_ rfl (.slice x0 r.name.length x1) (ex_load rfl (load1 (nagg_25 _) (St.cell S4 (i := 0) rfl rfl))) ?_
 simp only [pS, pN, pA, pC, pZ]
 refine stTells (v := (.int .i64 (nameN r.name.length))) S4 rfl (ex_fn (vs := #[(.slice x0 r.name.length x1)]) (map1 rfl) rfl (ent_69 _ _)) (tells_same (name_len _ _ _ _)) (fun w7 S8 => ?_)
 simp only [pS, pN, pA, pC, pZ]
 refine do_ rfl (.int .i64 (nameN r.name.length)) (ex_assign _) ?_
 simp only [pS, pN, pA, pC, pZ]
 refine wl_nil (hK6 _ _ ?_)
 refine wp_seq_k (fun K9 hK9 => region_wl ?_)
 refine do_ rfl (.int .i64 (nameN r.name.length)) (ex_move _) ?_
 simp only [pS, pN, pA, pC, pZ]
 by_cases hc9 : (nameN r.name.length) = (0 : Int)
 ·refine do_ rfl (.bool false) (ex_neq (m := (nameN r.name.length)) (n := (0 : Int)) (b := false) rfl rfl (bne_eq_false_iff_eq.2 (by omega))) ?_
  simp only [pS, pN, pA, pC, pZ]
  refine wl_nil (hK9 _ _ ?_)
  refine wp_cond_false rfl ?_
  refine wp_skip ?_
  refine hK5 _ _ ?_
  refine wp_seq_k (fun K10 hK10 => ?_)
  refine wp_seq_k (fun K11 hK11 => region_wl ?_)
  refine do_ rfl (.pointer (some ⟨n2, 1, none⟩)) (ex_field (q := ⟨n2, 1, none⟩) rfl (fa_83_1 _ _)) ?_
  simp only [pS, pN, pA, pC, pZ]
  refine do_ rfl (.slice x2 r.key.length x3) (ex_load rfl (load1 (nagg_25 _) (St.cell S8 (i := 0) rfl rfl))) ?_
  simp only [pS, pN, pA, pC, pZ]
  refine stTells (v := (.int .i64 (checkN r.key.length))) S8 rfl (ex_fn (vs := #[(.slice x2 r.key.length x3)]) (map1 rfl) rfl (ent_53 _ _)) (tells_same (check_spec _ _ _ r.key h1)) (fun w12 S13 => ?_)
  simp only [pS, pN, pA, pC, pZ]
  refine do_ rfl (.int .i64 (checkN r.key.length)) (ex_assign _) ?_
  simp only [pS, pN, pA, pC, pZ]
  refine wl_nil (hK11 _ _ ?_)
  refine wp_seq_k (fun K14 hK14 => region_wl ?_)
  refine do_ rfl (.int .i64 (checkN r.key.length)) (ex_move _) ?_
  simp only [pS, pN, pA, pC, pZ]
  by_cases hc15 : (checkN r.key.length) = (0 : Int)
  ·refine do_ rfl (.bool false) (ex_neq (m := (checkN r.key.length)) (n := (0 : Int)) (b := false) rfl rfl (bne_eq_false_iff_eq.2 (by omega))) ?_
   simp only [pS, pN, pA, pC, pZ]
   refine wl_nil (hK14 _ _ ?_)
   refine wp_cond_false rfl ?_
   refine wp_skip ?_
   refine hK10 _ _ ?_
   refine wp_seq_k (fun K15 hK15 => ?_)
   refine wp_seq_k (fun K16 hK16 => region_wl ?_)
   refine do_ rfl (.pointer (some ⟨n2, 2, none⟩)) (ex_field (q := ⟨n2, 2, none⟩) rfl (fa_83_2 _ _)) ?_
   simp only [pS, pN, pA, pC, pZ]
   refine do_ rfl (.bool r.wide) (ex_load rfl (load1 (nagg_4 _) (St.cell S13 (i := 0) rfl rfl))) ?_
   simp only [pS, pN, pA, pC, pZ]
   refine do_ rfl (.bool (!r.wide)) (ex_not rfl rfl) ?_
   simp only [pS, pN, pA, pC, pZ]
   refine wl_nil (hK16 _ _ ?_)
   refine wp_cond_split rfl (fun hwd => ?_) (fun hwd => ?_)
   ·refine wp_seq_k (fun K17 hK17 => ?_)
    refine wp_seq_k (fun K18 hK18 => region_wl ?_)
    refine do_ rfl (.pointer (some ⟨n2, 3, none⟩)) (ex_field (q := ⟨n2, 3, none⟩) rfl (fa_83_3 _ _)) ?_
    simp only [pS, pN, pA, pC, pZ]
    refine do_ rfl (.slice x4 r.last.length x5) (ex_load rfl (load1 (nagg_25 _) (St.cell S13 (i := 0) rfl rfl))) ?_
    simp only [pS, pN, pA, pC, pZ]
    refine do_ rfl (.int .i64 ((r.last.length : Nat) : Int)) (ex_len Try.underlying25 rfl) ?_
    simp only [pS, pN, pA, pC, pZ]
    by_cases hc23 : 0 < r.last.length
    ·refine do_ rfl (.bool true) (ex_gtr (m := ((r.last.length : Nat) : Int)) (n := (0 : Int)) (b := true) rfl rfl (decide_eq_true (by omega))) ?_
     simp only [pS, pN, pA, pC, pZ]
     refine wl_nil (hK18 _ _ ?_)
     refine wp_cond_true rfl ?_
     refine wp_seq_k (fun K19 hK19 => region_wl ?_)
     refine do_ rfl (.int .i64 4) (ex_assign _) ?_
     simp only [pS, pN, pA, pC, pZ]
     refine wl_nil (hK19 _ _ ?_)
     refine wp_ret ?_
     (try simp only [Exit.then, Exit.inBlock, ↓reduceIte, Nat.reduceEqDiff])
     refine bodyPost_ret (v := (.int .i64 4)) ?_ rfl ?_
     ·exact res_t rfl rfl
     ·exact ⟨by unfold rdE; rw [if_neg (by omega), if_neg (by omega), if_neg (by simpa using hwd), if_pos (by omega)], S13.gr.below⟩
    ·refine do_ rfl (.bool false) (ex_gtr (m := ((r.last.length : Nat) : Int)) (n := (0 : Int)) (b := false) rfl rfl (decide_eq_false (by omega))) ?_
     simp only [pS, pN, pA, pC, pZ]
     refine wl_nil (hK18 _ _ ?_)
     refine wp_cond_false rfl ?_
     refine wp_skip ?_
     refine hK17 _ _ ?_
     refine wp_seq_k (fun K20 hK20 => region_wl ?_)
     refine do_ rfl (.int .i64 0) (ex_assign _) ?_
     simp only [pS, pN, pA, pC, pZ]
     refine wl_nil (hK20 _ _ ?_)
     refine wp_ret ?_
     (try simp only [Exit.then, Exit.inBlock, ↓reduceIte, Nat.reduceEqDiff])
     refine bodyPost_ret (v := (.int .i64 0)) ?_ rfl ?_
     ·exact res_t rfl rfl
     ·exact ⟨by unfold rdE; rw [if_neg (by omega), if_neg (by omega), if_neg (by simpa using hwd), if_neg (by omega)], S13.gr.below⟩
   ·refine wp_skip ?_
    refine hK15 _ _ ?_
    refine wp_seq_k (fun K21 hK21 => region_wl ?_)
    refine do_ rfl (.pointer (some ⟨n2, 3, none⟩)) (ex_field (q := ⟨n2, 3, none⟩) rfl (fa_83_3 _ _)) ?_
    simp only [pS, pN, pA, pC, pZ]
    refine do_ rfl (.slice x4 r.last.length x5) (ex_load rfl (load1 (nagg_25 _) (St.cell S13 (i := 0) rfl rfl))) ?_
    simp only [pS, pN, pA, pC, pZ]
    refine stTells (v := (.int .i64 (checkN r.last.length))) S13 rfl (ex_fn (vs := #[(.slice x4 r.last.length x5)]) (map1 rfl) rfl (ent_53 _ _)) (tells_same (check_spec _ _ _ r.last h3)) (fun w22 S23 => ?_)
    simp only [pS, pN, pA, pC, pZ]
    refine do_ rfl (.int .i64 (checkN r.last.length)) (ex_assign _) ?_
    simp only [pS, pN, pA, pC, pZ]
    refine wl_nil (hK21 _ _ ?_)
    refine wp_ret ?_
    (try simp only [Exit.then, Exit.inBlock, ↓reduceIte, Nat.reduceEqDiff])
    refine bodyPost_ret (v := (.int .i64 (checkN r.last.length))) ?_ rfl ?_
    ·exact res_t rfl rfl
    ·exact ⟨by unfold rdE; rw [if_neg (by omega), if_neg (by omega), if_pos (by simpa using hwd)], S23.gr.below⟩
  ·refine do_ rfl (.bool true) (ex_neq (m := (checkN r.key.length)) (n := (0 : Int)) (b := true) rfl rfl (bne_iff_ne.2 (by omega))) ?_
   simp only [pS, pN, pA, pC, pZ]
   refine wl_nil (hK14 _ _ ?_)
   refine wp_cond_true rfl ?_
   refine wp_seq_k (fun K24 hK24 => region_wl ?_)
   refine do_ rfl (.int .i64 (checkN r.key.length)) (ex_move _) ?_
   simp only [pS, pN, pA, pC, pZ]
   refine do_ rfl (.int .i64 (checkN r.key.length)) (ex_assign _) ?_
   simp only [pS, pN, pA, pC, pZ]
   refine wl_nil (hK24 _ _ ?_)
   refine wp_ret ?_
   (try simp only [Exit.then, Exit.inBlock, ↓reduceIte, Nat.reduceEqDiff])
   refine bodyPost_ret (v := (.int .i64 (checkN r.key.length))) ?_ rfl ?_
   ·exact res_t rfl rfl
   ·exact ⟨by unfold rdE; rw [if_neg (by omega), if_pos hc15], S13.gr.below⟩
 ·refine do_ rfl (.bool true) (ex_neq (m := (nameN r.name.length)) (n := (0 : Int)) (b := true) rfl rfl (bne_iff_ne.2 (by omega))) ?_
  simp only [pS, pN, pA, pC, pZ]
  refine wl_nil (hK9 _ _ ?_)
  refine wp_cond_true rfl ?_
  refine wp_seq_k (fun K25 hK25 => region_wl ?_)
  refine do_ rfl (.int .i64 (nameN r.name.length)) (ex_move _) ?_
  simp only [pS, pN, pA, pC, pZ]
  refine do_ rfl (.int .i64 (nameN r.name.length)) (ex_assign _) ?_
  simp only [pS, pN, pA, pC, pZ]
  refine wl_nil (hK25 _ _ ?_)
  refine wp_ret ?_
  (try simp only [Exit.then, Exit.inBlock, ↓reduceIte, Nat.reduceEqDiff])
  refine bodyPost_ret (v := (.int .i64 (nameN r.name.length))) ?_ rfl ?_
  ·exact res_t rfl rfl
  ·exact ⟨by unfold rdE; rw [if_pos hc9], S8.gr.below⟩
set_option maxHeartbeats 8000000 in
theorem read_spec (F : Fz) (w : World) (v : Value) (r : Rd) (hs : Sat w F) (hv : RdV F v r) (hb0 : r.name.length ≤ 100000) (hb1 : r.key.length ≤ 100000) (hb2 : r.last.length ≤ 100000) :
    Calls Try.prog 83 #[v] w (Gives w F fun F' u => RdV F' u r) := by
 obtain ⟨x0, x1, x2, x3, x4, x5, rfl, h0, h1, h3⟩ := hv
 have S := St.start hs
 go_enter Try.func83, Try.ntmps83
 refine wp_seq_k (fun K1 hK1 => region_wl ?_)
 refine stNew S (v := fun n => .pointer (some ⟨n, 0, none⟩)) rfl (ex_box (v := (.agg #[(.slice x0 r.name.length x1), (.slice x2 r.key.length x3), (.bool r.wide), (.slice x4 r.last.length x5)])) rfl) (fun n2 w3 S4 => ?_)
 simp only [pS, pN, pA, pC, pZ]
 have S4 : St w F w3 F [⟨n2, [(.slice x0 r.name.length x1), (.slice x2 r.key.length x3), (.bool r.wide), (.slice x4 r.last.length x5)], 83⟩] [] := S4
 refine stNew S4 (v := fun n => .pointer (some ⟨n, 0, none⟩)) rfl (ex_alloc (zero_83 _)) (fun n5 w6 S7 => ?_)
 simp only [pS, pN, pA, pC, pZ]
 have S7 : St w F w6 F [⟨n5, [(.slice none 0 0), (.slice none 0 0), (.bool false), (.slice none 0 0)], 83⟩, ⟨n2, [(.slice x0 r.name.length x1), (.slice x2 r.key.length x3), (.bool r.wide), (.slice x4 r.last.length x5)], 83⟩] [] := S7
 refine wl_nil (hK1 _ _ ?_)
 refine wp_seq_k (fun K8 hK8 => ?_)
 refine region_gw F 11 [(2, .made (fun F' u => Bs F' u r.name)), (5, .made (fun F' u => Bs F' u r.key)), (10, .made (fun F' u => Bs F' u r.last))] (by kernel_rfl) (by kernel_rfl) ?_
 simp only [List.take_succ_cons, List.take_zero]
 refine gw_pure rfl rfl (.pointer (some ⟨n2, 0, none⟩)) (fun w9 hCw9 => pureAt_of (ex_field (q := ⟨n2, 0, none⟩) rfl (fa_83_0 _ _))) ?_
 simp only [pS, pN, pA, pC, pZ]
 refine gw_pure rfl rfl (.slice x0 r.name.length x1) (fun w9 hCw9 => pureAt_of (ex_load rfl (load1 (nagg_25 _) (St.cell (St.tells S7 hCw9) (i := 1) rfl rfl)))) ?_
 simp only [pS, pN, pA, pC, pZ]
 refine gw_rel rfl rfl (fun w9 hCw9 hF => does_call (ex_fn (vs := #[(.slice x0 r.name.length x1)]) (map1 rfl) rfl (ent_60 _ _)) (call_made S7.sat hCw9 (clone_spec _ _ _ r.name ((St.tells S7 hCw9)).sat h0 (by omega)))) (fun v10 => ?_)
 simp only [pS, pN, pA, pC, pZ]
 refine gw_pure rfl rfl (.pointer (some ⟨n2, 1, none⟩)) (fun w9 hCw9 => pureAt_of (ex_field (q := ⟨n2, 1, none⟩) rfl (fa_83_1 _ _))) ?_
 simp only [pS, pN, pA, pC, pZ]
 refine gw_pure rfl rfl (.slice x2 r.key.length x3) (fun w9 hCw9 => pureAt_of (ex_load rfl (load1 (nagg_25 _) (St.cell (St.tells S7 hCw9) (i := 1) rfl rfl)))) ?_
 simp only [pS, pN, pA, pC, pZ]
 refine gw_rel rfl rfl (fun w9 hCw9 hF => does_call (ex_fn (vs := #[(.slice x2 r.key.length x3)]) (map1 rfl) rfl (ent_60 _ _)) (call_made S7.sat hCw9 (clone_spec _ _ _ r.key ((St.tells S7 hCw9)).sat h1 (by omega)))) (fun v11 => ?_)
 simp only [pS, pN, pA, pC, pZ]
 refine gw_pure rfl rfl (.pointer (some ⟨n2, 2, none⟩)) (fun w9 hCw9 => pureAt_of (ex_field (q := ⟨n2, 2, none⟩) rfl (fa_83_2 _ _))) ?_
 simp only [pS, pN, pA, pC, pZ]
 refine gw_pure rfl rfl (.bool r.wide) (fun w9 hCw9 => pureAt_of (ex_load rfl (load1 (nagg_4 _) (St.cell (St.tells S7 hCw9) (i := 1) rfl rfl)))) ?_
 simp only [pS, pN, pA, pC, pZ]
 refine gw_pure rfl rfl (.pointer (some ⟨n2, 3, none⟩)) (fun w9 hCw9 => pureAt_of (ex_field (q := ⟨n2, 3, none⟩) rfl (fa_83_3 _ _))) ?_
 simp only [pS, pN, pA, pC, pZ]
 refine gw_pure rfl rfl (.slice x4 r.last.length x5) (fun w9 hCw9 => pureAt_of (ex_load rfl (load1 (nagg_25 _) (St.cell (St.tells S7 hCw9) (i := 1) rfl rfl)))) ?_
 simp only [pS, pN, pA, pC, pZ]
 refine gw_rel rfl rfl (fun w9 hCw9 hF => does_call (ex_fn (vs := #[(.slice x4 r.last.length x5)]) (map1 rfl) rfl (ent_60 _ _)) (call_made S7.sat hCw9 (clone_spec _ _ _ r.last ((St.tells S7 hCw9)).sat h3 (by omega)))) (fun v12 => ?_)
 simp only [pS, pN, pA, pC, pZ]
 refine gw_nil ?_
 intro w13 hC15 hF16
 obtain ⟨F17, g18, R19⟩ := hF16.get 2 rfl rfl
 obtain ⟨F20, g21, R22⟩ := hF16.get 5 rfl rfl
 obtain ⟨F23, g24, R25⟩ := hF16.get 10 rfl rfl
 have S14 := St.gives S7 ((g18.both g21).both g24)
 have le27 : Le _ _ := ((g18.both g21).both g24).le S7.sat
 have R28 := (R19.mono ((both_left F17 F20).trans (both_left (both F17 F20) F23)))
 have R29 := (R22.mono ((both_right g18.sat g21.sat).trans (both_left (both F17 F20) F23)))
 have R30 := (R25.mono (both_right (g18.both g21).sat g24.sat))
 generalize (both (both F17 F20) F23) = F26 at *
 obtain ⟨xa31, xc32, rfl, _⟩ := R28.shape
 obtain ⟨xa33, xc34, rfl, _⟩ := R29.shape
 obtain ⟨xa35, xc36, rfl, _⟩ := R30.shape
 clear hF16
 simp only [List.drop_succ_cons, List.drop_zero]
 refine do_ rfl (.agg #[(.slice xa31 r.name.length xc32), (.slice xa33 r.key.length xc34), (.bool r.wide), (.slice xa35 r.last.length xc36)]) (ex_build (ps := #[(0, (.slice xa31 r.name.length xc32)), (1, (.slice xa33 r.key.length xc34)), (2, (.bool r.wide)), (3, (.slice xa35 r.last.length xc36))]) (bmap4 rfl rfl rfl rfl) (by kernel_rfl)) ?_
 simp only [pS, pN, pA, pC, pZ]
 refine stStore (i := 0) (v := (.agg #[(.slice xa31 r.name.length xc32), (.slice xa33 r.key.length xc34), (.bool r.wide), (.slice xa35 r.last.length xc36)])) S14 rfl rfl rfl rfl (size_83) (allc4 rfl rfl rfl rfl) (Nat.le_of_ble_eq_true rfl) (fun w37 S38 => ?_)
 simp only [pS, pN, pA, pC, pZ]
 have S38 : St w F w37 F26 [⟨n5, [(.slice xa31 r.name.length xc32), (.slice xa33 r.key.length xc34), (.bool r.wide), (.slice xa35 r.last.length xc36)], 83⟩, ⟨n2, [(.slice x0 r.name.length x1), (.slice x2 r.key.length x3), (.bool r.wide), (.slice x4 r.last.length x5)], 83⟩] [] := S38
 refine wl_nil (hK8 _ _ ?_)
 refine wp_ret ?_
 (try simp only [Exit.then, Exit.inBlock, ↓reduceIte, Nat.reduceEqDiff])
 refine bodyPost_ret (v := (.agg #[(.slice xa31 r.name.length xc32), (.slice xa33 r.key.length xc34), (.bool r.wide), (.slice xa35 r.last.length xc36)])) ?_ rfl ?_
 ·exact res_c rfl ⟨_, rfl, loadN (cs := [(.slice xa31 r.name.length xc32), (.slice xa33 r.key.length xc34), (.bool r.wide), (.slice xa35 r.last.length xc36)]) Try.underlying83 rfl (size_83) (St.range S38 (i := 0) rfl 0 [(.slice xa31 r.name.length xc32), (.slice xa33 r.key.length xc34), (.bool r.wide), (.slice xa35 r.last.length xc36)] (sub_range 0 rfl))⟩
 ·exact ⟨_, _, rfl, S38.gr, _, _, _, _, _, _, rfl, R28, R29, R30⟩
set_option maxHeartbeats 8000000 in
theorem txnWritesO_spec (F : Fz) (w : World) (v : Value) (ws : List Wr) (hs : Sat w F) (hv : Wrs F v ws) (hl : ws.length ≤ 100000) (hb : ∀ r ∈ ws, r.name.length ≤ 100000 ∧ r.key.length ≤ 100000 ∧ r.value.length ≤ 100000) :
    Calls Try.prog 75 #[v] w (GivesO w F 4 WrC 27 ws) := by
 obtain ⟨a, c, rfl, hc1, hc2⟩ := Sl.shape hv
 unfold maxLen at hc2
 obtain ⟨i27, hi27, hz27, hs27, hb27⟩ := info_parts info_27
 have S := St.start hs
 go_enter Try.func75, Try.ntmps75
 refine wp_seq_k (fun K1 hK1 => region_wl ?_)
 refine do_ rfl (.slice none 0 0) (ex_assign _) ?_
 simp only [pS, pN, pA, pC, pZ]
 refine wl_nil (hK1 _ _ ?_)
 refine wp_seq_k (fun K2 hK2 => region_wl ?_)
 refine do_ rfl (.slice none 0 0) (ex_assign _) ?_
 simp only [pS, pN, pA, pC, pZ]
 refine wl_nil (hK2 _ _ ?_)
 refine wp_seq_k (fun K3 hK3 => ?_)
 refine wp_seq_k (fun K4 hK4 => region_wl ?_)
 refine do_ rfl (.slice a ws.length c) (ex_move _) ?_
 simp only [pS, pN, pA, pC, pZ]
 refine do_ rfl (.int .i64 ((ws.length : Nat) : Int)) (ex_len Try.underlying44 rfl) ?_
 simp only [pS, pN, pA, pC, pZ]
 refine do_ rfl (.int .i64 0) (ex_move _) ?_
 simp only [pS, pN, pA, pC, pZ]
 refine wl_nil (hK4 _ _ ?_)
 refine wp_block ?_
 have S5 := St.addNil S 4 WrC WrC.mono 27 w.heap.size
 refine wp_loop_g (fun mm aa w8 => ∃ (k : Nat) (v : Value) (F6 : Fz) (u7 : Nat → Value), mm = ws.length - k ∧ u7 = slots aa ∧ aa = ⟨#[(.slice a ws.length c), undef, (.slice none 0 0), v, undef, (u7 5), (.slice a ws.length c), (.int .i64 ((ws.length : Nat) : Int)), (.int .i64 ((k : Nat) : Int)), (u7 9), (u7 10), (u7 11), (u7 12), (u7 13), (u7 14), (u7 15), (u7 16), (u7 17), (u7 18), (u7 19), (u7 20), (u7 21), (u7 22), (u7 23), (u7 24), (u7 25), (u7 26), (u7 27), undef], []⟩ ∧ St w F w8 F6 [] [ownP 4 WrC WrC.mono 27 w.heap.size v (ws.take k)] ∧ Le F F6 ∧ (k ≤ ws.length)) _ ⟨0, (.slice none 0 0), F, _, rfl, rfl, rfl, S5, Le.refl _, (by omega)⟩ ?_
 rintro m9 a10 w11 ⟨k, v, F6, u7, rfl, -, rfl, S12, le13, hk⟩ K14 hK14
 refine wp_seq_k (fun K15 hK15 => region_wl ?_)
 by_cases hc9 : k < ws.length
 ·refine do_ rfl (.bool true) (ex_lss (m := ((k : Nat) : Int)) (n := ((ws.length : Nat) : Int)) (b := true) rfl rfl (decide_eq_true (by omega))) ?_
  simp only [pS, pN, pA, pC, pZ]
  refine wl_nil (hK15 _ _ ?_)
  refine wp_seq_k (fun K16 hK16 => ?_)
  refine wp_cond_true rfl ?_
  refine wp_skip ?_
  refine hK16 _ _ ?_
  refine wp_seq_k (fun K17 hK17 => ?_)
  refine wp_block ?_
  refine wp_seq_k (fun K18 hK18 => ?_)
  obtain ⟨p, hp⟩ : ∃ p, ws[k]? = some p := ⟨ws[k], List.getElem?_eq_getElem hc9⟩
  obtain ⟨hb0, hb1, hb2⟩ := hb p (List.mem_of_getElem? hp)
  have htk : (ws.take k).length = k := by rw [List.length_take]; omega
  obtain ⟨b19, o20, ha21, xa23, xc24, xa27, xc28, xa32, xc33, c22, c26, c30, c31, r25, r29, r34⟩ := Wrs.get (hv.mono le13) hp
  refine region_wl ?_
  refine do_ rfl (.pointer (some ⟨b19, o20 + k * 4, none⟩)) (ex_at (i := k) (sz := 4) Try.underlying44 (sizeof_27 _) rfl ha21 rfl (by omega) rfl) ?_
  simp only [pS, pN, pA, pC, pZ]
  refine do_ rfl (.agg #[(.slice xa23 p.name.length xc24), (.slice xa27 p.key.length xc28), (.bool p.gone), (.slice xa32 p.value.length xc33)]) (ex_load rfl (loadN (cs := [(.slice xa23 p.name.length xc24), (.slice xa27 p.key.length xc28), (.bool p.gone), (.slice xa32 p.value.length xc33)]) Try.underlying27 rfl (size_27) (range4 (St.fz S12 c22) (St.fz S12 c26) (St.fz S12 c30) (St.fz S12 c31)))) ?_
  simp only [pS, pN, pA, pC, pZ]
  refine stNew S12 (v := fun n => .pointer (some ⟨n, 0, none⟩)) rfl (ex_alloc (zero_27 _)) (fun n35 w36 S37 => ?_)
  simp only [pS, pN, pA, pC, pZ]
  have S37 : St w F w36 F6 [⟨n35, [(.slice none 0 0), (.slice none 0 0), (.bool false), (.slice none 0 0)], 27⟩] [ownP 4 WrC WrC.mono 27 w.heap.size v (ws.take k)] := S37
  refine stStore (i := 0) (v := (.agg #[(.slice xa23 p.name.length xc24), (.slice xa27 p.key.length xc28), (.bool p.gone), (.slice xa32 p.value.length xc33)])) S37 rfl rfl rfl rfl (size_27) (allc4 rfl rfl rfl rfl) (Nat.le_of_ble_eq_true rfl) (fun w38 S39 => ?_)
  simp only [pS, pN, pA, pC, pZ]
  have S39 : St w F w38 F6 [⟨n35, [(.slice xa23 p.name.length xc24), (.slice xa27 p.key.length xc28), (.bool p.gone), (.slice xa32 p.value.length xc33)], 27⟩] [ownP 4 WrC WrC.mono 27 w.heap.size v (ws.take k)] := S39
  refine wl_nil (hK18 _ _ ?_)
  refine region_gw F6 14 [(3, .made (fun F' u => Bs F' u p.name)), (6, .made (fun F' u => Bs F' u p.key)), (11, .made (fun F' u => Bs F' u p.value)), (12, .made (fun F' u => WrV F' u (⟨p.name, p.key, p.gone, p.value⟩ : Wr))), (13, .made (fun F' u => Wrs F' u [(⟨p.name, p.key, p.gone, p.value⟩ : Wr)]))] (by kernel_rfl) (by kernel_rfl) ?_
  simp only [List.take_succ_cons, List.take_zero]
  refine gw_pure rfl rfl v (fun w40 hCw40 => pureAt_of (ex_move _)) ?_
  simp only [pS, pN, pA, pC, pZ]
  refine gw_pure rfl rfl (.pointer (some ⟨n35, 0, none⟩)) (fun w40 hCw40 => pureAt_of (ex_field (q := ⟨n35, 0, none⟩) rfl (fa_27_0 _ _))) ?_
  simp only [pS, pN, pA, pC, pZ]
  refine gw_pure rfl rfl (.slice xa23 p.name.length xc24) (fun w40 hCw40 => pureAt_of (ex_load rfl (load1 (nagg_25 _) (St.cell (St.tells S39 hCw40) (i := 0) rfl rfl)))) ?_
  simp only [pS, pN, pA, pC, pZ]
  refine gw_rel rfl rfl (fun w40 hCw40 hF => does_call (ex_fn (vs := #[(.slice xa23 p.name.length xc24)]) (map1 rfl) rfl (ent_60 _ _)) (call_made S39.sat hCw40 (clone_spec _ _ _ p.name ((St.tells S39 hCw40)).sat r25 (by omega)))) (fun v41 => ?_)
  simp only [pS, pN, pA, pC, pZ]
  refine gw_pure rfl rfl (.pointer (some ⟨n35, 1, none⟩)) (fun w40 hCw40 => pureAt_of (ex_field (q := ⟨n35, 1, none⟩) rfl (fa_27_1 _ _))) ?_
  simp only [pS, pN, pA, pC, pZ]
  refine gw_pure rfl rfl (.slice xa27 p.key.length xc28) (fun w40 hCw40 => pureAt_of (ex_load rfl (load1 (nagg_25 _) (St.cell (St.tells S39 hCw40) (i := 0) rfl rfl)))) ?_
  simp only [pS, pN, pA, pC, pZ]
  refine gw_rel rfl rfl (fun w40 hCw40 hF => does_call (ex_fn (vs := #[(.slice xa27 p.key.length xc28)]) (map1 rfl) rfl (ent_60 _ _)) (call_made S39.sat hCw40 (clone_spec _ _ _ p.key ((St.tells S39 hCw40)).sat r29 (by omega)))) (fun v42 => ?_)
  simp only [pS, pN, pA, pC, pZ]
  refine gw_pure rfl rfl (.pointer (some ⟨n35, 2, none⟩)) (fun w40 hCw40 => pureAt_of (ex_field (q := ⟨n35, 2, none⟩) rfl (fa_27_2 _ _))) ?_
  simp only [pS, pN, pA, pC, pZ]
  refine gw_pure rfl rfl (.bool p.gone) (fun w40 hCw40 => pureAt_of (ex_load rfl (load1 (nagg_4 _) (St.cell (St.tells S39 hCw40) (i := 0) rfl rfl)))) ?_
  simp only [pS, pN, pA, pC, pZ]
  refine gw_pure rfl rfl (.pointer (some ⟨n35, 3, none⟩)) (fun w40 hCw40 => pureAt_of (ex_field (q := ⟨n35, 3, none⟩) rfl (fa_27_3 _ _))) ?_
  simp only [pS, pN, pA, pC, pZ]
  refine gw_pure rfl rfl (.slice xa32 p.value.length xc33) (fun w40 hCw40 => pureAt_of (ex_load rfl (load1 (nagg_25 _) (St.cell (St.tells S39 hCw40) (i := 0) rfl rfl)))) ?_
  simp only [pS, pN, pA, pC, pZ]
  refine gw_rel rfl rfl (fun w40 hCw40 hF => does_call (ex_fn (vs := #[(.slice xa32 p.value.length xc33)]) (map1 rfl) rfl (ent_60 _ _)) (call_made S39.sat hCw40 (clone_spec _ _ _ p.value ((St.tells S39 hCw40)).sat r34 (by omega)))) (fun v43 => ?_)
  simp only [pS, pN, pA, pC, pZ]
  refine gw_rel rfl rfl (fun w40 hCw40 hF_ => ?_) (fun v44 => ?_)
  ·obtain ⟨F45, g46, R47⟩ := hF_.get 3 (by kernel_rfl) rfl rfl
   obtain ⟨F50, g51, R52⟩ := hF_.get 6 (by kernel_rfl) rfl rfl
   obtain ⟨F55, g56, R57⟩ := hF_.get 11 (by kernel_rfl) rfl rfl
   have hR0 := (R47.mono ((both_left F45 F50).trans (both_left (both F45 F50) F55)))
   obtain ⟨xa60, xc61, rfl, _⟩ := hR0.shape
   have hR1 := (R52.mono ((both_right g46.sat g51.sat).trans (both_left (both F45 F50) F55)))
   obtain ⟨xa62, xc63, rfl, _⟩ := hR1.shape
   have hR3 := (R57.mono (both_right (g46.both g51).sat g56.sat))
   obtain ⟨xa64, xc65, rfl, _⟩ := hR3.shape
   exact does_val (ex_build (bmap4 rfl rfl rfl rfl) (by kernel_rfl)) ⟨(both (both F45 F50) F55), ((g46.both g51).both g56), ⟨_, _, _, _, _, _, rfl, hR0, hR1, hR3⟩⟩ (Below.refl _ _)
  simp only [pS, pN, pA, pC, pZ]
  refine gw_rel rfl rfl (fun w40 hCw40 hF_ => ?_) (fun v78 => ?_)
  ·obtain ⟨F75, g76, R77⟩ := hF_.get 12 (by kernel_rfl) rfl rfl
   obtain ⟨xa66, xc67, xa69, xc70, xa72, xc73, rfl, r68, r71, r74⟩ := R77
   exact does_lit (k := 4) (R := WrC) (hR := WrC.mono) (p := (⟨p.name, p.key, p.gone, p.value⟩ : Wr)) (cs := [.slice xa66 _ xc67, .slice xa69 _ xc70, _, .slice xa72 _ xc73]) (E := 27) g76 ⟨_, _, _, _, rfl, r68, r71, rfl, r74⟩ rfl (ex_lit (E := 27) (cells := #[.slice xa66 _ xc67, .slice xa69 _ xc70, _, .slice xa72 _ xc73]) (bmap1 rfl) (fun w => by kernel_rfl))
  simp only [pS, pN, pA, pC, pZ]
  refine gw_nil ?_
  intro w79 hC81 hF82
  obtain ⟨F83, g84, R85⟩ := hF82.get 13 rfl rfl
  have S80 := St.gives S39 g84
  have le87 : Le _ _ := g84.le S39.sat
  have R88 := R85
  generalize F83 = F86 at *
  obtain ⟨xa89, xc90, rfl, _⟩ := Sl.shape R88
  clear hF82
  simp only [List.drop_succ_cons, List.drop_zero]
  refine stAppendS (r := 0) (u := (.slice xa89 [(⟨p.name, p.key, p.gone, p.value⟩ : Wr)].length xc90)) S80 rfl i27 (.agg #[(.slice none 0 0), (.slice none 0 0), (.bool false), (.slice none 0 0)]) 80 Try.underlying44 hi27 hz27 hs27 hb27 rfl (by decide) rfl rfl rfl (Sl.toW R88 (S80).sat) (fun F cs p h => WrC.oneCell h) (Nat.le_refl _) S80.gr.below.size (by unfold maxLen; simp only [List.length_take, List.length_cons, List.length_nil]; omega) (by simp only [List.length_take, List.length_cons, List.length_nil]; omega) ?_
  intro v91 w92 S93 hn94
  simp only [pS, pN, pA, pC, pZ]
  have S93 : St w F w92 F86 [⟨n35, [(.slice xa23 p.name.length xc24), (.slice xa27 p.key.length xc28), (.bool p.gone), (.slice xa32 p.value.length xc33)], 27⟩] [ownP 4 WrC WrC.mono 27 w.heap.size v91 ((ws.take k) ++ [(⟨p.name, p.key, p.gone, p.value⟩ : Wr)])] := S93
  refine do_ rfl v91 (ex_assign _) ?_
  simp only [pS, pN, pA, pC, pZ]
  refine wl_nil (hK17 _ _ ?_)
  refine region_wl ?_
  refine do_ rfl (.int .i64 (((k + 1) : Nat) : Int)) (ex_add (m := ((k : Nat) : Int)) (n := (1 : Int)) (r := (((k + 1) : Nat) : Int)) rfl rfl (by omega) (by omega) (by omega)) ?_
  simp only [pS, pN, pA, pC, pZ]
  refine do_ rfl (.int .i64 (((k + 1) : Nat) : Int)) (ex_move _) ?_
  simp only [pS, pN, pA, pC, pZ]
  refine wl_nil ?_
  have S93 := St.drop S93 (L' := []) (.cons _ (List.Sublist.refl _))
  have hpe : (⟨p.name, p.key, p.gone, p.value⟩ : Wr) = p := rfl
  rw [hpe, ← take_snoc hp] at S93
  exact hK14 _ _ _ (by omega) ⟨(k + 1), v91, F86, _, rfl, rfl, rfl, S93, (le13.trans le87), (by omega)⟩
 ·refine do_ rfl (.bool false) (ex_lss (m := ((k : Nat) : Int)) (n := ((ws.length : Nat) : Int)) (b := false) rfl rfl (decide_eq_false (by omega))) ?_
  simp only [pS, pN, pA, pC, pZ]
  refine wl_nil (hK15 _ _ ?_)
  refine wp_seq_k (fun K95 hK95 => ?_)
  refine wp_cond_false rfl ?_
  refine wp_exit ?_
  refine hK3 _ _ ?_
  refine wp_seq_k (fun K96 hK96 => region_wl ?_)
  refine do_ rfl v (ex_move _) ?_
  simp only [pS, pN, pA, pC, pZ]
  refine do_ rfl v (ex_assign _) ?_
  simp only [pS, pN, pA, pC, pZ]
  refine wl_nil (hK96 _ _ ?_)
  refine wp_ret ?_
  (try simp only [Exit.then, Exit.inBlock, ↓reduceIte, Nat.reduceEqDiff])
  refine bodyPost_ret (v := v) ?_ rfl ?_
  ·exact res_t rfl rfl
  ·have hend : ws.take k = ws := List.take_of_length_le (by omega)
   have ho := S12.own (i := 0) rfl
   rw [hend] at ho
   exact ⟨_, _, rfl, S12.gr, ho⟩
theorem txnWrites_spec (F : Fz) (w : World) (v : Value) (ws : List Wr) (hs : Sat w F) (hv : Wrs F v ws) (hl : ws.length ≤ 100000) (hb : ∀ r ∈ ws, r.name.length ≤ 100000 ∧ r.key.length ≤ 100000 ∧ r.value.length ≤ 100000) :
    Calls Try.prog 75 #[v] w (Gives w F fun F' u => Wrs F' u ws) := gives_of_own WrC.mono (txnWritesO_spec F w v ws hs hv hl hb)
end Go.Proofs.Ytcpngkkconalhaa
namespace Go.Proofs.Ytcpngkkconalhaa
open Go.RowKit
set_option maxRecDepth 100000
set_option linter.unusedVariables false
set_option linter.unusedSimpArgs false
/-- A read, a write, that a pointer points to. -/
def RdP (F : Fz) (b : Nat) (p : Rd) : Prop := ∃ x0 y0 x1 y1 x3 y3, cellF F b 0 = some (.slice x0 p.name.length y0) ∧ cellF F b 1 = some (.slice x1 p.key.length y1) ∧ cellF F b 2 = some (.bool p.wide) ∧ cellF F b 3 = some (.slice x3 p.last.length y3) ∧ Bs F (.slice x0 p.name.length y0) p.name ∧ Bs F (.slice x1 p.key.length y1) p.key ∧ Bs F (.slice x3 p.last.length y3) p.last
def WrP (F : Fz) (b : Nat) (p : Wr) : Prop := ∃ x0 y0 x1 y1 x3 y3, cellF F b 0 = some (.slice x0 p.name.length y0) ∧ cellF F b 1 = some (.slice x1 p.key.length y1) ∧ cellF F b 2 = some (.bool p.gone) ∧ cellF F b 3 = some (.slice x3 p.value.length y3) ∧ Bs F (.slice x0 p.name.length y0) p.name ∧ Bs F (.slice x1 p.key.length y1) p.key ∧ Bs F (.slice x3 p.value.length y3) p.value
theorem RdP.mono {F F' : Fz} {b : Nat} {p : Rd} (h : RdP F b p) (hl : Le F F') : RdP F' b p := by
  obtain ⟨x0, y0, x1, y1, x3, y3, c0, c1, c2, c3, h0, h1, h3⟩ := h
  exact ⟨x0, y0, x1, y1, x3, y3, Le.cell hl c0, Le.cell hl c1, Le.cell hl c2, Le.cell hl c3, h0.mono hl, h1.mono hl, h3.mono hl⟩
theorem WrP.mono {F F' : Fz} {b : Nat} {p : Wr} (h : WrP F b p) (hl : Le F F') : WrP F' b p := by
  obtain ⟨x0, y0, x1, y1, x3, y3, c0, c1, c2, c3, h0, h1, h3⟩ := h
  exact ⟨x0, y0, x1, y1, x3, y3, Le.cell hl c0, Le.cell hl c1, Le.cell hl c2, Le.cell hl c3, h0.mono hl, h1.mono hl, h3.mono hl⟩
/-- Where the first one is; -1: there is none. -/
def idxE {α : Type} (l : List α) (g : α → Bool) : Int := match l.findIdx? g with | some i => (i : Int) | none => -1
theorem idxE_hit {α : Type} {l : List α} {g : α → Bool} {k : Nat} {p : α} (hp : l[k]? = some p) (h : g p = true) (hb : ∀ (i : Nat) q, i < k → l[i]? = some q → g q = false) : idxE l g = (k : Int) := by
  have : l.findIdx? g = some k := by
    obtain ⟨hk, rfl⟩ := List.getElem?_eq_some_iff.1 hp
    rw [List.findIdx?_eq_some_iff_getElem]
    exact ⟨hk, h, fun j hj => by rw [hb j _ hj (List.getElem?_eq_getElem (by omega))]; simp⟩
  unfold idxE; rw [this]
theorem idxE_none {α : Type} {l : List α} {g : α → Bool} (hb : ∀ (i : Nat) q, i < l.length → l[i]? = some q → g q = false) : idxE l g = -1 := by
  have : l.findIdx? g = none := by
    rw [List.findIdx?_eq_none_iff]
    intro x hx
    obtain ⟨i, hi, rfl⟩ := List.mem_iff_getElem.1 hx
    exact hb i _ hi (List.getElem?_eq_getElem hi)
  unfold idxE; rw [this]
theorem idxE_any {α : Type} {l : List α} {g : α → Bool} : decide (0 ≤ idxE l g) = l.any g := by
  unfold idxE
  cases h : l.findIdx? g with
  | none =>
    rw [List.findIdx?_eq_none_iff] at h
    have : l.any g = false := by rw [List.any_eq_false]; intro x hx; rw [h x hx]; simp
    rw [this]; rfl
  | some i =>
    rw [List.findIdx?_eq_some_iff_getElem] at h
    obtain ⟨hi, h1, _⟩ := h
    have : l.any g = true := List.any_eq_true.2 ⟨_, List.getElem_mem hi, h1⟩
    rw [this]; simp
set_option maxHeartbeats 8000000 in
theorem check1_clos (F : Fz) (w : World) (v : Value) (b : Nat) (q : Rd) (r : Rd) (hs : Sat w F) (hv : RdV F v q) (hr : RdP F b r) :
    Calls Try.prog 89 #[v, .pointer (some ⟨b, 0, none⟩)] w (Tells w (.bool (decide (q = r)))) := by
 obtain ⟨x0, x1, x2, x3, x4, x5, rfl, h0, h1, h3⟩ := hv
 obtain ⟨z0, z1, z2, z3, z4, z5, c0, c1, c2, c3, k0, k1, k3⟩ := hr
 have S := St.start hs
 go_enter Try.func89, Try.ntmps89
 refine wp_seq_k (fun K1 hK1 => region_wl ?_)
 refine stNew S (v := fun n => .pointer (some ⟨n, 0, none⟩)) rfl (ex_box (v := (.agg #[(.slice x0 q.name.length x1), (.slice x2 q.key.length x3), (.bool q.wide), (.slice x4 q.last.length x5)])) rfl) (fun n2 w3 S4 => ?_)
 simp only [pS, pN, pA, pC, pZ]
 have S4 : St w F w3 F [⟨n2, [(.slice x0 q.name.length x1), (.slice x2 q.key.length x3), (.bool q.wide), (.slice x4 q.last.length x5)], 83⟩] [] := S4
 refine do_ rfl (.bool false) (ex_assign _) ?_
 simp only [pS, pN, pA, pC, pZ]
 refine wl_nil (hK1 _ _ ?_)
 refine wp_seq_k (fun K5 hK5 => region_wl ?_)
 refine do_ rfl (.agg #[(.slice x0 q.name.length x1), (.slice x2 q.key.length x3), (.bool q.wide), (.slice x4 q.last.length x5)]) (ex_load rfl (loadN (cs := [(.slice x0 q.name.length x1), (.slice x2 q.key.length x3), (.bool q.wide), (.slice x4 q.last.length x5)]) Try.underlying83 rfl (size_83) (St.range S4 (i := 0) rfl 0 [(.slice x0 q.name.length x1), (.slice x2 q.key.length x3), (.bool q.wide), (.slice x4 q.last.length x5)] (sub_range 0 rfl)))) ?_
 simp only [pS, pN, pA, pC, pZ]
 refine do_ rfl (.agg #[(.slice z0 r.name.length z1), (.slice z2 r.key.length z3), (.bool r.wide), (.slice z4 r.last.length z5)]) (ex_load rfl (loadN (cs := [(.slice z0 r.name.length z1), (.slice z2 r.key.length z3), (.bool r.wide), (.slice z4 r.last.length z5)]) Try.underlying83 rfl (size_83) (range4 (St.fz S4 c0) (St.fz S4 c1) (St.fz S4 c2) (St.fz S4 c3)))) ?_
 simp only [pS, pN, pA, pC, pZ]
 refine stTells (v := (.bool (decide (q = r)))) S4 rfl (ex_fn (vs := #[(.agg #[(.slice x0 q.name.length x1), (.slice x2 q.key.length x3), (.bool q.wide), (.slice x4 q.last.length x5)]), (.agg #[(.slice z0 r.name.length z1), (.slice z2 r.key.length z3), (.bool r.wide), (.slice z4 r.last.length z5)])]) (map2 rfl rfl) rfl (ent_82 _ _)) (sameRead_spec _ _ _ _ _ _ (S4).sat ⟨_, _, _, _, _, _, rfl, h0, h1, h3⟩ ⟨_, _, _, _, _, _, rfl, k0, k1, k3⟩) (fun w6 S7 => ?_)
 simp only [pS, pN, pA, pC, pZ]
 refine do_ rfl (.bool (decide (q = r))) (ex_assign _) ?_
 simp only [pS, pN, pA, pC, pZ]
 refine wl_nil (hK5 _ _ ?_)
 refine wp_ret ?_
 (try simp only [Exit.then, Exit.inBlock, ↓reduceIte, Nat.reduceEqDiff])
 refine bodyPost_ret (v := (.bool (decide (q = r)))) ?_ rfl ?_
 ·exact res_t rfl rfl
 ·exact ⟨rfl, S7.gr.below⟩
set_option maxHeartbeats 8000000 in
theorem check1_index (F : Fz) (w : World) (v : Value) (b : Nat) (l : List Rd) (r : Rd) (hs : Sat w F) (hv : Rds F v l) (hr : RdP F b r) (hl : l.length ≤ 1000000) :
    Calls Try.prog 99 #[v, .func (.func 89) #[] #[.pointer (some ⟨b, 0, none⟩)]] w (Tells w (.int .i64 (idxE l (fun q : Rd => (decide (q = r)))))) := by
 obtain ⟨a, c, rfl, hc1, hc2⟩ := Sl.shape hv
 unfold maxLen at hc2
 have S := St.start hs
 go_enter Try.func99, Try.ntmps99
 refine wp_seq_k (fun K1 hK1 => region_wl ?_)
 refine do_ rfl (.int .i64 0) (ex_assign _) ?_
 simp only [pS, pN, pA, pC, pZ]
 refine wl_nil (hK1 _ _ ?_)
 refine wp_seq_k (fun K2 hK2 => ?_)
 refine wp_seq_k (fun K3 hK3 => region_wl ?_)
 refine do_ rfl (.slice a l.length c) (ex_move _) ?_
 simp only [pS, pN, pA, pC, pZ]
 refine do_ rfl (.int .i64 ((l.length : Nat) : Int)) (ex_len Try.underlying73 rfl) ?_
 simp only [pS, pN, pA, pC, pZ]
 refine do_ rfl (.int .i64 0) (ex_move _) ?_
 simp only [pS, pN, pA, pC, pZ]
 refine wl_nil (hK3 _ _ ?_)
 refine wp_block ?_
 refine wp_loop_g (fun mm aa w5 => ∃ (k : Nat) (u4 : Nat → Value), mm = l.length - k ∧ u4 = slots aa ∧ aa = ⟨#[(.slice a l.length c), (.func (.func 89) #[] #[(.pointer (some ⟨b, 0, none⟩))]), undef, undef, (u4 4), (u4 5), (.slice a l.length c), (.int .i64 ((l.length : Nat) : Int)), (.int .i64 ((k : Nat) : Int)), (u4 9), (u4 10), (u4 11), (u4 12), (u4 13), (u4 14), (u4 15), (u4 16), (u4 17), (u4 18)], []⟩ ∧ St w F w5 F [] [] ∧ (k ≤ l.length) ∧ (∀ (i : Nat) q, i < k → l[i]? = some q → (fun q : Rd => (decide (q = r))) q = false)) _ ⟨0, _, rfl, rfl, rfl, S, (by omega), (fun i q hi => absurd hi (by omega))⟩ ?_
 rintro m6 a7 w8 ⟨k, u4, rfl, -, rfl, S9, hk, hbad⟩ K11 hK11
 refine wp_seq_k (fun K12 hK12 => region_wl ?_)
 by_cases hc9 : k < l.length
 ·refine do_ rfl (.bool true) (ex_lss (m := ((k : Nat) : Int)) (n := ((l.length : Nat) : Int)) (b := true) rfl rfl (decide_eq_true (by omega))) ?_
  simp only [pS, pN, pA, pC, pZ]
  refine wl_nil (hK12 _ _ ?_)
  refine wp_seq_k (fun K13 hK13 => ?_)
  refine wp_cond_true rfl ?_
  refine wp_skip ?_
  refine hK13 _ _ ?_
  refine wp_seq_k (fun K14 hK14 => ?_)
  refine wp_block ?_
  refine wp_seq_k (fun K15 hK15 => region_wl ?_)
  refine do_ rfl (.int .i64 ((k : Nat) : Int)) (ex_move _) ?_
  simp only [pS, pN, pA, pC, pZ]
  refine do_ rfl (.int .i64 ((k : Nat) : Int)) (ex_assign _) ?_
  simp only [pS, pN, pA, pC, pZ]
  refine wl_nil (hK15 _ _ ?_)
  refine wp_seq_k (fun K16 hK16 => ?_)
  obtain ⟨p, hp⟩ : ∃ p, l[k]? = some p := ⟨l[k], List.getElem?_eq_getElem hc9⟩
  obtain ⟨b17, o18, ha19, xa21, xc22, xa25, xc26, xa30, xc31, c20, c24, c28, c29, r23, r27, r32⟩ := Rds.get hv hp
  refine region_wl ?_
  refine do_ rfl (.func (.func 89) #[] #[(.pointer (some ⟨b, 0, none⟩))]) (ex_move _) ?_
  simp only [pS, pN, pA, pC, pZ]
  refine do_ rfl (.slice a l.length c) (ex_move _) ?_
  simp only [pS, pN, pA, pC, pZ]
  refine do_ rfl (.int .i64 ((k : Nat) : Int)) (ex_move _) ?_
  simp only [pS, pN, pA, pC, pZ]
  refine do_ rfl (.pointer (some ⟨b17, o18 + k * 4, none⟩)) (ex_at (i := k) (sz := 4) Try.underlying73 (sizeof_83 _) rfl ha19 rfl (by omega) rfl) ?_
  simp only [pS, pN, pA, pC, pZ]
  refine do_ rfl (.agg #[(.slice xa21 p.name.length xc22), (.slice xa25 p.key.length xc26), (.bool p.wide), (.slice xa30 p.last.length xc31)]) (ex_load rfl (loadN (cs := [(.slice xa21 p.name.length xc22), (.slice xa25 p.key.length xc26), (.bool p.wide), (.slice xa30 p.last.length xc31)]) Try.underlying83 rfl (size_83) (range4 (St.fz S9 c20) (St.fz S9 c24) (St.fz S9 c28) (St.fz S9 c29)))) ?_
  simp only [pS, pN, pA, pC, pZ]
  refine stTells (v := (.bool ((fun q : Rd => (decide (q = r))) p))) S9 rfl (ex_fv (fs := #[]) (cs := #[(.pointer (some ⟨b, 0, none⟩))]) (vs := #[(.agg #[(.slice xa21 p.name.length xc22), (.slice xa25 p.key.length xc26), (.bool p.wide), (.slice xa30 p.last.length xc31)]), (.pointer (some ⟨b, 0, none⟩))]) rfl (vmap (fs := #[]) (cs := #[(.pointer (some ⟨b, 0, none⟩))]) (xs := #[(.agg #[(.slice xa21 p.name.length xc22), (.slice xa25 p.key.length xc26), (.bool p.wide), (.slice xa30 p.last.length xc31)])]) (map1 rfl) (by simp)) (ent_89 _ _)) (check1_clos _ _ _ b p r (S9).sat ⟨_, _, _, _, _, _, rfl, r23, r27, r32⟩ hr) (fun w33 S34 => ?_)
  simp only [pS, pN, pA, pC, pZ]
  refine wl_nil (hK16 _ _ ?_)
  refine wp_cond_split rfl (fun hc35 => ?_) (fun hc35 => ?_)
  ·refine wp_seq_k (fun K36 hK36 => region_wl ?_)
   refine do_ rfl (.int .i64 ((k : Nat) : Int)) (ex_move _) ?_
   simp only [pS, pN, pA, pC, pZ]
   refine do_ rfl (.int .i64 ((k : Nat) : Int)) (ex_assign _) ?_
   simp only [pS, pN, pA, pC, pZ]
   refine wl_nil (hK36 _ _ ?_)
   refine wp_ret ?_
   (try simp only [Exit.then, Exit.inBlock, ↓reduceIte, Nat.reduceEqDiff])
   refine bodyPost_ret (v := (.int .i64 ((k : Nat) : Int))) ?_ rfl ?_
   ·exact res_t rfl rfl
   ·exact ⟨by rw [idxE_hit hp hc35 hbad], S34.gr.below⟩
  ·refine wp_skip ?_
   refine hK14 _ _ ?_
   refine region_wl ?_
   refine do_ rfl (.int .i64 (((k + 1) : Nat) : Int)) (ex_add (m := ((k : Nat) : Int)) (n := (1 : Int)) (r := (((k + 1) : Nat) : Int)) rfl rfl (by omega) (by omega) (by omega)) ?_
   simp only [pS, pN, pA, pC, pZ]
   refine do_ rfl (.int .i64 (((k + 1) : Nat) : Int)) (ex_move _) ?_
   simp only [pS, pN, pA, pC, pZ]
   refine wl_nil ?_
   exact hK11 _ _ _ (by omega) ⟨(k + 1), _, rfl, rfl, rfl, S34, (by omega), (fun i q hi hq => by rcases Nat.lt_succ_iff_lt_or_eq.1 hi with h | rfl; exact hbad i q h hq; (rw [hp] at hq; cases hq; exact hc35))⟩
 ·refine do_ rfl (.bool false) (ex_lss (m := ((k : Nat) : Int)) (n := ((l.length : Nat) : Int)) (b := false) rfl rfl (decide_eq_false (by omega))) ?_
  simp only [pS, pN, pA, pC, pZ]
  refine wl_nil (hK12 _ _ ?_)
  refine wp_seq_k (fun K37 hK37 => ?_)
  refine wp_cond_false rfl ?_
  refine wp_exit ?_
  refine hK2 _ _ ?_
  refine wp_seq_k (fun K38 hK38 => region_wl ?_)
  refine do_ rfl (.int .i64 (-1)) (ex_assign _) ?_
  simp only [pS, pN, pA, pC, pZ]
  refine wl_nil (hK38 _ _ ?_)
  refine wp_ret ?_
  (try simp only [Exit.then, Exit.inBlock, ↓reduceIte, Nat.reduceEqDiff])
  refine bodyPost_ret (v := (.int .i64 (-1))) ?_ rfl ?_
  ·exact res_t rfl rfl
  ·exact ⟨by rw [idxE_none (fun i q hi hq => hbad i q (by omega) hq)], S9.gr.below⟩
set_option maxHeartbeats 8000000 in
theorem check1_contains (F : Fz) (w : World) (v : Value) (b : Nat) (l : List Rd) (r : Rd) (hs : Sat w F) (hv : Rds F v l) (hr : RdP F b r) (hl : l.length ≤ 1000000) :
    Calls Try.prog 80 #[v, .func (.func 89) #[] #[.pointer (some ⟨b, 0, none⟩)]] w (Tells w (.bool (l.any (fun q : Rd => (decide (q = r)))))) := by
 obtain ⟨a, c, rfl, hc1, hc2⟩ := Sl.shape hv
 have S := St.start hs
 go_enter Try.func80, Try.ntmps80
 refine wp_seq_k (fun K1 hK1 => region_wl ?_)
 refine do_ rfl (.bool false) (ex_assign _) ?_
 simp only [pS, pN, pA, pC, pZ]
 refine wl_nil (hK1 _ _ ?_)
 refine wp_seq_k (fun K2 hK2 => region_wl ?_)
 refine do_ rfl (.slice a l.length c) (ex_move _) ?_
 simp only [pS, pN, pA, pC, pZ]
 refine do_ rfl (.func (.func 89) #[] #[(.pointer (some ⟨b, 0, none⟩))]) (ex_move _) ?_
 simp only [pS, pN, pA, pC, pZ]
 refine stTells (v := (.int .i64 (idxE l (fun q : Rd => (decide (q = r)))))) S rfl (ex_fn (vs := #[(.slice a l.length c), (.func (.func 89) #[] #[(.pointer (some ⟨b, 0, none⟩))])]) (map2 rfl rfl) rfl (ent_99 _ _)) (check1_index _ _ _ b l r (S).sat hv hr hl) (fun w3 S4 => ?_)
 simp only [pS, pN, pA, pC, pZ]
 refine do_ rfl (.bool (l.any (fun q : Rd => (decide (q = r))))) (ex_geq (m := idxE l (fun q : Rd => (decide (q = r)))) (n := 0) (b := l.any (fun q : Rd => (decide (q = r)))) rfl rfl idxE_any) ?_
 simp only [pS, pN, pA, pC, pZ]
 refine do_ rfl (.bool (l.any (fun q : Rd => (decide (q = r))))) (ex_assign _) ?_
 simp only [pS, pN, pA, pC, pZ]
 refine wl_nil (hK2 _ _ ?_)
 refine wp_ret ?_
 (try simp only [Exit.then, Exit.inBlock, ↓reduceIte, Nat.reduceEqDiff])
 refine bodyPost_ret (v := (.bool (l.any (fun q : Rd => (decide (q = r)))))) ?_ rfl ?_
 ·exact res_t rfl rfl
 ·exact ⟨rfl, S4.gr.below⟩
set_option maxHeartbeats 8000000 in
theorem note1_clos (F : Fz) (w : World) (v : Value) (b : Nat) (q : Rd) (r : Rd) (hs : Sat w F) (hv : RdV F v q) (hr : RdP F b r) :
    Calls Try.prog 81 #[v, .pointer (some ⟨b, 0, none⟩)] w (Tells w (.bool (decide (q = r)))) := by
 obtain ⟨x0, x1, x2, x3, x4, x5, rfl, h0, h1, h3⟩ := hv
 obtain ⟨z0, z1, z2, z3, z4, z5, c0, c1, c2, c3, k0, k1, k3⟩ := hr
 have S := St.start hs
 go_enter Try.func81, Try.ntmps81
 refine wp_seq_k (fun K1 hK1 => region_wl ?_)
 refine stNew S (v := fun n => .pointer (some ⟨n, 0, none⟩)) rfl (ex_box (v := (.agg #[(.slice x0 q.name.length x1), (.slice x2 q.key.length x3), (.bool q.wide), (.slice x4 q.last.length x5)])) rfl) (fun n2 w3 S4 => ?_)
 simp only [pS, pN, pA, pC, pZ]
 have S4 : St w F w3 F [⟨n2, [(.slice x0 q.name.length x1), (.slice x2 q.key.length x3), (.bool q.wide), (.slice x4 q.last.length x5)], 83⟩] [] := S4
 refine do_ rfl (.bool false) (ex_assign _) ?_
 simp only [pS, pN, pA, pC, pZ]
 refine wl_nil (hK1 _ _ ?_)
 refine wp_seq_k (fun K5 hK5 => region_wl ?_)
 refine do_ rfl (.agg #[(.slice x0 q.name.length x1), (.slice x2 q.key.length x3), (.bool q.wide), (.slice x4 q.last.length x5)]) (ex_load rfl (loadN (cs := [(.slice x0 q.name.length x1), (.slice x2 q.key.length x3), (.bool q.wide), (.slice x4 q.last.length x5)]) Try.underlying83 rfl (size_83) (St.range S4 (i := 0) rfl 0 [(.slice x0 q.name.length x1), (.slice x2 q.key.length x3), (.bool q.wide), (.slice x4 q.last.length x5)] (sub_range 0 rfl)))) ?_
 simp only [pS, pN, pA, pC, pZ]
 refine do_ rfl (.agg #[(.slice z0 r.name.length z1), (.slice z2 r.key.length z3), (.bool r.wide), (.slice z4 r.last.length z5)]) (ex_load rfl (loadN (cs := [(.slice z0 r.name.length z1), (.slice z2 r.key.length z3), (.bool r.wide), (.slice z4 r.last.length z5)]) Try.underlying83 rfl (size_83) (range4 (St.fz S4 c0) (St.fz S4 c1) (St.fz S4 c2) (St.fz S4 c3)))) ?_
 simp only [pS, pN, pA, pC, pZ]
 refine stTells (v := (.bool (decide (q = r)))) S4 rfl (ex_fn (vs := #[(.agg #[(.slice x0 q.name.length x1), (.slice x2 q.key.length x3), (.bool q.wide), (.slice x4 q.last.length x5)]), (.agg #[(.slice z0 r.name.length z1), (.slice z2 r.key.length z3), (.bool r.wide), (.slice z4 r.last.length z5)])]) (map2 rfl rfl) rfl (ent_82 _ _)) (sameRead_spec _ _ _ _ _ _ (S4).sat ⟨_, _, _, _, _, _, rfl, h0, h1, h3⟩ ⟨_, _, _, _, _, _, rfl, k0, k1, k3⟩) (fun w6 S7 => ?_)
 simp only [pS, pN, pA, pC, pZ]
 refine do_ rfl (.bool (decide (q = r))) (ex_assign _) ?_
 simp only [pS, pN, pA, pC, pZ]
 refine wl_nil (hK5 _ _ ?_)
 refine wp_ret ?_
 (try simp only [Exit.then, Exit.inBlock, ↓reduceIte, Nat.reduceEqDiff])
 refine bodyPost_ret (v := (.bool (decide (q = r)))) ?_ rfl ?_
 ·exact res_t rfl rfl
 ·exact ⟨rfl, S7.gr.below⟩
set_option maxHeartbeats 8000000 in
theorem note1_index (F : Fz) (w : World) (v : Value) (b : Nat) (l : List Rd) (r : Rd) (hs : Sat w F) (hv : Rds F v l) (hr : RdP F b r) (hl : l.length ≤ 1000000) :
    Calls Try.prog 99 #[v, .func (.func 81) #[] #[.pointer (some ⟨b, 0, none⟩)]] w (Tells w (.int .i64 (idxE l (fun q : Rd => (decide (q = r)))))) := by
 obtain ⟨a, c, rfl, hc1, hc2⟩ := Sl.shape hv
 unfold maxLen at hc2
 have S := St.start hs
 go_enter Try.func99, Try.ntmps99
 refine wp_seq_k (fun K1 hK1 => region_wl ?_)
 refine do_ rfl (.int .i64 0) (ex_assign _) ?_
 simp only [pS, pN, pA, pC, pZ]
 refine wl_nil (hK1 _ _ ?_)
 refine wp_seq_k (fun K2 hK2 => ?_)
 refine wp_seq_k (fun K3 hK3 => region_wl ?_)
 refine do_ rfl (.slice a l.length c) (ex_move _) ?_
 simp only [pS, pN, pA, pC, pZ]
 refine do_ rfl (.int .i64 ((l.length : Nat) : Int)) (ex_len Try.underlying73 rfl) ?_
 simp only [pS, pN, pA, pC, pZ]
 refine do_ rfl (.int .i64 0) (ex_move _) ?_
 simp only [pS, pN, pA, pC, pZ]
 refine wl_nil (hK3 _ _ ?_)
 refine wp_block ?_
 refine wp_loop_g (fun mm aa w5 => ∃ (k : Nat) (u4 : Nat → Value), mm = l.length - k ∧ u4 = slots aa ∧ aa = ⟨#[(.slice a l.length c), (.func (.func 81) #[] #[(.pointer (some ⟨b, 0, none⟩))]), undef, undef, (u4 4), (u4 5), (.slice a l.length c), (.int .i64 ((l.length : Nat) : Int)), (.int .i64 ((k : Nat) : Int)), (u4 9), (u4 10), (u4 11), (u4 12), (u4 13), (u4 14), (u4 15), (u4 16), (u4 17), (u4 18)], []⟩ ∧ St w F w5 F [] [] ∧ (k ≤ l.length) ∧ (∀ (i : Nat) q, i < k → l[i]? = some q → (fun q : Rd => (decide (q = r))) q = false)) _ ⟨0, _, rfl, rfl, rfl, S, (by omega), (fun i q hi => absurd hi (by omega))⟩ ?_
 rintro m6 a7 w8 ⟨k, u4, rfl, -, rfl, S9, hk, hbad⟩ K11 hK11
 refine wp_seq_k (fun K12 hK12 => region_wl ?_)
 by_cases hc9 : k < l.length
 ·refine do_ rfl (.bool true) (ex_lss (m := ((k : Nat) : Int)) (n := ((l.length : Nat) : Int)) (b := true) rfl rfl (decide_eq_true (by omega))) ?_
  simp only [pS, pN, pA, pC, pZ]
  refine wl_nil (hK12 _ _ ?_)
  refine wp_seq_k (fun K13 hK13 => ?_)
  refine wp_cond_true rfl ?_
  refine wp_skip ?_
  refine hK13 _ _ ?_
  refine wp_seq_k (fun K14 hK14 => ?_)
  refine wp_block ?_
  refine wp_seq_k (fun K15 hK15 => region_wl ?_)
  refine do_ rfl (.int .i64 ((k : Nat) : Int)) (ex_move _) ?_
  simp only [pS, pN, pA, pC, pZ]
  refine do_ rfl (.int .i64 ((k : Nat) : Int)) (ex_assign _) ?_
  simp only [pS, pN, pA, pC, pZ]
  refine wl_nil (hK15 _ _ ?_)
  refine wp_seq_k (fun K16 hK16 => ?_)
  obtain ⟨p, hp⟩ : ∃ p, l[k]? = some p := ⟨l[k], List.getElem?_eq_getElem hc9⟩
  obtain ⟨b17, o18, ha19, xa21, xc22, xa25, xc26, xa30, xc31, c20, c24, c28, c29, r23, r27, r32⟩ := Rds.get hv hp
  refine region_wl ?_
  refine do_ rfl (.func (.func 81) #[] #[(.pointer (some ⟨b, 0, none⟩))]) (ex_move _) ?_
  simp only [pS, pN, pA, pC, pZ]
  refine do_ rfl (.slice a l.length c) (ex_move _) ?_
  simp only [pS, pN, pA, pC, pZ]
  refine do_ rfl (.int .i64 ((k : Nat) : Int)) (ex_move _) ?_
  simp only [pS, pN, pA, pC, pZ]
  refine do_ rfl (.pointer (some ⟨b17, o18 + k * 4, none⟩)) (ex_at (i := k) (sz := 4) Try.underlying73 (sizeof_83 _) rfl ha19 rfl (by omega) rfl) ?_
  simp only [pS, pN, pA, pC, pZ]
  refine do_ rfl (.agg #[(.slice xa21 p.name.length xc22), (.slice xa25 p.key.length xc26), (.bool p.wide), (.slice xa30 p.last.length xc31)]) (ex_load rfl (loadN (cs := [(.slice xa21 p.name.length xc22), (.slice xa25 p.key.length xc26), (.bool p.wide), (.slice xa30 p.last.length xc31)]) Try.underlying83 rfl (size_83) (range4 (St.fz S9 c20) (St.fz S9 c24) (St.fz S9 c28) (St.fz S9 c29)))) ?_
  simp only [pS, pN, pA, pC, pZ]
  refine stTells (v := (.bool ((fun q : Rd => (decide (q = r))) p))) S9 rfl (ex_fv (fs := #[]) (cs := #[(.pointer (some ⟨b, 0, none⟩))]) (vs := #[(.agg #[(.slice xa21 p.name.length xc22), (.slice xa25 p.key.length xc26), (.bool p.wide), (.slice xa30 p.last.length xc31)]), (.pointer (some ⟨b, 0, none⟩))]) rfl (vmap (fs := #[]) (cs := #[(.pointer (some ⟨b, 0, none⟩))]) (xs := #[(.agg #[(.slice xa21 p.name.length xc22), (.slice xa25 p.key.length xc26), (.bool p.wide), (.slice xa30 p.last.length xc31)])]) (map1 rfl) (by simp)) (ent_81 _ _)) (note1_clos _ _ _ b p r (S9).sat ⟨_, _, _, _, _, _, rfl, r23, r27, r32⟩ hr) (fun w33 S34 => ?_)
  simp only [pS, pN, pA, pC, pZ]
  refine wl_nil (hK16 _ _ ?_)
  refine wp_cond_split rfl (fun hc35 => ?_) (fun hc35 => ?_)
  ·refine wp_seq_k (fun K36 hK36 => region_wl ?_)
   refine do_ rfl (.int .i64 ((k : Nat) : Int)) (ex_move _) ?_
   simp only [pS, pN, pA, pC, pZ]
   refine do_ rfl (.int .i64 ((k : Nat) : Int)) (ex_assign _) ?_
   simp only [pS, pN, pA, pC, pZ]
   refine wl_nil (hK36 _ _ ?_)
   refine wp_ret ?_
   (try simp only [Exit.then, Exit.inBlock, ↓reduceIte, Nat.reduceEqDiff])
   refine bodyPost_ret (v := (.int .i64 ((k : Nat) : Int))) ?_ rfl ?_
   ·exact res_t rfl rfl
   ·exact ⟨by rw [idxE_hit hp hc35 hbad], S34.gr.below⟩
  ·refine wp_skip ?_
   refine hK14 _ _ ?_
   refine region_wl ?_
   refine do_ rfl (.int .i64 (((k + 1) : Nat) : Int)) (ex_add (m := ((k : Nat) : Int)) (n := (1 : Int)) (r := (((k + 1) : Nat) : Int)) rfl rfl (by omega) (by omega) (by omega)) ?_
   simp only [pS, pN, pA, pC, pZ]
   refine do_ rfl (.int .i64 (((k + 1) : Nat) : Int)) (ex_move _) ?_
   simp only [pS, pN, pA, pC, pZ]
   refine wl_nil ?_
   exact hK11 _ _ _ (by omega) ⟨(k + 1), _, rfl, rfl, rfl, S34, (by omega), (fun i q hi hq => by rcases Nat.lt_succ_iff_lt_or_eq.1 hi with h | rfl; exact hbad i q h hq; (rw [hp] at hq; cases hq; exact hc35))⟩
 ·refine do_ rfl (.bool false) (ex_lss (m := ((k : Nat) : Int)) (n := ((l.length : Nat) : Int)) (b := false) rfl rfl (decide_eq_false (by omega))) ?_
  simp only [pS, pN, pA, pC, pZ]
  refine wl_nil (hK12 _ _ ?_)
  refine wp_seq_k (fun K37 hK37 => ?_)
  refine wp_cond_false rfl ?_
  refine wp_exit ?_
  refine hK2 _ _ ?_
  refine wp_seq_k (fun K38 hK38 => region_wl ?_)
  refine do_ rfl (.int .i64 (-1)) (ex_assign _) ?_
  simp only [pS, pN, pA, pC, pZ]
  refine wl_nil (hK38 _ _ ?_)
  refine wp_ret ?_
  (try simp only [Exit.then, Exit.inBlock, ↓reduceIte, Nat.reduceEqDiff])
  refine bodyPost_ret (v := (.int .i64 (-1))) ?_ rfl ?_
  ·exact res_t rfl rfl
  ·exact ⟨by rw [idxE_none (fun i q hi hq => hbad i q (by omega) hq)], S9.gr.below⟩
set_option maxHeartbeats 8000000 in
theorem note1_contains (F : Fz) (w : World) (v : Value) (b : Nat) (l : List Rd) (r : Rd) (hs : Sat w F) (hv : Rds F v l) (hr : RdP F b r) (hl : l.length ≤ 1000000) :
    Calls Try.prog 80 #[v, .func (.func 81) #[] #[.pointer (some ⟨b, 0, none⟩)]] w (Tells w (.bool (l.any (fun q : Rd => (decide (q = r)))))) := by
 obtain ⟨a, c, rfl, hc1, hc2⟩ := Sl.shape hv
 have S := St.start hs
 go_enter Try.func80, Try.ntmps80
 refine wp_seq_k (fun K1 hK1 => region_wl ?_)
 refine do_ rfl (.bool false) (ex_assign _) ?_
 simp only [pS, pN, pA, pC, pZ]
 refine wl_nil (hK1 _ _ ?_)
 refine wp_seq_k (fun K2 hK2 => region_wl ?_)
 refine do_ rfl (.slice a l.length c) (ex_move _) ?_
 simp only [pS, pN, pA, pC, pZ]
 refine do_ rfl (.func (.func 81) #[] #[(.pointer (some ⟨b, 0, none⟩))]) (ex_move _) ?_
 simp only [pS, pN, pA, pC, pZ]
 refine stTells (v := (.int .i64 (idxE l (fun q : Rd => (decide (q = r)))))) S rfl (ex_fn (vs := #[(.slice a l.length c), (.func (.func 81) #[] #[(.pointer (some ⟨b, 0, none⟩))])]) (map2 rfl rfl) rfl (ent_99 _ _)) (note1_index _ _ _ b l r (S).sat hv hr hl) (fun w3 S4 => ?_)
 simp only [pS, pN, pA, pC, pZ]
 refine do_ rfl (.bool (l.any (fun q : Rd => (decide (q = r))))) (ex_geq (m := idxE l (fun q : Rd => (decide (q = r)))) (n := 0) (b := l.any (fun q : Rd => (decide (q = r)))) rfl rfl idxE_any) ?_
 simp only [pS, pN, pA, pC, pZ]
 refine do_ rfl (.bool (l.any (fun q : Rd => (decide (q = r))))) (ex_assign _) ?_
 simp only [pS, pN, pA, pC, pZ]
 refine wl_nil (hK2 _ _ ?_)
 refine wp_ret ?_
 (try simp only [Exit.then, Exit.inBlock, ↓reduceIte, Nat.reduceEqDiff])
 refine bodyPost_ret (v := (.bool (l.any (fun q : Rd => (decide (q = r)))))) ?_ rfl ?_
 ·exact res_t rfl rfl
 ·exact ⟨rfl, S4.gr.below⟩
set_option maxHeartbeats 8000000 in
theorem check2_clos (F : Fz) (w : World) (v : Value) (b : Nat) (q : Wr) (r : Wr) (hs : Sat w F) (hv : WrV F v q) (hr : WrP F b r) :
    Calls Try.prog 91 #[v, .pointer (some ⟨b, 0, none⟩)] w (Tells w (.bool (samePl q r))) := by
 obtain ⟨x0, x1, x2, x3, x4, x5, rfl, h0, h1, h3⟩ := hv
 obtain ⟨z0, z1, z2, z3, z4, z5, c0, c1, c2, c3, k0, k1, k3⟩ := hr
 have S := St.start hs
 go_enter Try.func91, Try.ntmps91
 refine wp_seq_k (fun K1 hK1 => region_wl ?_)
 refine stNew S (v := fun n => .pointer (some ⟨n, 0, none⟩)) rfl (ex_box (v := (.agg #[(.slice x0 q.name.length x1), (.slice x2 q.key.length x3), (.bool q.gone), (.slice x4 q.value.length x5)])) rfl) (fun n2 w3 S4 => ?_)
 simp only [pS, pN, pA, pC, pZ]
 have S4 : St w F w3 F [⟨n2, [(.slice x0 q.name.length x1), (.slice x2 q.key.length x3), (.bool q.gone), (.slice x4 q.value.length x5)], 27⟩] [] := S4
 refine do_ rfl (.bool false) (ex_assign _) ?_
 simp only [pS, pN, pA, pC, pZ]
 refine wl_nil (hK1 _ _ ?_)
 refine wp_seq_k (fun K5 hK5 => region_wl ?_)
 refine do_ rfl (.agg #[(.slice x0 q.name.length x1), (.slice x2 q.key.length x3), (.bool q.gone), (.slice x4 q.value.length x5)]) (ex_load rfl (loadN (cs := [(.slice x0 q.name.length x1), (.slice x2 q.key.length x3), (.bool q.gone), (.slice x4 q.value.length x5)]) Try.underlying27 rfl (size_27) (St.range S4 (i := 0) rfl 0 [(.slice x0 q.name.length x1), (.slice x2 q.key.length x3), (.bool q.gone), (.slice x4 q.value.length x5)] (sub_range 0 rfl)))) ?_
 simp only [pS, pN, pA, pC, pZ]
 refine do_ rfl (.agg #[(.slice z0 r.name.length z1), (.slice z2 r.key.length z3), (.bool r.gone), (.slice z4 r.value.length z5)]) (ex_load rfl (loadN (cs := [(.slice z0 r.name.length z1), (.slice z2 r.key.length z3), (.bool r.gone), (.slice z4 r.value.length z5)]) Try.underlying27 rfl (size_27) (range4 (St.fz S4 c0) (St.fz S4 c1) (St.fz S4 c2) (St.fz S4 c3)))) ?_
 simp only [pS, pN, pA, pC, pZ]
 refine stTells (v := (.bool (samePl q r))) S4 rfl (ex_fn (vs := #[(.agg #[(.slice x0 q.name.length x1), (.slice x2 q.key.length x3), (.bool q.gone), (.slice x4 q.value.length x5)]), (.agg #[(.slice z0 r.name.length z1), (.slice z2 r.key.length z3), (.bool r.gone), (.slice z4 r.value.length z5)])]) (map2 rfl rfl) rfl (ent_78 _ _)) (samePlace_spec _ _ _ _ _ _ (S4).sat ⟨_, _, _, _, _, _, rfl, h0, h1, h3⟩ ⟨_, _, _, _, _, _, rfl, k0, k1, k3⟩) (fun w6 S7 => ?_)
 simp only [pS, pN, pA, pC, pZ]
 refine do_ rfl (.bool (samePl q r)) (ex_assign _) ?_
 simp only [pS, pN, pA, pC, pZ]
 refine wl_nil (hK5 _ _ ?_)
 refine wp_ret ?_
 (try simp only [Exit.then, Exit.inBlock, ↓reduceIte, Nat.reduceEqDiff])
 refine bodyPost_ret (v := (.bool (samePl q r))) ?_ rfl ?_
 ·exact res_t rfl rfl
 ·exact ⟨rfl, S7.gr.below⟩
set_option maxHeartbeats 8000000 in
theorem check2_index (F : Fz) (w : World) (v : Value) (b : Nat) (l : List Wr) (r : Wr) (hs : Sat w F) (hv : Wrs F v l) (hr : WrP F b r) (hl : l.length ≤ 1000000) :
    Calls Try.prog 76 #[v, .func (.func 91) #[] #[.pointer (some ⟨b, 0, none⟩)]] w (Tells w (.int .i64 (idxE l (fun q : Wr => (samePl q r))))) := by
 obtain ⟨a, c, rfl, hc1, hc2⟩ := Sl.shape hv
 unfold maxLen at hc2
 have S := St.start hs
 go_enter Try.func76, Try.ntmps76
 refine wp_seq_k (fun K1 hK1 => region_wl ?_)
 refine do_ rfl (.int .i64 0) (ex_assign _) ?_
 simp only [pS, pN, pA, pC, pZ]
 refine wl_nil (hK1 _ _ ?_)
 refine wp_seq_k (fun K2 hK2 => ?_)
 refine wp_seq_k (fun K3 hK3 => region_wl ?_)
 refine do_ rfl (.slice a l.length c) (ex_move _) ?_
 simp only [pS, pN, pA, pC, pZ]
 refine do_ rfl (.int .i64 ((l.length : Nat) : Int)) (ex_len Try.underlying44 rfl) ?_
 simp only [pS, pN, pA, pC, pZ]
 refine do_ rfl (.int .i64 0) (ex_move _) ?_
 simp only [pS, pN, pA, pC, pZ]
 refine wl_nil (hK3 _ _ ?_)
 refine wp_block ?_
 refine wp_loop_g (fun mm aa w5 => ∃ (k : Nat) (u4 : Nat → Value), mm = l.length - k ∧ u4 = slots aa ∧ aa = ⟨#[(.slice a l.length c), (.func (.func 91) #[] #[(.pointer (some ⟨b, 0, none⟩))]), undef, undef, (u4 4), (u4 5), (.slice a l.length c), (.int .i64 ((l.length : Nat) : Int)), (.int .i64 ((k : Nat) : Int)), (u4 9), (u4 10), (u4 11), (u4 12), (u4 13), (u4 14), (u4 15), (u4 16), (u4 17), (u4 18)], []⟩ ∧ St w F w5 F [] [] ∧ (k ≤ l.length) ∧ (∀ (i : Nat) q, i < k → l[i]? = some q → (fun q : Wr => (samePl q r)) q = false)) _ ⟨0, _, rfl, rfl, rfl, S, (by omega), (fun i q hi => absurd hi (by omega))⟩ ?_
 rintro m6 a7 w8 ⟨k, u4, rfl, -, rfl, S9, hk, hbad⟩ K11 hK11
 refine wp_seq_k (fun K12 hK12 => region_wl ?_)
 by_cases hc9 : k < l.length
 ·refine do_ rfl (.bool true) (ex_lss (m := ((k : Nat) : Int)) (n := ((l.length : Nat) : Int)) (b := true) rfl rfl (decide_eq_true (by omega))) ?_
  simp only [pS, pN, pA, pC, pZ]
  refine wl_nil (hK12 _ _ ?_)
  refine wp_seq_k (fun K13 hK13 => ?_)
  refine wp_cond_true rfl ?_
  refine wp_skip ?_
  refine hK13 _ _ ?_
  refine wp_seq_k (fun K14 hK14 => ?_)
  refine wp_block ?_
  refine wp_seq_k (fun K15 hK15 => region_wl ?_)
  refine do_ rfl (.int .i64 ((k : Nat) : Int)) (ex_move _) ?_
  simp only [pS, pN, pA, pC, pZ]
  refine do_ rfl (.int .i64 ((k : Nat) : Int)) (ex_assign _) ?_
  simp only [pS, pN, pA, pC, pZ]
  refine wl_nil (hK15 _ _ ?_)
  refine wp_seq_k (fun K16 hK16 => ?_)
  obtain ⟨p, hp⟩ : ∃ p, l[k]? = some p := ⟨l[k], List.getElem?_eq_getElem hc9⟩
  obtain ⟨b17, o18, ha19, xa21, xc22, xa25, xc26, xa30, xc31, c20, c24, c28, c29, r23, r27, r32⟩ := Wrs.get hv hp
  refine region_wl ?_
  refine do_ rfl (.func (.func 91) #[] #[(.pointer (some ⟨b, 0, none⟩))]) (ex_move _) ?_
  simp only [pS, pN, pA, pC, pZ]
  refine do_ rfl (.slice a l.length c) (ex_move _) ?_
  simp only [pS, pN, pA, pC, pZ]
  refine do_ rfl (.int .i64 ((k : Nat) : Int)) (ex_move _) ?_
  simp only [pS, pN, pA, pC, pZ]
  refine do_ rfl (.pointer (some ⟨b17, o18 + k * 4, none⟩)) (ex_at (i := k) (sz := 4) Try.underlying44 (sizeof_27 _) rfl ha19 rfl (by omega) rfl) ?_
  simp only [pS, pN, pA, pC, pZ]
  refine do_ rfl (.agg #[(.slice xa21 p.name.length xc22), (.slice xa25 p.key.length xc26), (.bool p.gone), (.slice xa30 p.value.length xc31)]) (ex_load rfl (loadN (cs := [(.slice xa21 p.name.length xc22), (.slice xa25 p.key.length xc26), (.bool p.gone), (.slice xa30 p.value.length xc31)]) Try.underlying27 rfl (size_27) (range4 (St.fz S9 c20) (St.fz S9 c24) (St.fz S9 c28) (St.fz S9 c29)))) ?_
  simp only [pS, pN, pA, pC, pZ]
  refine stTells (v := (.bool ((fun q : Wr => (samePl q r)) p))) S9 rfl (ex_fv (fs := #[]) (cs := #[(.pointer (some ⟨b, 0, none⟩))]) (vs := #[(.agg #[(.slice xa21 p.name.length xc22), (.slice xa25 p.key.length xc26), (.bool p.gone), (.slice xa30 p.value.length xc31)]), (.pointer (some ⟨b, 0, none⟩))]) rfl (vmap (fs := #[]) (cs := #[(.pointer (some ⟨b, 0, none⟩))]) (xs := #[(.agg #[(.slice xa21 p.name.length xc22), (.slice xa25 p.key.length xc26), (.bool p.gone), (.slice xa30 p.value.length xc31)])]) (map1 rfl) (by simp)) (ent_91 _ _)) (check2_clos _ _ _ b p r (S9).sat ⟨_, _, _, _, _, _, rfl, r23, r27, r32⟩ hr) (fun w33 S34 => ?_)
  simp only [pS, pN, pA, pC, pZ]
  refine wl_nil (hK16 _ _ ?_)
  refine wp_cond_split rfl (fun hc35 => ?_) (fun hc35 => ?_)
  ·refine wp_seq_k (fun K36 hK36 => region_wl ?_)
   refine do_ rfl (.int .i64 ((k : Nat) : Int)) (ex_move _) ?_
   simp only [pS, pN, pA, pC, pZ]
   refine do_ rfl (.int .i64 ((k : Nat) : Int)) (ex_assign _) ?_
   simp only [pS, pN, pA, pC, pZ]
   refine wl_nil (hK36 _ _ ?_)
   refine wp_ret ?_
   (try simp only [Exit.then, Exit.inBlock, ↓reduceIte, Nat.reduceEqDiff])
   refine bodyPost_ret (v := (.int .i64 ((k : Nat) : Int))) ?_ rfl ?_
   ·exact res_t rfl rfl
   ·exact ⟨by rw [idxE_hit hp hc35 hbad], S34.gr.below⟩
  ·refine wp_skip ?_
   refine hK14 _ _ ?_
   refine region_wl ?_
   refine do_ rfl (.int .i64 (((k + 1) : Nat) : Int)) (ex_add (m := ((k : Nat) : Int)) (n := (1 : Int)) (r := (((k + 1) : Nat) : Int)) rfl rfl (by omega) (by omega) (by omega)) ?_
   simp only [pS, pN, pA, pC, pZ]
   refine do_ rfl (.int .i64 (((k + 1) : Nat) : Int)) (ex_move _) ?_
   simp only [pS, pN, pA, pC, pZ]
   refine wl_nil ?_
   exact hK11 _ _ _ (by omega) ⟨(k + 1), _, rfl, rfl, rfl, S34, (by omega), (fun i q hi hq => by rcases Nat.lt_succ_iff_lt_or_eq.1 hi with h | rfl; exact hbad i q h hq; (rw [hp] at hq; cases hq; exact hc35))⟩
 ·refine do_ rfl (.bool false) (ex_lss (m := ((k : Nat) : Int)) (n := ((l.length : Nat) : Int)) (b := false) rfl rfl (decide_eq_false (by omega))) ?_
  simp only [pS, pN, pA, pC, pZ]
  refine wl_nil (hK12 _ _ ?_)
  refine wp_seq_k (fun K37 hK37 => ?_)
  refine wp_cond_false rfl ?_
  refine wp_exit ?_
  refine hK2 _ _ ?_
  refine wp_seq_k (fun K38 hK38 => region_wl ?_)
  refine do_ rfl (.int .i64 (-1)) (ex_assign _) ?_
  simp only [pS, pN, pA, pC, pZ]
  refine wl_nil (hK38 _ _ ?_)
  refine wp_ret ?_
  (try simp only [Exit.then, Exit.inBlock, ↓reduceIte, Nat.reduceEqDiff])
  refine bodyPost_ret (v := (.int .i64 (-1))) ?_ rfl ?_
  ·exact res_t rfl rfl
  ·exact ⟨by rw [idxE_none (fun i q hi hq => hbad i q (by omega) hq)], S9.gr.below⟩
set_option maxHeartbeats 8000000 in
theorem check2_contains (F : Fz) (w : World) (v : Value) (b : Nat) (l : List Wr) (r : Wr) (hs : Sat w F) (hv : Wrs F v l) (hr : WrP F b r) (hl : l.length ≤ 1000000) :
    Calls Try.prog 90 #[v, .func (.func 91) #[] #[.pointer (some ⟨b, 0, none⟩)]] w (Tells w (.bool (l.any (fun q : Wr => (samePl q r))))) := by
 obtain ⟨a, c, rfl, hc1, hc2⟩ := Sl.shape hv
 have S := St.start hs
 go_enter Try.func90, Try.ntmps90
 refine wp_seq_k (fun K1 hK1 => region_wl ?_)
 refine do_ rfl (.bool false) (ex_assign _) ?_
 simp only [pS, pN, pA, pC, pZ]
 refine wl_nil (hK1 _ _ ?_)
 refine wp_seq_k (fun K2 hK2 => region_wl ?_)
 refine do_ rfl (.slice a l.length c) (ex_move _) ?_
 simp only [pS, pN, pA, pC, pZ]
 refine do_ rfl (.func (.func 91) #[] #[(.pointer (some ⟨b, 0, none⟩))]) (ex_move _) ?_
 simp only [pS, pN, pA, pC, pZ]
 refine stTells (v := (.int .i64 (idxE l (fun q : Wr => (samePl q r))))) S rfl (ex_fn (vs := #[(.slice a l.length c), (.func (.func 91) #[] #[(.pointer (some ⟨b, 0, none⟩))])]) (map2 rfl rfl) rfl (ent_76 _ _)) (check2_index _ _ _ b l r (S).sat hv hr hl) (fun w3 S4 => ?_)
 simp only [pS, pN, pA, pC, pZ]
 refine do_ rfl (.bool (l.any (fun q : Wr => (samePl q r)))) (ex_geq (m := idxE l (fun q : Wr => (samePl q r))) (n := 0) (b := l.any (fun q : Wr => (samePl q r))) rfl rfl idxE_any) ?_
 simp only [pS, pN, pA, pC, pZ]
 refine do_ rfl (.bool (l.any (fun q : Wr => (samePl q r)))) (ex_assign _) ?_
 simp only [pS, pN, pA, pC, pZ]
 refine wl_nil (hK2 _ _ ?_)
 refine wp_ret ?_
 (try simp only [Exit.then, Exit.inBlock, ↓reduceIte, Nat.reduceEqDiff])
 refine bodyPost_ret (v := (.bool (l.any (fun q : Wr => (samePl q r))))) ?_ rfl ?_
 ·exact res_t rfl rfl
 ·exact ⟨rfl, S4.gr.below⟩
set_option maxHeartbeats 8000000 in
theorem write1_clos (F : Fz) (w : World) (v : Value) (b : Nat) (q : Wr) (r : Wr) (hs : Sat w F) (hv : WrV F v q) (hr : WrP F b r) :
    Calls Try.prog 77 #[v, .pointer (some ⟨b, 0, none⟩)] w (Tells w (.bool (samePl q r))) := by
 obtain ⟨x0, x1, x2, x3, x4, x5, rfl, h0, h1, h3⟩ := hv
 obtain ⟨z0, z1, z2, z3, z4, z5, c0, c1, c2, c3, k0, k1, k3⟩ := hr
 have S := St.start hs
 go_enter Try.func77, Try.ntmps77
 refine wp_seq_k (fun K1 hK1 => region_wl ?_)
 refine stNew S (v := fun n => .pointer (some ⟨n, 0, none⟩)) rfl (ex_box (v := (.agg #[(.slice x0 q.name.length x1), (.slice x2 q.key.length x3), (.bool q.gone), (.slice x4 q.value.length x5)])) rfl) (fun n2 w3 S4 => ?_)
 simp only [pS, pN, pA, pC, pZ]
 have S4 : St w F w3 F [⟨n2, [(.slice x0 q.name.length x1), (.slice x2 q.key.length x3), (.bool q.gone), (.slice x4 q.value.length x5)], 27⟩] [] := S4
 refine do_ rfl (.bool false) (ex_assign _) ?_
 simp only [pS, pN, pA, pC, pZ]
 refine wl_nil (hK1 _ _ ?_)
 refine wp_seq_k (fun K5 hK5 => region_wl ?_)
 refine do_ rfl (.agg #[(.slice x0 q.name.length x1), (.slice x2 q.key.length x3), (.bool q.gone), (.slice x4 q.value.length x5)]) (ex_load rfl (loadN (cs := [(.slice x0 q.name.length x1), (.slice x2 q.key.length x3), (.bool q.gone), (.slice x4 q.value.length x5)]) Try.underlying27 rfl (size_27) (St.range S4 (i := 0) rfl 0 [(.slice x0 q.name.length x1), (.slice x2 q.key.length x3), (.bool q.gone), (.slice x4 q.value.length x5)] (sub_range 0 rfl)))) ?_
 simp only [pS, pN, pA, pC, pZ]
 refine do_ rfl (.agg #[(.slice z0 r.name.length z1), (.slice z2 r.key.length z3), (.bool r.gone), (.slice z4 r.value.length z5)]) (ex_load rfl (loadN (cs := [(.slice z0 r.name.length z1), (.slice z2 r.key.length z3), (.bool r.gone), (.slice z4 r.value.length z5)]) Try.underlying27 rfl (size_27) (range4 (St.fz S4 c0) (St.fz S4 c1) (St.fz S4 c2) (St.fz S4 c3)))) ?_
 simp only [pS, pN, pA, pC, pZ]
 refine stTells (v := (.bool (samePl q r))) S4 rfl (ex_fn (vs := #[(.agg #[(.slice x0 q.name.length x1), (.slice x2 q.key.length x3), (.bool q.gone), (.slice x4 q.value.length x5)]), (.agg #[(.slice z0 r.name.length z1), (.slice z2 r.key.length z3), (.bool r.gone), (.slice z4 r.value.length z5)])]) (map2 rfl rfl) rfl (ent_78 _ _)) (samePlace_spec _ _ _ _ _ _ (S4).sat ⟨_, _, _, _, _, _, rfl, h0, h1, h3⟩ ⟨_, _, _, _, _, _, rfl, k0, k1, k3⟩) (fun w6 S7 => ?_)
 simp only [pS, pN, pA, pC, pZ]
 refine do_ rfl (.bool (samePl q r)) (ex_assign _) ?_
 simp only [pS, pN, pA, pC, pZ]
 refine wl_nil (hK5 _ _ ?_)
 refine wp_ret ?_
 (try simp only [Exit.then, Exit.inBlock, ↓reduceIte, Nat.reduceEqDiff])
 refine bodyPost_ret (v := (.bool (samePl q r))) ?_ rfl ?_
 ·exact res_t rfl rfl
 ·exact ⟨rfl, S7.gr.below⟩
set_option maxHeartbeats 8000000 in
theorem write1_index (F : Fz) (w : World) (v : Value) (b : Nat) (l : List Wr) (r : Wr) (hs : Sat w F) (hv : Wrs F v l) (hr : WrP F b r) (hl : l.length ≤ 1000000) :
    Calls Try.prog 76 #[v, .func (.func 77) #[] #[.pointer (some ⟨b, 0, none⟩)]] w (Tells w (.int .i64 (idxE l (fun q : Wr => (samePl q r))))) := by
 obtain ⟨a, c, rfl, hc1, hc2⟩ := Sl.shape hv
 unfold maxLen at hc2
 have S := St.start hs
 go_enter Try.func76, Try.ntmps76
 refine wp_seq_k (fun K1 hK1 => region_wl ?_)
 refine do_ rfl (.int .i64 0) (ex_assign _) ?_
 simp only [pS, pN, pA, pC, pZ]
 refine wl_nil (hK1 _ _ ?_)
 refine wp_seq_k (fun K2 hK2 => ?_)
 refine wp_seq_k (fun K3 hK3 => region_wl ?_)
 refine do_ rfl (.slice a l.length c) (ex_move _) ?_
 simp only [pS, pN, pA, pC, pZ]
 refine do_ rfl (.int .i64 ((l.length : Nat) : Int)) (ex_len Try.underlying44 rfl) ?_
 simp only [pS, pN, pA, pC, pZ]
 refine do_ rfl (.int .i64 0) (ex_move _) ?_
 simp only [pS, pN, pA, pC, pZ]
 refine wl_nil (hK3 _ _ ?_)
 refine wp_block ?_
 refine wp_loop_g (fun mm aa w5 => ∃ (k : Nat) (u4 : Nat → Value), mm = l.length - k ∧ u4 = slots aa ∧ aa = ⟨#[(.slice a l.length c), (.func (.func 77) #[] #[(.pointer (some ⟨b, 0, none⟩))]), undef, undef, (u4 4), (u4 5), (.slice a l.length c), (.int .i64 ((l.length : Nat) : Int)), (.int .i64 ((k : Nat) : Int)), (u4 9), (u4 10), (u4 11), (u4 12), (u4 13), (u4 14), (u4 15), (u4 16), (u4 17), (u4 18)], []⟩ ∧ St w F w5 F [] [] ∧ (k ≤ l.length) ∧ (∀ (i : Nat) q, i < k → l[i]? = some q → (fun q : Wr => (samePl q r)) q = false)) _ ⟨0, _, rfl, rfl, rfl, S, (by omega), (fun i q hi => absurd hi (by omega))⟩ ?_
 rintro m6 a7 w8 ⟨k, u4, rfl, -, rfl, S9, hk, hbad⟩ K11 hK11
 refine wp_seq_k (fun K12 hK12 => region_wl ?_)
 by_cases hc9 : k < l.length
 ·refine do_ rfl (.bool true) (ex_lss (m := ((k : Nat) : Int)) (n := ((l.length : Nat) : Int)) (b := true) rfl rfl (decide_eq_true (by omega))) ?_
  simp only [pS, pN, pA, pC, pZ]
  refine wl_nil (hK12 _ _ ?_)
  refine wp_seq_k (fun K13 hK13 => ?_)
  refine wp_cond_true rfl ?_
  refine wp_skip ?_
  refine hK13 _ _ ?_
  refine wp_seq_k (fun K14 hK14 => ?_)
  refine wp_block ?_
  refine wp_seq_k (fun K15 hK15 => region_wl ?_)
  refine do_ rfl (.int .i64 ((k : Nat) : Int)) (ex_move _) ?_
  simp only [pS, pN, pA, pC, pZ]
  refine do_ rfl (.int .i64 ((k : Nat) : Int)) (ex_assign _) ?_
  simp only [pS, pN, pA, pC, pZ]
  refine wl_nil (hK15 _ _ ?_)
  refine wp_seq_k (fun K16 hK16 => ?_)
  obtain ⟨p, hp⟩ : ∃ p, l[k]? = some p := ⟨l[k], List.getElem?_eq_getElem hc9⟩
  obtain ⟨b17, o18, ha19, xa21, xc22, xa25, xc26, xa30, xc31, c20, c24, c28, c29, r23, r27, r32⟩ := Wrs.get hv hp
  refine region_wl ?_
  refine do_ rfl (.func (.func 77) #[] #[(.pointer (some ⟨b, 0, none⟩))]) (ex_move _) ?_
  simp only [pS, pN, pA, pC, pZ]
  refine do_ rfl (.slice a l.length c) (ex_move _) ?_
  simp only [pS, pN, pA, pC, pZ]
  refine do_ rfl (.int .i64 ((k : Nat) : Int)) (ex_move _) ?_
  simp only [pS, pN, pA, pC, pZ]
  refine do_ rfl (.pointer (some ⟨b17, o18 + k * 4, none⟩)) (ex_at (i := k) (sz := 4) Try.underlying44 (sizeof_27 _) rfl ha19 rfl (by omega) rfl) ?_
  simp only [pS, pN, pA, pC, pZ]
  refine do_ rfl (.agg #[(.slice xa21 p.name.length xc22), (.slice xa25 p.key.length xc26), (.bool p.gone), (.slice xa30 p.value.length xc31)]) (ex_load rfl (loadN (cs := [(.slice xa21 p.name.length xc22), (.slice xa25 p.key.length xc26), (.bool p.gone), (.slice xa30 p.value.length xc31)]) Try.underlying27 rfl (size_27) (range4 (St.fz S9 c20) (St.fz S9 c24) (St.fz S9 c28) (St.fz S9 c29)))) ?_
  simp only [pS, pN, pA, pC, pZ]
  refine stTells (v := (.bool ((fun q : Wr => (samePl q r)) p))) S9 rfl (ex_fv (fs := #[]) (cs := #[(.pointer (some ⟨b, 0, none⟩))]) (vs := #[(.agg #[(.slice xa21 p.name.length xc22), (.slice xa25 p.key.length xc26), (.bool p.gone), (.slice xa30 p.value.length xc31)]), (.pointer (some ⟨b, 0, none⟩))]) rfl (vmap (fs := #[]) (cs := #[(.pointer (some ⟨b, 0, none⟩))]) (xs := #[(.agg #[(.slice xa21 p.name.length xc22), (.slice xa25 p.key.length xc26), (.bool p.gone), (.slice xa30 p.value.length xc31)])]) (map1 rfl) (by simp)) (ent_77 _ _)) (write1_clos _ _ _ b p r (S9).sat ⟨_, _, _, _, _, _, rfl, r23, r27, r32⟩ hr) (fun w33 S34 => ?_)
  simp only [pS, pN, pA, pC, pZ]
  refine wl_nil (hK16 _ _ ?_)
  refine wp_cond_split rfl (fun hc35 => ?_) (fun hc35 => ?_)
  ·refine wp_seq_k (fun K36 hK36 => region_wl ?_)
   refine do_ rfl (.int .i64 ((k : Nat) : Int)) (ex_move _) ?_
   simp only [pS, pN, pA, pC, pZ]
   refine do_ rfl (.int .i64 ((k : Nat) : Int)) (ex_assign _) ?_
   simp only [pS, pN, pA, pC, pZ]
   refine wl_nil (hK36 _ _ ?_)
   refine wp_ret ?_
   (try simp only [Exit.then, Exit.inBlock, ↓reduceIte, Nat.reduceEqDiff])
   refine bodyPost_ret (v := (.int .i64 ((k : Nat) : Int))) ?_ rfl ?_
   ·exact res_t rfl rfl
   ·exact ⟨by rw [idxE_hit hp hc35 hbad], S34.gr.below⟩
  ·refine wp_skip ?_
   refine hK14 _ _ ?_
   refine region_wl ?_
   refine do_ rfl (.int .i64 (((k + 1) : Nat) : Int)) (ex_add (m := ((k : Nat) : Int)) (n := (1 : Int)) (r := (((k + 1) : Nat) : Int)) rfl rfl (by omega) (by omega) (by omega)) ?_
   simp only [pS, pN, pA, pC, pZ]
   refine do_ rfl (.int .i64 (((k + 1) : Nat) : Int)) (ex_move _) ?_
   simp only [pS, pN, pA, pC, pZ]
   refine wl_nil ?_
   exact hK11 _ _ _ (by omega) ⟨(k + 1), _, rfl, rfl, rfl, S34, (by omega), (fun i q hi hq => by rcases Nat.lt_succ_iff_lt_or_eq.1 hi with h | rfl; exact hbad i q h hq; (rw [hp] at hq; cases hq; exact hc35))⟩
 ·refine do_ rfl (.bool false) (ex_lss (m := ((k : Nat) : Int)) (n := ((l.length : Nat) : Int)) (b := false) rfl rfl (decide_eq_false (by omega))) ?_
  simp only [pS, pN, pA, pC, pZ]
  refine wl_nil (hK12 _ _ ?_)
  refine wp_seq_k (fun K37 hK37 => ?_)
  refine wp_cond_false rfl ?_
  refine wp_exit ?_
  refine hK2 _ _ ?_
  refine wp_seq_k (fun K38 hK38 => region_wl ?_)
  refine do_ rfl (.int .i64 (-1)) (ex_assign _) ?_
  simp only [pS, pN, pA, pC, pZ]
  refine wl_nil (hK38 _ _ ?_)
  refine wp_ret ?_
  (try simp only [Exit.then, Exit.inBlock, ↓reduceIte, Nat.reduceEqDiff])
  refine bodyPost_ret (v := (.int .i64 (-1))) ?_ rfl ?_
  ·exact res_t rfl rfl
  ·exact ⟨by rw [idxE_none (fun i q hi hq => hbad i q (by omega) hq)], S9.gr.below⟩
set_option maxHeartbeats 8000000 in
theorem write1_contains (F : Fz) (w : World) (v : Value) (b : Nat) (l : List Wr) (r : Wr) (hs : Sat w F) (hv : Wrs F v l) (hr : WrP F b r) (hl : l.length ≤ 1000000) :
    Calls Try.prog 90 #[v, .func (.func 77) #[] #[.pointer (some ⟨b, 0, none⟩)]] w (Tells w (.bool (l.any (fun q : Wr => (samePl q r))))) := by
 obtain ⟨a, c, rfl, hc1, hc2⟩ := Sl.shape hv
 have S := St.start hs
 go_enter Try.func90, Try.ntmps90
 refine wp_seq_k (fun K1 hK1 => region_wl ?_)
 refine do_ rfl (.bool false) (ex_assign _) ?_
 simp only [pS, pN, pA, pC, pZ]
 refine wl_nil (hK1 _ _ ?_)
 refine wp_seq_k (fun K2 hK2 => region_wl ?_)
 refine do_ rfl (.slice a l.length c) (ex_move _) ?_
 simp only [pS, pN, pA, pC, pZ]
 refine do_ rfl (.func (.func 77) #[] #[(.pointer (some ⟨b, 0, none⟩))]) (ex_move _) ?_
 simp only [pS, pN, pA, pC, pZ]
 refine stTells (v := (.int .i64 (idxE l (fun q : Wr => (samePl q r))))) S rfl (ex_fn (vs := #[(.slice a l.length c), (.func (.func 77) #[] #[(.pointer (some ⟨b, 0, none⟩))])]) (map2 rfl rfl) rfl (ent_76 _ _)) (write1_index _ _ _ b l r (S).sat hv hr hl) (fun w3 S4 => ?_)
 simp only [pS, pN, pA, pC, pZ]
 refine do_ rfl (.bool (l.any (fun q : Wr => (samePl q r)))) (ex_geq (m := idxE l (fun q : Wr => (samePl q r))) (n := 0) (b := l.any (fun q : Wr => (samePl q r))) rfl rfl idxE_any) ?_
 simp only [pS, pN, pA, pC, pZ]
 refine do_ rfl (.bool (l.any (fun q : Wr => (samePl q r)))) (ex_assign _) ?_
 simp only [pS, pN, pA, pC, pZ]
 refine wl_nil (hK2 _ _ ?_)
 refine wp_ret ?_
 (try simp only [Exit.then, Exit.inBlock, ↓reduceIte, Nat.reduceEqDiff])
 refine bodyPost_ret (v := (.bool (l.any (fun q : Wr => (samePl q r))))) ?_ rfl ?_
 ·exact res_t rfl rfl
 ·exact ⟨rfl, S4.gr.below⟩
end Go.Proofs.Ytcpngkkconalhaa
