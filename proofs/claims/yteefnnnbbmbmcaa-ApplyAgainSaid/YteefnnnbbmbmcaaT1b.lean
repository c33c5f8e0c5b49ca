/- Walks: bytes.Compare, tree.compare, tree.pair, tree.Check -/
import Derived.Test.YteefnnnbbmbmcaaT1a
import Derived.Lib.Bytealg
namespace Go.Proofs.Yteefnnnbbmbmcaa
open Go.RowKit
set_option maxRecDepth 100000
set_option linter.unusedVariables false
set_option linter.unusedSimpArgs false
theorem bytesOf_run {P : Program} {w : World} {F : Fz} {v : Value} {l : List UInt8} (hs : Sat w F) (hv : Bs F v l) : (Extern.Bytes.bytesOf v).run P w = .ok ⟨l.toArray⟩ w := by
  obtain ⟨a, c, rfl, h1, h2⟩ := hv.shape
  cases a with
  | none =>
    obtain ⟨_, _, q1, _, _, q4, _⟩ := hv
    cases q1
    have : l = [] := List.eq_nil_of_length_eq_zero (q4 rfl).1
    subst this
    rfl
  | some a =>
    by_cases hl : l = []
    · subst hl; rfl
    · have hpos := List.length_pos_iff.2 hl
      obtain ⟨b, o, e, hc⟩ := hv.addr hpos
      cases e
      have key : ∀ (m : List UInt8) (j : Nat) (acc : ByteArray), (∀ (i : Nat) (h : i < m.length), w.cell? ⟨b, o + j + i, none⟩ = some (.int .u8 (m[i].toNat : Int))) → (Extern.Bytes.loadBytes ⟨b, o + j, none⟩ m.length acc).run P w = .ok ⟨acc.data ++ m.toArray⟩ w := by
        intro m
        induction m with
        | nil => intro j acc _; simp [Extern.Bytes.loadBytes]
        | cons x m ih =>
          intro j acc h
          have h0 := h 0 (by simp)
          simp only [Nat.add_zero, List.getElem_cons_zero] at h0
          have e : (⟨b, o + j, none⟩ : Addr).add 1 = ⟨b, o + (j + 1), none⟩ := by rw [Addr.add_mid]; rfl
          have ih' := ih (j + 1) (acc.push x) (fun i hi => by
            have := h (i + 1) (by simpa using hi)
            simp only [List.getElem_cons_succ] at this
            rw [show o + (j + 1) + i = o + j + (i + 1) from by omega]; exact this)
          simp only [List.length_cons, Extern.Bytes.loadBytes, Sem.run_bind, run_load, h0, Result.andThen]
          rw [e]
          simp only [Int.toNat_natCast]
          rw [show x.toNat.toUInt8 = x from by simp]
          rw [ih']
          congr 2
          simp [ByteArray.push]
      have := key l 0 .empty (fun i hi => hs.cell (hc i hi))
      simp only [Nat.add_zero] at this
      show (Extern.Bytes.loadBytes ⟨b, o, none⟩ l.length .empty).run P w = _
      rw [this]
      congr 2
      simp [ByteArray.empty, ByteArray.emptyWithCapacity]
      rfl
theorem compareBytes_eq : ∀ (a b : List UInt8), Lib.compareBytes a b = cmpL a b
  | [], [] => by simp [Lib.compareBytes, cmpL, Op.bytesLess]
  | [], _ :: _ => by simp [Lib.compareBytes, cmpL, Op.bytesLess]
  | _ :: _, [] => by simp [Lib.compareBytes, cmpL, Op.bytesLess]
  | x :: a, y :: b => by
    have ih := compareBytes_eq a b
    unfold Lib.compareBytes
    rw [ih]
    unfold cmpL
    simp only [Op.bytesLess, Bool.or_eq_true, decide_eq_true_eq, Bool.and_eq_true, beq_iff_eq, List.cons.injEq]
    by_cases h1 : x < y
    · simp [h1]
    · by_cases h2 : y < x
      · have h3 : x ≠ y := by rintro rfl; exact h1 h2
        simp [h1, h2, h3]
      · have h3 : x = y := by
          apply UInt8.toNat_inj.1
          have e1 : ¬ x.toNat < y.toNat := fun q => h1 (UInt8.lt_iff_toNat_lt.2 q)
          have e2 : ¬ y.toNat < x.toNat := fun q => h2 (UInt8.lt_iff_toNat_lt.2 q)
          omega
        subst h3
        simp [h1]
theorem bytealgCompare_run {w : World} {F : Fz} {v u : Value} {l m : List UInt8} (hs : Sat w F) (hv : Bs F v l) (hu : Bs F u m) : (callFunc 127 #[v, u]).run Try.prog w = .ok (.value (.int .i64 (cmpL l m))) w := by
  rw [run_callFunc_extern Try.func127 (by kernel_rfl) (by kernel_rfl) (by kernel_rfl) (e := Extern.BytealgCompare.compare) (by kernel_rfl)]
  have e : (Extern.BytealgCompare.compare #[v, u]).run Try.prog w = .ok (goInt (Extern.BytealgCompare.cmp ⟨l.toArray⟩ ⟨m.toArray⟩)) w := by
    change Sem.run Try.prog (do pure (goInt (Extern.BytealgCompare.cmp (← Extern.Bytes.bytesOf v) (← Extern.Bytes.bytesOf u)))) w = _
    simp only [Sem.run_bind, bytesOf_run hs hv, bytesOf_run hs hu, Result.andThen_ok, Sem.run_pure]
  rw [e, Lib.cmp_eq, compareBytes_eq]
  rfl
set_option maxHeartbeats 8000000 in
theorem bytesCompare_spec (F : Fz) (w : World) (v u : Value) (l m : List UInt8) (hs : Sat w F) (hv : Bs F v l) (hu : Bs F u m) :
    Calls Try.prog 95 #[v, u] w (Tells w (.int .i64 (cmpL l m))) := by
  obtain ⟨a, c, rfl, _⟩ := hv.shape
  obtain ⟨a2, c2, rfl, _⟩ := hu.shape
  have S := St.start hs
  go_enter Try.func95, Try.ntmps95
  refine wp_seq_k (fun K1 hK1 => ?_)
  refine region_wl ?_
  refine do_ rfl (.int .i64 0) (ex_assign _) ?_
  simp only [Act.put, List.setIfInBounds_toArray, List.set_cons_succ, List.set_cons_zero]
  refine wl_nil ?_
  (try simp only [Exit.then, Exit.inBlock, ↓reduceIte, Nat.reduceEqDiff])
  refine hK1 _ _ ?_
  refine wp_seq_k (fun K2 hK2 => ?_)
  refine region_wl ?_
  refine do_ rfl (.slice a l.length c) (ex_move _) ?_
  simp only [Act.put, List.setIfInBounds_toArray, List.set_cons_succ, List.set_cons_zero]
  refine do_ rfl (.slice a2 m.length c2) (ex_move _) ?_
  simp only [Act.put, List.setIfInBounds_toArray, List.set_cons_succ, List.set_cons_zero]
  refine do_ rfl (.int .i64 (cmpL l m)) (ex_fnv (vs := #[(.slice a l.length c), (.slice a2 m.length c2)]) (map2 rfl rfl) rfl (bytealgCompare_run (S).sat hv hu)) ?_
  simp only [Act.put, List.setIfInBounds_toArray, List.set_cons_succ, List.set_cons_zero]
  refine do_ rfl (.int .i64 (cmpL l m)) (ex_assign _) ?_
  simp only [Act.put, List.setIfInBounds_toArray, List.set_cons_succ, List.set_cons_zero]
  refine wl_nil ?_
  (try simp only [Exit.then, Exit.inBlock, ↓reduceIte, Nat.reduceEqDiff])
  refine hK2 _ _ ?_
  refine wp_ret ?_
  (try simp only [Exit.then, Exit.inBlock, ↓reduceIte, Nat.reduceEqDiff])
  refine bodyPost_ret (v := (.int .i64 (cmpL l m))) ?_ rfl ?_
  · exact res_t rfl rfl
  · exact ⟨rfl, S.gr.below⟩
set_option maxHeartbeats 8000000 in
theorem compare_spec (F : Fz) (w : World) (v u : Value) (p q : Pr) (hs : Sat w F) (hv : Pr2V F v p) (hu : Pr2V F u q) :
    Calls Try.prog 89 #[v, u] w (Tells w (.int .i64 (cmpL p.1 q.1))) := by
  obtain ⟨x0, y0, x1, y1, rfl, h0, h1⟩ := hv
  obtain ⟨x0q, y0q, x1q, y1q, rfl, k0, k1⟩ := hu
  have S := St.start hs
  go_enter Try.func89, Try.ntmps89
  refine wp_seq_k (fun K1 hK1 => ?_)
  refine region_wl ?_
  refine stNew S (v := fun n => .pointer (some ⟨n, 0, none⟩)) rfl (ex_box (v := (.agg #[(.slice x0 p.1.length y0), (.slice x1 p.2.length y1)])) rfl) (fun n2 w3 S4 => ?_)
  simp only [Act.put, List.setIfInBounds_toArray, List.set_cons_succ, List.set_cons_zero]
  have S4 : St w F w3 F [⟨n2, [(.slice x0 p.1.length y0), (.slice x1 p.2.length y1)], 49⟩] [] := S4
  refine stNew S4 (v := fun n => .pointer (some ⟨n, 0, none⟩)) rfl (ex_box (v := (.agg #[(.slice x0q q.1.length y0q), (.slice x1q q.2.length y1q)])) rfl) (fun n5 w6 S7 => ?_)
  simp only [Act.put, List.setIfInBounds_toArray, List.set_cons_succ, List.set_cons_zero]
  have S7 : St w F w6 F [⟨n5, [(.slice x0q q.1.length y0q), (.slice x1q q.2.length y1q)], 49⟩, ⟨n2, [(.slice x0 p.1.length y0), (.slice x1 p.2.length y1)], 49⟩] [] := S7
  refine do_ rfl (.int .i64 0) (ex_assign _) ?_
  simp only [Act.put, List.setIfInBounds_toArray, List.set_cons_succ, List.set_cons_zero]
  refine wl_nil ?_
  (try simp only [Exit.then, Exit.inBlock, ↓reduceIte, Nat.reduceEqDiff])
  refine hK1 _ _ ?_
  refine wp_seq_k (fun K8 hK8 => ?_)
  refine region_wl ?_
  refine do_ rfl (.pointer (some ⟨n2, 0, none⟩)) (ex_field (q := ⟨n2, 0, none⟩) rfl (fa_49_0 _ _)) ?_
  simp only [Act.put, List.setIfInBounds_toArray, List.set_cons_succ, List.set_cons_zero]
  refine do_ rfl (.slice x0 p.1.length y0) (ex_load rfl (load1 (nagg_27 _) (St.cell S7 (i := 1) rfl rfl))) ?_
  simp only [Act.put, List.setIfInBounds_toArray, List.set_cons_succ, List.set_cons_zero]
  refine do_ rfl (.pointer (some ⟨n5, 0, none⟩)) (ex_field (q := ⟨n5, 0, none⟩) rfl (fa_49_0 _ _)) ?_
  simp only [Act.put, List.setIfInBounds_toArray, List.set_cons_succ, List.set_cons_zero]
  refine do_ rfl (.slice x0q q.1.length y0q) (ex_load rfl (load1 (nagg_27 _) (St.cell S7 (i := 0) rfl rfl))) ?_
  simp only [Act.put, List.setIfInBounds_toArray, List.set_cons_succ, List.set_cons_zero]
  refine stTells (v := (.int .i64 (cmpL p.1 q.1))) S7 rfl (ex_fn (vs := #[(.slice x0 p.1.length y0), (.slice x0q q.1.length y0q)]) (map2 rfl rfl) rfl (ent_95 _ _)) (bytesCompare_spec _ _ _ _ p.1 q.1 (S7).sat h0 k0) (fun w9 S10 => ?_)
  simp only [Act.put, List.setIfInBounds_toArray, List.set_cons_succ, List.set_cons_zero]
  have S10 : St w F w9 F [⟨n5, [(.slice x0q q.1.length y0q), (.slice x1q q.2.length y1q)], 49⟩, ⟨n2, [(.slice x0 p.1.length y0), (.slice x1 p.2.length y1)], 49⟩] [] := S10
  refine do_ rfl (.int .i64 (cmpL p.1 q.1)) (ex_assign _) ?_
  simp only [Act.put, List.setIfInBounds_toArray, List.set_cons_succ, List.set_cons_zero]
  refine wl_nil ?_
  (try simp only [Exit.then, Exit.inBlock, ↓reduceIte, Nat.reduceEqDiff])
  refine hK8 _ _ ?_
  refine wp_ret ?_
  (try simp only [Exit.then, Exit.inBlock, ↓reduceIte, Nat.reduceEqDiff])
  refine bodyPost_ret (v := (.int .i64 (cmpL p.1 q.1))) ?_ rfl ?_
  · exact res_t rfl rfl
  · exact ⟨rfl, S10.gr.below⟩
def pairE (p : Pr) : Int := if 32 < p.2.length then 1 else checkN p.1.length
set_option maxHeartbeats 8000000 in
theorem pair_spec (F : Fz) (w : World) (v : Value) (p : Pr) (hs : Sat w F) (hv : Pr2V F v p) :
    Calls Try.prog 86 #[v] w (Tells w (.int .i64 (pairE p))) := by
  obtain ⟨x0, y0, x1, y1, rfl, h0, h1⟩ := hv
  have S := St.start hs
  go_enter Try.func86, Try.ntmps86
  refine wp_seq_k (fun K1 hK1 => ?_)
  refine region_wl ?_
  refine stNew S (v := fun n => .pointer (some ⟨n, 0, none⟩)) rfl (ex_box (v := (.agg #[(.slice x0 p.1.length y0), (.slice x1 p.2.length y1)])) rfl) (fun n2 w3 S4 => ?_)
  simp only [Act.put, List.setIfInBounds_toArray, List.set_cons_succ, List.set_cons_zero]
  have S4 : St w F w3 F [⟨n2, [(.slice x0 p.1.length y0), (.slice x1 p.2.length y1)], 49⟩] [] := S4
  refine do_ rfl (.int .i64 0) (ex_assign _) ?_
  simp only [Act.put, List.setIfInBounds_toArray, List.set_cons_succ, List.set_cons_zero]
  refine wl_nil ?_
  (try simp only [Exit.then, Exit.inBlock, ↓reduceIte, Nat.reduceEqDiff])
  refine hK1 _ _ ?_
  refine wp_seq_k (fun K5 hK5 => ?_)
  refine wp_seq_k (fun K6 hK6 => ?_)
  refine region_wl ?_
  refine do_ rfl (.pointer (some ⟨n2, 1, none⟩)) (ex_field (q := ⟨n2, 1, none⟩) rfl (fa_49_1 _ _)) ?_
  simp only [Act.put, List.setIfInBounds_toArray, List.set_cons_succ, List.set_cons_zero]
  refine do_ rfl (.slice x1 p.2.length y1) (ex_load rfl (load1 (nagg_27 _) (St.cell S4 (i := 0) rfl rfl))) ?_
  simp only [Act.put, List.setIfInBounds_toArray, List.set_cons_succ, List.set_cons_zero]
  refine do_ rfl (.int .i64 ((p.2.length : Nat) : Int)) (ex_len Try.underlying27 rfl) ?_
  simp only [Act.put, List.setIfInBounds_toArray, List.set_cons_succ, List.set_cons_zero]
  by_cases hc6 : 32 < p.2.length
  · refine do_ rfl (.bool true) (ex_gtr (m := ((p.2.length : Nat) : Int)) (n := (32 : Int)) (b := true) rfl rfl (decide_eq_true (by omega))) ?_
    simp only [Act.put, List.setIfInBounds_toArray, List.set_cons_succ, List.set_cons_zero]
    refine wl_nil ?_
    (try simp only [Exit.then, Exit.inBlock, ↓reduceIte, Nat.reduceEqDiff])
    refine hK6 _ _ ?_
    refine wp_cond_true rfl ?_
    refine wp_seq_k (fun K7 hK7 => ?_)
    refine region_wl ?_
    refine do_ rfl (.int .i64 1) (ex_assign _) ?_
    simp only [Act.put, List.setIfInBounds_toArray, List.set_cons_succ, List.set_cons_zero]
    refine wl_nil ?_
    (try simp only [Exit.then, Exit.inBlock, ↓reduceIte, Nat.reduceEqDiff])
    refine hK7 _ _ ?_
    refine wp_ret ?_
    (try simp only [Exit.then, Exit.inBlock, ↓reduceIte, Nat.reduceEqDiff])
    refine bodyPost_ret (v := (.int .i64 1)) ?_ rfl ?_
    · exact res_t rfl rfl
    · refine ⟨?_, S4.gr.below⟩
      unfold pairE
      first | rw [if_pos (by omega)] | rw [if_neg (by omega)]
  · refine do_ rfl (.bool false) (ex_gtr (m := ((p.2.length : Nat) : Int)) (n := (32 : Int)) (b := false) rfl rfl (decide_eq_false (by omega))) ?_
    simp only [Act.put, List.setIfInBounds_toArray, List.set_cons_succ, List.set_cons_zero]
    refine wl_nil ?_
    (try simp only [Exit.then, Exit.inBlock, ↓reduceIte, Nat.reduceEqDiff])
    refine hK6 _ _ ?_
    refine wp_cond_false rfl ?_
    refine wp_skip ?_
    (try simp only [Exit.then, Exit.inBlock, ↓reduceIte, Nat.reduceEqDiff])
    refine hK5 _ _ ?_
    refine wp_seq_k (fun K8 hK8 => ?_)
    refine region_wl ?_
    refine do_ rfl (.pointer (some ⟨n2, 0, none⟩)) (ex_field (q := ⟨n2, 0, none⟩) rfl (fa_49_0 _ _)) ?_
    simp only [Act.put, List.setIfInBounds_toArray, List.set_cons_succ, List.set_cons_zero]
    refine do_ rfl (.slice x0 p.1.length y0) (ex_load rfl (load1 (nagg_27 _) (St.cell S4 (i := 0) rfl rfl))) ?_
    simp only [Act.put, List.setIfInBounds_toArray, List.set_cons_succ, List.set_cons_zero]
    refine stTells (v := (.int .i64 (checkN p.1.length))) S4 rfl (ex_fn (vs := #[(.slice x0 p.1.length y0)]) (map1 rfl) rfl (ent_41 _ _)) (tells_same (check_spec _ _ _ p.1 h0)) (fun w9 S10 => ?_)
    simp only [Act.put, List.setIfInBounds_toArray, List.set_cons_succ, List.set_cons_zero]
    have S10 : St w F w9 F [⟨n2, [(.slice x0 p.1.length y0), (.slice x1 p.2.length y1)], 49⟩] [] := S10
    refine do_ rfl (.int .i64 (checkN p.1.length)) (ex_assign _) ?_
    simp only [Act.put, List.setIfInBounds_toArray, List.set_cons_succ, List.set_cons_zero]
    refine wl_nil ?_
    (try simp only [Exit.then, Exit.inBlock, ↓reduceIte, Nat.reduceEqDiff])
    refine hK8 _ _ ?_
    refine wp_ret ?_
    (try simp only [Exit.then, Exit.inBlock, ↓reduceIte, Nat.reduceEqDiff])
    refine bodyPost_ret (v := (.int .i64 (checkN p.1.length))) ?_ rfl ?_
    · exact res_t rfl rfl
    · refine ⟨?_, S10.gr.below⟩
      unfold pairE
      first | rw [if_pos (by omega)] | rw [if_neg (by omega)]
end Go.Proofs.Yteefnnnbbmbmcaa
