/- Walks: slices.BinarySearchFunc at pairs, tree.find, tree.Get -/
import Derived.Test.YteefnnnbbmbmcaaT2
import Derived.Test.YteefnnnbbmbmcaaS6
namespace Go.Proofs.Yteefnnnbbmbmcaa
open Go.RowKit
set_option maxRecDepth 100000
set_option linter.unusedVariables false
set_option linter.unusedSimpArgs false
theorem conv_iu (z : Nat) (h : z < 9223372036854775808) (w : World) : (convert 3 90 (.int .i64 (z : Int))).run Try.prog w = .ok (.int .u64 (z : Int)) w := by
  have e : IntKind.u64.wrap (z : Int) = (z : Int) := by
    rw [show IntKind.u64.wrap (z : Int) = (z : Int) % 18446744073709551616 from rfl]; omega
  go_simp
theorem conv_ui (z : Nat) (h : z < 9223372036854775808) (w : World) : (convert 90 3 (.int .u64 (z : Int))).run Try.prog w = .ok (.int .i64 (z : Int)) w := by
  have e : IntKind.i64.wrap (z : Int) = (z : Int) := wrap64_in (by omega) (by omega)
  go_simp
theorem shr1_u (z : Nat) (w : World) (X : TypeId) : (binOp .shr X (.int .u64 (z : Int)) (.int .u64 1)).run Try.prog w = .ok (.int .u64 ((z / 2 : Nat) : Int)) w := by
  have e : ((z / 2 : Nat) : Int) = (z : Int) / 2 := by omega
  rw [e]
  go_simp
theorem ex_shr {P : Program} {ρ : Operand → Value} {w : World} {d : Option Tmp} {t X Y : TypeId} {pos : String} {after : Array Edge} {guard : Option (Nat × Bool)} {x y : Operand} {k k' : IntKind} {m n : Int} {v : Value} {op : BinOp} (hop : op = .shr ∨ op = .shl) (hx : ρ x = .int k m) (hy : ρ y = .int k' n) (h : (binOp op X (.int k m) (.int k' n)).run P w = .ok v w) : (execOp ρ ⟨d, .binOp op X x y Y, t, pos, after, guard⟩).run P w = .ok (.value v) w := by
  have e : (eqGuard op X x y (.int k m) (.int k' n)).run P w = .ok () w := by
    unfold eqGuard
    rcases hop with rfl | rfl <;> rfl
  simp only [execOp, hx, hy, Sem.run_bind, e, Result.andThen_ok, h, Sem.run_pure]
theorem pos_gt {α : Type} {l : List (By × α)} (hr : Rise l) {h : Nat} {p : By × α} {k : By} (hp : l[h]? = some p) (hlt : cmpL p.1 k < 0) : h + 1 ≤ posT l k := by
  obtain ⟨hh, rfl⟩ := List.getElem?_eq_some_iff.1 hp
  rcases Nat.lt_or_ge h (posT l k) with h1 | h1
  · exact h1
  · exact absurd (cmpL_lt.1 hlt) (posBy_ge hr h1 hh)
theorem pos_le {α : Type} {l : List (By × α)} {h : Nat} {p : By × α} {k : By} (hp : l[h]? = some p) (hge : ¬ cmpL p.1 k < 0) : posT l k ≤ h := by
  obtain ⟨hh, rfl⟩ := List.getElem?_eq_some_iff.1 hp
  rcases Nat.lt_or_ge h (posT l k) with h1 | h1
  · exact absurd (cmpL_lt.2 (posBy_lt (f := (·.1)) h1 hh)) hge
  · exact h1
theorem has_yes {α : Type} {l : List (By × α)} (hr : Rise l) {p : By × α} {k : By} (hp : l[posT l k]? = some p) (h : cmpL p.1 k = 0) : hasT l k = true := by
  obtain ⟨hh, rfl⟩ := List.getElem?_eq_some_iff.1 hp
  exact (hasBy_at hr).2 ⟨hh, cmpL_eq.1 h⟩
theorem has_no {α : Type} {l : List (By × α)} (hr : Rise l) {p : By × α} {k : By} (hp : l[posT l k]? = some p) (h : ¬ cmpL p.1 k = 0) : hasT l k = false := by
  obtain ⟨hh, rfl⟩ := List.getElem?_eq_some_iff.1 hp
  cases e : hasT l k with
  | false => rfl
  | true => obtain ⟨_, h2⟩ := (hasBy_at hr).1 e; exact absurd (cmpL_eq.2 h2) h
theorem has_end {α : Type} {l : List (By × α)} (hr : Rise l) {k : By} (h : ¬ posT l k < l.length) : hasT l k = false := by
  cases e : hasT l k with
  | false => rfl
  | true => obtain ⟨h1, _⟩ := (hasBy_at hr).1 e; exact absurd h1 h
set_option maxHeartbeats 8000000 in
theorem bsearch_spec (F : Fz) (w : World) (v u : Value) (l : List Pr) (q : Pr) (hs : Sat w F) (hv : Prs F v l) (hu : Pr2V F u q) (hr : Rise l) (hl : l.length ≤ 1000000) :
    Calls Try.prog 121 #[v, u, .func (.func 89) #[] #[]] w (Tells w (.tuple #[.int .i64 (posT l q.1 : Nat), .bool (hasT l q.1)])) := by
  obtain ⟨a, c, rfl, hc1, hc2⟩ := Sl.shape hv
  obtain ⟨x0q, y0q, x1q, y1q, rfl, k0, k1⟩ := hu
  unfold maxLen at hc2
  have S := St.start hs
  go_enter Try.func121, Try.ntmps121
  refine wp_seq_k (fun K1 hK1 => ?_)
  refine region_wl ?_
  refine stNew S (v := fun n => .pointer (some ⟨n, 0, none⟩)) rfl (ex_box (v := (.agg #[(.slice x0q q.1.length y0q), (.slice x1q q.2.length y1q)])) rfl) (fun n2 w3 S4 => ?_)
  simp only [Act.put, List.setIfInBounds_toArray, List.set_cons_succ, List.set_cons_zero]
  have S4 : St w F w3 F [⟨n2, [(.slice x0q q.1.length y0q), (.slice x1q q.2.length y1q)], 49⟩] [] := S4
  refine do_ rfl (.int .i64 0) (ex_assign _) ?_
  simp only [Act.put, List.setIfInBounds_toArray, List.set_cons_succ, List.set_cons_zero]
  refine do_ rfl (.bool false) (ex_assign _) ?_
  simp only [Act.put, List.setIfInBounds_toArray, List.set_cons_succ, List.set_cons_zero]
  refine wl_nil ?_
  (try simp only [Exit.then, Exit.inBlock, ↓reduceIte, Nat.reduceEqDiff])
  refine hK1 _ _ ?_
  refine wp_seq_k (fun K5 hK5 => ?_)
  refine region_wl ?_
  refine do_ rfl (.slice a l.length c) (ex_move _) ?_
  simp only [Act.put, List.setIfInBounds_toArray, List.set_cons_succ, List.set_cons_zero]
  refine do_ rfl (.int .i64 ((l.length : Nat) : Int)) (ex_len Try.underlying44 rfl) ?_
  simp only [Act.put, List.setIfInBounds_toArray, List.set_cons_succ, List.set_cons_zero]
  refine do_ rfl (.int .i64 ((l.length : Nat) : Int)) (ex_assign _) ?_
  simp only [Act.put, List.setIfInBounds_toArray, List.set_cons_succ, List.set_cons_zero]
  refine wl_nil ?_
  (try simp only [Exit.then, Exit.inBlock, ↓reduceIte, Nat.reduceEqDiff])
  refine hK5 _ _ ?_
  refine wp_seq_k (fun K6 hK6 => ?_)
  refine region_wl ?_
  refine do_ rfl (.int .i64 ((l.length : Nat) : Int)) (ex_move _) ?_
  simp only [Act.put, List.setIfInBounds_toArray, List.set_cons_succ, List.set_cons_zero]
  refine do_ rfl (.int .i64 0) (ex_assign _) ?_
  simp only [Act.put, List.setIfInBounds_toArray, List.set_cons_succ, List.set_cons_zero]
  refine do_ rfl (.int .i64 ((l.length : Nat) : Int)) (ex_assign _) ?_
  simp only [Act.put, List.setIfInBounds_toArray, List.set_cons_succ, List.set_cons_zero]
  refine wl_nil ?_
  (try simp only [Exit.then, Exit.inBlock, ↓reduceIte, Nat.reduceEqDiff])
  refine hK6 _ _ ?_
  refine wp_seq_k (fun K7 hK7 => ?_)
  refine wp_block ?_
  refine wp_loop_g (fun mm aa w9 => ∃ (i : Nat) (j : Nat) (u8 : Nat → Value), mm = j - i ∧ aa = ⟨#[(.slice a l.length c), (.agg #[(.slice x0q q.1.length y0q), (.slice x1q q.2.length y1q)]), (.func (.func 89) #[] #[]), undef, (.pointer (some ⟨n2, 0, none⟩)), undef, (.int .i64 0), (.bool false), (.int .i64 ((l.length : Nat) : Int)), (.int .i64 ((i : Nat) : Int)), (.int .i64 ((j : Nat) : Int)), (u8 11), (.slice a l.length c), (.int .i64 ((l.length : Nat) : Int)), (.int .i64 ((l.length : Nat) : Int)), (u8 15), (u8 16), (u8 17), (u8 18), (u8 19), (u8 20), (u8 21), (u8 22), (u8 23), (u8 24), (u8 25), (u8 26), (u8 27), (u8 28), (u8 29), (u8 30), (u8 31), (u8 32), (u8 33), (u8 34), undef, undef, undef, undef, undef, undef, undef, undef, undef, undef, undef, undef, undef, undef], []⟩ ∧ St w F w9 F [⟨n2, [(.slice x0q q.1.length y0q), (.slice x1q q.2.length y1q)], 49⟩] [] ∧ (i ≤ j) ∧ (j ≤ l.length) ∧ (i ≤ posT l q.1) ∧ (posT l q.1 ≤ j)) _ ⟨0, l.length, (slotF [(.slice a l.length c), (.agg #[(.slice x0q q.1.length y0q), (.slice x1q q.2.length y1q)]), (.func (.func 89) #[] #[]), undef, (.pointer (some ⟨n2, 0, none⟩)), undef, (.int .i64 0), (.bool false), (.int .i64 ((l.length : Nat) : Int)), (.int .i64 0), (.int .i64 ((l.length : Nat) : Int)), undef, (.slice a l.length c), (.int .i64 ((l.length : Nat) : Int)), (.int .i64 ((l.length : Nat) : Int)), undef, undef, undef, undef, undef, undef, undef, undef, undef, undef, undef, undef, undef, undef, undef, undef, undef, undef, undef, undef, undef, undef, undef, undef, undef, undef, undef, undef, undef, undef, undef, undef, undef, undef]), rfl, rfl, S4, (by omega), (by omega), (by omega), (posBy_le _ _ _)⟩ ?_
  rintro m10 a11 w12 ⟨i, j, u8, rfl, rfl, S13, hij, hj, hip, hjp⟩ K15 hK15
  refine wp_seq_k (fun K16 hK16 => ?_)
  refine wp_seq_k (fun K17 hK17 => ?_)
  refine region_wl ?_
  refine do_ rfl (.int .i64 ((i : Nat) : Int)) (ex_move _) ?_
  simp only [Act.put, List.setIfInBounds_toArray, List.set_cons_succ, List.set_cons_zero]
  refine do_ rfl (.int .i64 ((j : Nat) : Int)) (ex_move _) ?_
  simp only [Act.put, List.setIfInBounds_toArray, List.set_cons_succ, List.set_cons_zero]
  by_cases hc17 : i < j
  · refine do_ rfl (.bool true) (ex_lss (m := ((i : Nat) : Int)) (n := ((j : Nat) : Int)) (b := true) rfl rfl (decide_eq_true (by omega))) ?_
    simp only [Act.put, List.setIfInBounds_toArray, List.set_cons_succ, List.set_cons_zero]
    refine wl_nil ?_
    (try simp only [Exit.then, Exit.inBlock, ↓reduceIte, Nat.reduceEqDiff])
    refine hK17 _ _ ?_
    refine wp_cond_true rfl ?_
    refine wp_skip ?_
    (try simp only [Exit.then, Exit.inBlock, ↓reduceIte, Nat.reduceEqDiff])
    refine hK16 _ _ ?_
    refine wp_block ?_
    refine wp_seq_k (fun K18 hK18 => ?_)
    refine region_wl ?_
    refine do_ rfl (.int .i64 ((i : Nat) : Int)) (ex_move _) ?_
    simp only [Act.put, List.setIfInBounds_toArray, List.set_cons_succ, List.set_cons_zero]
    refine do_ rfl (.int .i64 ((j : Nat) : Int)) (ex_move _) ?_
    simp only [Act.put, List.setIfInBounds_toArray, List.set_cons_succ, List.set_cons_zero]
    refine do_ rfl (.int .i64 (((i + j) : Nat) : Int)) (ex_add (m := ((i : Nat) : Int)) (n := ((j : Nat) : Int)) (r := (((i + j) : Nat) : Int)) rfl rfl (by omega) (by omega) (by omega)) ?_
    simp only [Act.put, List.setIfInBounds_toArray, List.set_cons_succ, List.set_cons_zero]
    refine do_ rfl (.int .u64 (((i + j) : Nat) : Int)) (ex_convert (v := (.int .i64 (((i + j) : Nat) : Int))) rfl (conv_iu (i + j) (by omega) _)) ?_
    simp only [Act.put, List.setIfInBounds_toArray, List.set_cons_succ, List.set_cons_zero]
    refine do_ rfl (.int .u64 (((i + j) / 2 : Nat) : Int)) (ex_shr (.inl rfl) rfl rfl (shr1_u (i + j) _ _)) ?_
    simp only [Act.put, List.setIfInBounds_toArray, List.set_cons_succ, List.set_cons_zero]
    refine do_ rfl (.int .i64 (((i + j) / 2 : Nat) : Int)) (ex_convert (v := (.int .u64 (((i + j) / 2 : Nat) : Int))) rfl (conv_ui ((i + j) / 2) (by omega) _)) ?_
    simp only [Act.put, List.setIfInBounds_toArray, List.set_cons_succ, List.set_cons_zero]
    refine do_ rfl (.int .i64 (((i + j) / 2 : Nat) : Int)) (ex_assign _) ?_
    simp only [Act.put, List.setIfInBounds_toArray, List.set_cons_succ, List.set_cons_zero]
    refine wl_nil ?_
    (try simp only [Exit.then, Exit.inBlock, ↓reduceIte, Nat.reduceEqDiff])
    refine hK18 _ _ ?_
    refine wp_seq_k (fun K19 hK19 => ?_)
    obtain ⟨p, hp⟩ : ∃ p, l[(i + j) / 2]? = some p := ⟨l[(i + j) / 2], List.getElem?_eq_getElem (by omega)⟩
    obtain ⟨b20, o21, ha22, xa24, xc25, xa28, xc29, c23, c27, r26, r30⟩ := Prs.get hv hp
    refine region_gw F 6 [] (by kernel_rfl) (by kernel_rfl) ?_
    simp only [List.take_succ_cons, List.take_zero]
    refine gw_pure rfl rfl (.func (.func 89) #[] #[]) (fun w31 hCw31 => pureAt_of (ex_move _)) ?_
    simp only [Act.put, List.setIfInBounds_toArray, List.set_cons_succ, List.set_cons_zero]
    refine gw_pure rfl rfl (.slice a l.length c) (fun w31 hCw31 => pureAt_of (ex_move _)) ?_
    simp only [Act.put, List.setIfInBounds_toArray, List.set_cons_succ, List.set_cons_zero]
    refine gw_pure rfl rfl (.int .i64 (((i + j) / 2 : Nat) : Int)) (fun w31 hCw31 => pureAt_of (ex_move _)) ?_
    simp only [Act.put, List.setIfInBounds_toArray, List.set_cons_succ, List.set_cons_zero]
    refine gw_pure rfl rfl (.pointer (some ⟨b20, o21 + ((i + j) / 2) * 2, none⟩)) (fun w31 hCw31 => pureAt_of (ex_at (i := (i + j) / 2) (sz := 2) Try.underlying44 (sizeof_49 _) rfl ha22 rfl (by omega) rfl)) ?_
    simp only [Act.put, List.setIfInBounds_toArray, List.set_cons_succ, List.set_cons_zero]
    refine gw_pure rfl rfl (.agg #[(.slice xa24 p.1.length xc25), (.slice xa28 p.2.length xc29)]) (fun w31 hCw31 => pureAt_of (ex_load rfl (loadN (cs := [(.slice xa24 p.1.length xc25), (.slice xa28 p.2.length xc29)]) Try.underlying49 rfl (size_49) (range2 (St.fz (St.tells S13 hCw31) c23) (St.fz (St.tells S13 hCw31) c27))))) ?_
    simp only [Act.put, List.setIfInBounds_toArray, List.set_cons_succ, List.set_cons_zero]
    refine gw_pure rfl rfl (.agg #[(.slice x0q q.1.length y0q), (.slice x1q q.2.length y1q)]) (fun w31 hCw31 => pureAt_of (ex_load rfl (loadN (cs := [(.slice x0q q.1.length y0q), (.slice x1q q.2.length y1q)]) Try.underlying49 rfl (size_49) (St.range (St.tells S13 hCw31) (i := 0) rfl 0 [(.slice x0q q.1.length y0q), (.slice x1q q.2.length y1q)] (sub_range 0 rfl))))) ?_
    simp only [Act.put, List.setIfInBounds_toArray, List.set_cons_succ, List.set_cons_zero]
    refine gw_nil ?_
    intro w32 hC34 hF35
    clear hF35
    have S33 := St.tells S13 hC34
    simp only [List.drop_succ_cons, List.drop_zero]
    have S33 : St w F w32 F [⟨n2, [(.slice x0q q.1.length y0q), (.slice x1q q.2.length y1q)], 49⟩] [] := S33
    refine stTells (v := (.int .i64 (cmpL p.1 q.1))) S33 rfl (ex_fv (fs := #[]) (cs := #[]) (vs := #[(.agg #[(.slice xa24 p.1.length xc25), (.slice xa28 p.2.length xc29)]), (.agg #[(.slice x0q q.1.length y0q), (.slice x1q q.2.length y1q)])]) rfl (vmap (fs := #[]) (cs := #[]) (xs := #[(.agg #[(.slice xa24 p.1.length xc25), (.slice xa28 p.2.length xc29)]), (.agg #[(.slice x0q q.1.length y0q), (.slice x1q q.2.length y1q)])]) (map2 rfl rfl) (by simp)) (ent_89 _ _)) (compare_spec _ _ _ _ p q (S33).sat ⟨_, _, _, _, rfl, r26, r30⟩ ⟨_, _, _, _, rfl, k0, k1⟩) (fun w36 S37 => ?_)
    simp only [Act.put, List.setIfInBounds_toArray, List.set_cons_succ, List.set_cons_zero]
    have S37 : St w F w36 F [⟨n2, [(.slice x0q q.1.length y0q), (.slice x1q q.2.length y1q)], 49⟩] [] := S37
    by_cases hc31 : (cmpL p.1 q.1) < (0 : Int)
    · refine do_ rfl (.bool true) (ex_lss (m := (cmpL p.1 q.1)) (n := (0 : Int)) (b := true) rfl rfl (decide_eq_true (by omega))) ?_
      simp only [Act.put, List.setIfInBounds_toArray, List.set_cons_succ, List.set_cons_zero]
      refine wl_nil ?_
      (try simp only [Exit.then, Exit.inBlock, ↓reduceIte, Nat.reduceEqDiff])
      refine hK19 _ _ ?_
      refine wp_cond_true rfl ?_
      refine region_wl ?_
      refine do_ rfl (.int .i64 (((i + j) / 2 : Nat) : Int)) (ex_move _) ?_
      simp only [Act.put, List.setIfInBounds_toArray, List.set_cons_succ, List.set_cons_zero]
      refine do_ rfl (.int .i64 ((((i + j) / 2 + 1) : Nat) : Int)) (ex_add (m := (((i + j) / 2 : Nat) : Int)) (n := (1 : Int)) (r := ((((i + j) / 2 + 1) : Nat) : Int)) rfl rfl (by omega) (by omega) (by omega)) ?_
      simp only [Act.put, List.setIfInBounds_toArray, List.set_cons_succ, List.set_cons_zero]
      refine do_ rfl (.int .i64 ((((i + j) / 2 + 1) : Nat) : Int)) (ex_assign _) ?_
      simp only [Act.put, List.setIfInBounds_toArray, List.set_cons_succ, List.set_cons_zero]
      refine wl_nil ?_
      (try simp only [Exit.then, Exit.inBlock, ↓reduceIte, Nat.reduceEqDiff])
      exact hK15 _ _ _ (by omega) ⟨((i + j) / 2 + 1), j, (slotF [(.slice a l.length c), (.agg #[(.slice x0q q.1.length y0q), (.slice x1q q.2.length y1q)]), (.func (.func 89) #[] #[]), undef, (.pointer (some ⟨n2, 0, none⟩)), undef, (.int .i64 0), (.bool false), (.int .i64 ((l.length : Nat) : Int)), (.int .i64 ((((i + j) / 2 + 1) : Nat) : Int)), (.int .i64 ((j : Nat) : Int)), (.int .i64 (((i + j) / 2 : Nat) : Int)), (.slice a l.length c), (.int .i64 ((l.length : Nat) : Int)), (.int .i64 ((l.length : Nat) : Int)), (.int .i64 ((i : Nat) : Int)), (.int .i64 ((j : Nat) : Int)), (.bool true), (.int .i64 ((i : Nat) : Int)), (.int .i64 ((j : Nat) : Int)), (.int .i64 (((i + j) : Nat) : Int)), (.int .u64 (((i + j) : Nat) : Int)), (.int .u64 (((i + j) / 2 : Nat) : Int)), (.int .i64 (((i + j) / 2 : Nat) : Int)), (.func (.func 89) #[] #[]), (.slice a l.length c), (.int .i64 (((i + j) / 2 : Nat) : Int)), (.pointer (some ⟨b20, o21 + ((i + j) / 2) * 2, none⟩)), (.agg #[(.slice xa24 p.1.length xc25), (.slice xa28 p.2.length xc29)]), (.agg #[(.slice x0q q.1.length y0q), (.slice x1q q.2.length y1q)]), (.int .i64 (cmpL p.1 q.1)), (.bool true), (.int .i64 (((i + j) / 2 : Nat) : Int)), (.int .i64 ((((i + j) / 2 + 1) : Nat) : Int)), (u8 34), undef, undef, undef, undef, undef, undef, undef, undef, undef, undef, undef, undef, undef, undef]), rfl, rfl, S37, (by have := pos_gt hr hp hc31; omega), (by omega), (pos_gt hr hp hc31), (by omega)⟩
    · refine do_ rfl (.bool false) (ex_lss (m := (cmpL p.1 q.1)) (n := (0 : Int)) (b := false) rfl rfl (decide_eq_false (by omega))) ?_
      simp only [Act.put, List.setIfInBounds_toArray, List.set_cons_succ, List.set_cons_zero]
      refine wl_nil ?_
      (try simp only [Exit.then, Exit.inBlock, ↓reduceIte, Nat.reduceEqDiff])
      refine hK19 _ _ ?_
      refine wp_cond_false rfl ?_
      refine region_wl ?_
      refine do_ rfl (.int .i64 (((i + j) / 2 : Nat) : Int)) (ex_move _) ?_
      simp only [Act.put, List.setIfInBounds_toArray, List.set_cons_succ, List.set_cons_zero]
      refine do_ rfl (.int .i64 (((i + j) / 2 : Nat) : Int)) (ex_assign _) ?_
      simp only [Act.put, List.setIfInBounds_toArray, List.set_cons_succ, List.set_cons_zero]
      refine wl_nil ?_
      (try simp only [Exit.then, Exit.inBlock, ↓reduceIte, Nat.reduceEqDiff])
      exact hK15 _ _ _ (by omega) ⟨i, (i + j) / 2, (slotF [(.slice a l.length c), (.agg #[(.slice x0q q.1.length y0q), (.slice x1q q.2.length y1q)]), (.func (.func 89) #[] #[]), undef, (.pointer (some ⟨n2, 0, none⟩)), undef, (.int .i64 0), (.bool false), (.int .i64 ((l.length : Nat) : Int)), (.int .i64 ((i : Nat) : Int)), (.int .i64 (((i + j) / 2 : Nat) : Int)), (.int .i64 (((i + j) / 2 : Nat) : Int)), (.slice a l.length c), (.int .i64 ((l.length : Nat) : Int)), (.int .i64 ((l.length : Nat) : Int)), (.int .i64 ((i : Nat) : Int)), (.int .i64 ((j : Nat) : Int)), (.bool true), (.int .i64 ((i : Nat) : Int)), (.int .i64 ((j : Nat) : Int)), (.int .i64 (((i + j) : Nat) : Int)), (.int .u64 (((i + j) : Nat) : Int)), (.int .u64 (((i + j) / 2 : Nat) : Int)), (.int .i64 (((i + j) / 2 : Nat) : Int)), (.func (.func 89) #[] #[]), (.slice a l.length c), (.int .i64 (((i + j) / 2 : Nat) : Int)), (.pointer (some ⟨b20, o21 + ((i + j) / 2) * 2, none⟩)), (.agg #[(.slice xa24 p.1.length xc25), (.slice xa28 p.2.length xc29)]), (.agg #[(.slice x0q q.1.length y0q), (.slice x1q q.2.length y1q)]), (.int .i64 (cmpL p.1 q.1)), (.bool false), (u8 32), (u8 33), (.int .i64 (((i + j) / 2 : Nat) : Int)), undef, undef, undef, undef, undef, undef, undef, undef, undef, undef, undef, undef, undef, undef]), rfl, rfl, S37, (by omega), (by omega), (by omega), (pos_le hp hc31)⟩
  · refine do_ rfl (.bool false) (ex_lss (m := ((i : Nat) : Int)) (n := ((j : Nat) : Int)) (b := false) rfl rfl (decide_eq_false (by omega))) ?_
    simp only [Act.put, List.setIfInBounds_toArray, List.set_cons_succ, List.set_cons_zero]
    refine wl_nil ?_
    (try simp only [Exit.then, Exit.inBlock, ↓reduceIte, Nat.reduceEqDiff])
    refine hK17 _ _ ?_
    refine wp_cond_false rfl ?_
    refine wp_exit ?_
    (try simp only [Exit.then, Exit.inBlock, ↓reduceIte, Nat.reduceEqDiff])
    refine hK7 _ _ ?_
    refine wp_seq_k (fun K38 hK38 => ?_)
    by_cases h0 : i < l.length
    · have hip2 : posT l q.1 = i := by omega
      obtain ⟨p, hp⟩ : ∃ p, l[i]? = some p := ⟨l[i], List.getElem?_eq_getElem h0⟩
      obtain ⟨b39, o40, ha41, xa43, xc44, xa47, xc48, c42, c46, r45, r49⟩ := Prs.get hv hp
      by_cases hc47 : cmpL p.1 q.1 = 0
      · refine region_gw F 15 [(11, .is (.int .i64 (cmpL p.1 q.1)))] (by kernel_rfl) (by kernel_rfl) ?_
        simp only [List.take_succ_cons, List.take_zero]
        refine gw_pure rfl rfl (.int .i64 ((i : Nat) : Int)) (fun w50 hCw50 => pureAt_of (ex_move _)) ?_
        simp only [Act.put, List.setIfInBounds_toArray, List.set_cons_succ, List.set_cons_zero]
        refine gw_pure rfl rfl (.int .i64 ((i : Nat) : Int)) (fun w50 hCw50 => pureAt_of (ex_move _)) ?_
        simp only [Act.put, List.setIfInBounds_toArray, List.set_cons_succ, List.set_cons_zero]
        refine gw_pure rfl rfl (.int .i64 ((l.length : Nat) : Int)) (fun w50 hCw50 => pureAt_of (ex_move _)) ?_
        simp only [Act.put, List.setIfInBounds_toArray, List.set_cons_succ, List.set_cons_zero]
        refine gw_pure rfl rfl (.bool true) (fun w50 hCw50 => pureAt_of (ex_lss (m := ((i : Nat) : Int)) (n := ((l.length : Nat) : Int)) (b := true) rfl rfl (decide_eq_true (by omega)))) ?_
        simp only [Act.put, List.setIfInBounds_toArray, List.set_cons_succ, List.set_cons_zero]
        refine gw_pure rfl rfl (.bool true) (fun w50 hCw50 => pureAt_of (ex_move _)) ?_
        simp only [Act.put, List.setIfInBounds_toArray, List.set_cons_succ, List.set_cons_zero]
        refine gw_pure rfl rfl (.func (.func 89) #[] #[]) (fun w50 hCw50 => pureAt_of (ex_move _)) ?_
        simp only [Act.put, List.setIfInBounds_toArray, List.set_cons_succ, List.set_cons_zero]
        refine gw_pure rfl rfl (.slice a l.length c) (fun w50 hCw50 => pureAt_of (ex_move _)) ?_
        simp only [Act.put, List.setIfInBounds_toArray, List.set_cons_succ, List.set_cons_zero]
        refine gw_pure rfl rfl (.int .i64 ((i : Nat) : Int)) (fun w50 hCw50 => pureAt_of (ex_move _)) ?_
        simp only [Act.put, List.setIfInBounds_toArray, List.set_cons_succ, List.set_cons_zero]
        refine gw_pure rfl rfl (.pointer (some ⟨b39, o40 + i * 2, none⟩)) (fun w50 hCw50 => pureAt_of (ex_at (i := i) (sz := 2) Try.underlying44 (sizeof_49 _) rfl ha41 rfl (by omega) rfl)) ?_
        simp only [Act.put, List.setIfInBounds_toArray, List.set_cons_succ, List.set_cons_zero]
        refine gw_pure rfl rfl (.agg #[(.slice xa43 p.1.length xc44), (.slice xa47 p.2.length xc48)]) (fun w50 hCw50 => pureAt_of (ex_load rfl (loadN (cs := [(.slice xa43 p.1.length xc44), (.slice xa47 p.2.length xc48)]) Try.underlying49 rfl (size_49) (range2 (St.fz (St.tells S13 hCw50) c42) (St.fz (St.tells S13 hCw50) c46))))) ?_
        simp only [Act.put, List.setIfInBounds_toArray, List.set_cons_succ, List.set_cons_zero]
        refine gw_pure rfl rfl (.agg #[(.slice x0q q.1.length y0q), (.slice x1q q.2.length y1q)]) (fun w50 hCw50 => pureAt_of (ex_load rfl (loadN (cs := [(.slice x0q q.1.length y0q), (.slice x1q q.2.length y1q)]) Try.underlying49 rfl (size_49) (St.range (St.tells S13 hCw50) (i := 0) rfl 0 [(.slice x0q q.1.length y0q), (.slice x1q q.2.length y1q)] (sub_range 0 rfl))))) ?_
        simp only [Act.put, List.setIfInBounds_toArray, List.set_cons_succ, List.set_cons_zero]
        refine gw_const rfl rfl (v := (.int .i64 (cmpL p.1 q.1))) (fun w50 hCw50 _ => does_call (ex_fv (fs := #[]) (cs := #[]) (vs := #[(.agg #[(.slice xa43 p.1.length xc44), (.slice xa47 p.2.length xc48)]), (.agg #[(.slice x0q q.1.length y0q), (.slice x1q q.2.length y1q)])]) rfl (vmap (fs := #[]) (cs := #[]) (xs := #[(.agg #[(.slice xa43 p.1.length xc44), (.slice xa47 p.2.length xc48)]), (.agg #[(.slice x0q q.1.length y0q), (.slice x1q q.2.length y1q)])]) (map2 rfl rfl) (by simp)) (ent_89 _ _)) (call_tells (compare_spec _ _ _ _ p q ((St.tells S13 hCw50)).sat ⟨_, _, _, _, rfl, r45, r49⟩ ⟨_, _, _, _, rfl, k0, k1⟩))) ?_
        simp only [Act.put, List.setIfInBounds_toArray, List.set_cons_succ, List.set_cons_zero]
        refine gw_pure rfl rfl (.bool true) (fun w50 hCw50 => pureAt_of (ex_eql (m := (cmpL p.1 q.1)) (n := (0 : Int)) (b := true) rfl rfl (beq_iff_eq.2 (by omega)))) ?_
        simp only [Act.put, List.setIfInBounds_toArray, List.set_cons_succ, List.set_cons_zero]
        refine gw_pure rfl rfl (.bool true) (fun w50 hCw50 => pureAt_of (ex_pick (b := true) rfl)) ?_
        simp only [Act.put, List.setIfInBounds_toArray, List.set_cons_succ, List.set_cons_zero]
        refine gw_pure rfl rfl (.int .i64 ((i : Nat) : Int)) (fun w50 hCw50 => pureAt_of (ex_assign _)) ?_
        simp only [Act.put, List.setIfInBounds_toArray, List.set_cons_succ, List.set_cons_zero]
        refine gw_nil ?_
        intro w51 hC53 hF54
        clear hF54
        have S52 := St.tells S13 hC53
        simp only [List.drop_succ_cons, List.drop_zero]
        have S52 : St w F w51 F [⟨n2, [(.slice x0q q.1.length y0q), (.slice x1q q.2.length y1q)], 49⟩] [] := S52
        refine do_ rfl (.bool true) (ex_assign _) ?_
        simp only [Act.put, List.setIfInBounds_toArray, List.set_cons_succ, List.set_cons_zero]
        refine wl_nil ?_
        (try simp only [Exit.then, Exit.inBlock, ↓reduceIte, Nat.reduceEqDiff])
        refine hK38 _ _ ?_
        refine wp_ret ?_
        (try simp only [Exit.then, Exit.inBlock, ↓reduceIte, Nat.reduceEqDiff])
        refine bodyPost_ret (v := (.tuple #[(.int .i64 ((i : Nat) : Int)), (.bool true)])) ?_ rfl ?_
        · exact res_tt rfl rfl rfl
        · have e2 := has_yes hr (by rw [hip2]; exact hp) hc47
          exact ⟨by rw [e2, hip2], S52.gr.below⟩
      · refine region_gw F 15 [(11, .is (.int .i64 (cmpL p.1 q.1)))] (by kernel_rfl) (by kernel_rfl) ?_
        simp only [List.take_succ_cons, List.take_zero]
        refine gw_pure rfl rfl (.int .i64 ((i : Nat) : Int)) (fun w55 hCw55 => pureAt_of (ex_move _)) ?_
        simp only [Act.put, List.setIfInBounds_toArray, List.set_cons_succ, List.set_cons_zero]
        refine gw_pure rfl rfl (.int .i64 ((i : Nat) : Int)) (fun w55 hCw55 => pureAt_of (ex_move _)) ?_
        simp only [Act.put, List.setIfInBounds_toArray, List.set_cons_succ, List.set_cons_zero]
        refine gw_pure rfl rfl (.int .i64 ((l.length : Nat) : Int)) (fun w55 hCw55 => pureAt_of (ex_move _)) ?_
        simp only [Act.put, List.setIfInBounds_toArray, List.set_cons_succ, List.set_cons_zero]
        refine gw_pure rfl rfl (.bool true) (fun w55 hCw55 => pureAt_of (ex_lss (m := ((i : Nat) : Int)) (n := ((l.length : Nat) : Int)) (b := true) rfl rfl (decide_eq_true (by omega)))) ?_
        simp only [Act.put, List.setIfInBounds_toArray, List.set_cons_succ, List.set_cons_zero]
        refine gw_pure rfl rfl (.bool true) (fun w55 hCw55 => pureAt_of (ex_move _)) ?_
        simp only [Act.put, List.setIfInBounds_toArray, List.set_cons_succ, List.set_cons_zero]
        refine gw_pure rfl rfl (.func (.func 89) #[] #[]) (fun w55 hCw55 => pureAt_of (ex_move _)) ?_
        simp only [Act.put, List.setIfInBounds_toArray, List.set_cons_succ, List.set_cons_zero]
        refine gw_pure rfl rfl (.slice a l.length c) (fun w55 hCw55 => pureAt_of (ex_move _)) ?_
        simp only [Act.put, List.setIfInBounds_toArray, List.set_cons_succ, List.set_cons_zero]
        refine gw_pure rfl rfl (.int .i64 ((i : Nat) : Int)) (fun w55 hCw55 => pureAt_of (ex_move _)) ?_
        simp only [Act.put, List.setIfInBounds_toArray, List.set_cons_succ, List.set_cons_zero]
        refine gw_pure rfl rfl (.pointer (some ⟨b39, o40 + i * 2, none⟩)) (fun w55 hCw55 => pureAt_of (ex_at (i := i) (sz := 2) Try.underlying44 (sizeof_49 _) rfl ha41 rfl (by omega) rfl)) ?_
        simp only [Act.put, List.setIfInBounds_toArray, List.set_cons_succ, List.set_cons_zero]
        refine gw_pure rfl rfl (.agg #[(.slice xa43 p.1.length xc44), (.slice xa47 p.2.length xc48)]) (fun w55 hCw55 => pureAt_of (ex_load rfl (loadN (cs := [(.slice xa43 p.1.length xc44), (.slice xa47 p.2.length xc48)]) Try.underlying49 rfl (size_49) (range2 (St.fz (St.tells S13 hCw55) c42) (St.fz (St.tells S13 hCw55) c46))))) ?_
        simp only [Act.put, List.setIfInBounds_toArray, List.set_cons_succ, List.set_cons_zero]
        refine gw_pure rfl rfl (.agg #[(.slice x0q q.1.length y0q), (.slice x1q q.2.length y1q)]) (fun w55 hCw55 => pureAt_of (ex_load rfl (loadN (cs := [(.slice x0q q.1.length y0q), (.slice x1q q.2.length y1q)]) Try.underlying49 rfl (size_49) (St.range (St.tells S13 hCw55) (i := 0) rfl 0 [(.slice x0q q.1.length y0q), (.slice x1q q.2.length y1q)] (sub_range 0 rfl))))) ?_
        simp only [Act.put, List.setIfInBounds_toArray, List.set_cons_succ, List.set_cons_zero]
        refine gw_const rfl rfl (v := (.int .i64 (cmpL p.1 q.1))) (fun w55 hCw55 _ => does_call (ex_fv (fs := #[]) (cs := #[]) (vs := #[(.agg #[(.slice xa43 p.1.length xc44), (.slice xa47 p.2.length xc48)]), (.agg #[(.slice x0q q.1.length y0q), (.slice x1q q.2.length y1q)])]) rfl (vmap (fs := #[]) (cs := #[]) (xs := #[(.agg #[(.slice xa43 p.1.length xc44), (.slice xa47 p.2.length xc48)]), (.agg #[(.slice x0q q.1.length y0q), (.slice x1q q.2.length y1q)])]) (map2 rfl rfl) (by simp)) (ent_89 _ _)) (call_tells (compare_spec _ _ _ _ p q ((St.tells S13 hCw55)).sat ⟨_, _, _, _, rfl, r45, r49⟩ ⟨_, _, _, _, rfl, k0, k1⟩))) ?_
        simp only [Act.put, List.setIfInBounds_toArray, List.set_cons_succ, List.set_cons_zero]
        refine gw_pure rfl rfl (.bool false) (fun w55 hCw55 => pureAt_of (ex_eql (m := (cmpL p.1 q.1)) (n := (0 : Int)) (b := false) rfl rfl (beq_eq_false_iff_ne.2 (by omega)))) ?_
        simp only [Act.put, List.setIfInBounds_toArray, List.set_cons_succ, List.set_cons_zero]
        refine gw_pure rfl rfl (.bool false) (fun w55 hCw55 => pureAt_of (ex_pick (b := true) rfl)) ?_
        simp only [Act.put, List.setIfInBounds_toArray, List.set_cons_succ, List.set_cons_zero]
        refine gw_pure rfl rfl (.int .i64 ((i : Nat) : Int)) (fun w55 hCw55 => pureAt_of (ex_assign _)) ?_
        simp only [Act.put, List.setIfInBounds_toArray, List.set_cons_succ, List.set_cons_zero]
        refine gw_nil ?_
        intro w56 hC58 hF59
        clear hF59
        have S57 := St.tells S13 hC58
        simp only [List.drop_succ_cons, List.drop_zero]
        have S57 : St w F w56 F [⟨n2, [(.slice x0q q.1.length y0q), (.slice x1q q.2.length y1q)], 49⟩] [] := S57
        refine do_ rfl (.bool false) (ex_assign _) ?_
        simp only [Act.put, List.setIfInBounds_toArray, List.set_cons_succ, List.set_cons_zero]
        refine wl_nil ?_
        (try simp only [Exit.then, Exit.inBlock, ↓reduceIte, Nat.reduceEqDiff])
        refine hK38 _ _ ?_
        refine wp_ret ?_
        (try simp only [Exit.then, Exit.inBlock, ↓reduceIte, Nat.reduceEqDiff])
        refine bodyPost_ret (v := (.tuple #[(.int .i64 ((i : Nat) : Int)), (.bool false)])) ?_ rfl ?_
        · exact res_tt rfl rfl rfl
        · have e1 : posT l q.1 = i := by omega
          have e2 : hasT l q.1 = false := by first | exact has_no hr (by rw [e1]; assumption) (by assumption) | exact has_end hr (by omega)
          exact ⟨by rw [e2, e1], S57.gr.below⟩
    · refine region_gw F 15 [] (by kernel_rfl) (by kernel_rfl) ?_
      simp only [List.take_succ_cons, List.take_zero]
      refine gw_pure rfl rfl (.int .i64 ((i : Nat) : Int)) (fun w60 hCw60 => pureAt_of (ex_move _)) ?_
      simp only [Act.put, List.setIfInBounds_toArray, List.set_cons_succ, List.set_cons_zero]
      refine gw_pure rfl rfl (.int .i64 ((i : Nat) : Int)) (fun w60 hCw60 => pureAt_of (ex_move _)) ?_
      simp only [Act.put, List.setIfInBounds_toArray, List.set_cons_succ, List.set_cons_zero]
      refine gw_pure rfl rfl (.int .i64 ((l.length : Nat) : Int)) (fun w60 hCw60 => pureAt_of (ex_move _)) ?_
      simp only [Act.put, List.setIfInBounds_toArray, List.set_cons_succ, List.set_cons_zero]
      refine gw_pure rfl rfl (.bool false) (fun w60 hCw60 => pureAt_of (ex_lss (m := ((i : Nat) : Int)) (n := ((l.length : Nat) : Int)) (b := false) rfl rfl (decide_eq_false (by omega)))) ?_
      simp only [Act.put, List.setIfInBounds_toArray, List.set_cons_succ, List.set_cons_zero]
      refine gw_pure rfl rfl (.bool false) (fun w60 hCw60 => pureAt_of (ex_move _)) ?_
      simp only [Act.put, List.setIfInBounds_toArray, List.set_cons_succ, List.set_cons_zero]
      refine gw_skip (wanted_no rfl rfl rfl (c := false) rfl (by decide)) ?_
      simp only [Act.put, List.setIfInBounds_toArray, List.set_cons_succ, List.set_cons_zero]
      refine gw_skip (wanted_no rfl rfl rfl (c := false) rfl (by decide)) ?_
      simp only [Act.put, List.setIfInBounds_toArray, List.set_cons_succ, List.set_cons_zero]
      refine gw_skip (wanted_no rfl rfl rfl (c := false) rfl (by decide)) ?_
      simp only [Act.put, List.setIfInBounds_toArray, List.set_cons_succ, List.set_cons_zero]
      refine gw_skip (wanted_no rfl rfl rfl (c := false) rfl (by decide)) ?_
      simp only [Act.put, List.setIfInBounds_toArray, List.set_cons_succ, List.set_cons_zero]
      refine gw_skip (wanted_no rfl rfl rfl (c := false) rfl (by decide)) ?_
      simp only [Act.put, List.setIfInBounds_toArray, List.set_cons_succ, List.set_cons_zero]
      refine gw_skip (wanted_no rfl rfl rfl (c := false) rfl (by decide)) ?_
      simp only [Act.put, List.setIfInBounds_toArray, List.set_cons_succ, List.set_cons_zero]
      refine gw_skip (wanted_no rfl rfl rfl (c := false) rfl (by decide)) ?_
      simp only [Act.put, List.setIfInBounds_toArray, List.set_cons_succ, List.set_cons_zero]
      refine gw_skip (wanted_no rfl rfl rfl (c := false) rfl (by decide)) ?_
      simp only [Act.put, List.setIfInBounds_toArray, List.set_cons_succ, List.set_cons_zero]
      refine gw_pure rfl rfl (.bool false) (fun w60 hCw60 => pureAt_of (ex_pick (b := false) rfl)) ?_
      simp only [Act.put, List.setIfInBounds_toArray, List.set_cons_succ, List.set_cons_zero]
      refine gw_pure rfl rfl (.int .i64 ((i : Nat) : Int)) (fun w60 hCw60 => pureAt_of (ex_assign _)) ?_
      simp only [Act.put, List.setIfInBounds_toArray, List.set_cons_succ, List.set_cons_zero]
      refine gw_nil ?_
      intro w61 hC63 hF64
      clear hF64
      have S62 := St.tells S13 hC63
      simp only [List.drop_succ_cons, List.drop_zero]
      have S62 : St w F w61 F [⟨n2, [(.slice x0q q.1.length y0q), (.slice x1q q.2.length y1q)], 49⟩] [] := S62
      refine do_ rfl (.bool false) (ex_assign _) ?_
      simp only [Act.put, List.setIfInBounds_toArray, List.set_cons_succ, List.set_cons_zero]
      refine wl_nil ?_
      (try simp only [Exit.then, Exit.inBlock, ↓reduceIte, Nat.reduceEqDiff])
      refine hK38 _ _ ?_
      refine wp_ret ?_
      (try simp only [Exit.then, Exit.inBlock, ↓reduceIte, Nat.reduceEqDiff])
      refine bodyPost_ret (v := (.tuple #[(.int .i64 ((i : Nat) : Int)), (.bool false)])) ?_ rfl ?_
      · exact res_tt rfl rfl rfl
      · have e1 : posT l q.1 = i := by omega
        have e2 : hasT l q.1 = false := by first | exact has_no hr (by rw [e1]; assumption) (by assumption) | exact has_end hr (by omega)
        exact ⟨by rw [e2, e1], S62.gr.below⟩
set_option maxHeartbeats 8000000 in
theorem find_spec (F : Fz) (w : World) (v u : Value) (l : List Pr) (k : By) (hs : Sat w F) (hv : Prs F v l) (hu : Bs F u k) (hr : Rise l) (hl : l.length ≤ 1000000) :
    Calls Try.prog 82 #[v, u] w (Tells w (.tuple #[.int .i64 (posT l k : Nat), .bool (hasT l k)])) := by
  obtain ⟨a, c, rfl, hc1, hc2⟩ := Sl.shape hv
  obtain ⟨a2, c2, rfl, _⟩ := hu.shape
  have S := St.start hs
  go_enter Try.func82, Try.ntmps82
  refine wp_seq_k (fun K1 hK1 => ?_)
  refine region_wl ?_
  refine do_ rfl (.int .i64 0) (ex_assign _) ?_
  simp only [Act.put, List.setIfInBounds_toArray, List.set_cons_succ, List.set_cons_zero]
  refine do_ rfl (.bool false) (ex_assign _) ?_
  simp only [Act.put, List.setIfInBounds_toArray, List.set_cons_succ, List.set_cons_zero]
  refine wl_nil ?_
  (try simp only [Exit.then, Exit.inBlock, ↓reduceIte, Nat.reduceEqDiff])
  refine hK1 _ _ ?_
  refine wp_seq_k (fun K2 hK2 => ?_)
  refine region_wl ?_
  refine do_ rfl (.slice a l.length c) (ex_move _) ?_
  simp only [Act.put, List.setIfInBounds_toArray, List.set_cons_succ, List.set_cons_zero]
  refine do_ rfl (.slice a2 k.length c2) (ex_move _) ?_
  simp only [Act.put, List.setIfInBounds_toArray, List.set_cons_succ, List.set_cons_zero]
  refine do_ rfl (.agg #[(.slice a2 k.length c2), (.slice none 0 0)]) (ex_build (ps := #[(0, (.slice a2 k.length c2))]) (bmap1 rfl) (by kernel_rfl)) ?_
  simp only [Act.put, List.setIfInBounds_toArray, List.set_cons_succ, List.set_cons_zero]
  refine stTells (v := (.tuple #[(.int .i64 (((posT l k) : Nat) : Int)), (.bool (hasT l k))])) S rfl (ex_fn (vs := #[(.slice a l.length c), (.agg #[(.slice a2 k.length c2), (.slice none 0 0)]), (.func (.func 89) #[] #[])]) (map3 rfl rfl rfl) rfl (ent_121 _ _)) (bsearch_spec _ _ _ _ l (k, []) (S).sat hv ⟨_, _, _, _, rfl, hu, Bs.nil _⟩ hr (by omega)) (fun w3 S4 => ?_)
  simp only [Act.put, List.setIfInBounds_toArray, List.set_cons_succ, List.set_cons_zero]
  have S4 : St w F w3 F [] [] := S4
  refine do_ rfl (.int .i64 (((posT l k) : Nat) : Int)) (ex_extract rfl rfl) ?_
  simp only [Act.put, List.setIfInBounds_toArray, List.set_cons_succ, List.set_cons_zero]
  refine do_ rfl (.bool (hasT l k)) (ex_extract rfl rfl) ?_
  simp only [Act.put, List.setIfInBounds_toArray, List.set_cons_succ, List.set_cons_zero]
  refine do_ rfl (.int .i64 (((posT l k) : Nat) : Int)) (ex_assign _) ?_
  simp only [Act.put, List.setIfInBounds_toArray, List.set_cons_succ, List.set_cons_zero]
  refine do_ rfl (.bool (hasT l k)) (ex_assign _) ?_
  simp only [Act.put, List.setIfInBounds_toArray, List.set_cons_succ, List.set_cons_zero]
  refine wl_nil ?_
  (try simp only [Exit.then, Exit.inBlock, ↓reduceIte, Nat.reduceEqDiff])
  refine hK2 _ _ ?_
  refine wp_ret ?_
  (try simp only [Exit.then, Exit.inBlock, ↓reduceIte, Nat.reduceEqDiff])
  refine bodyPost_ret (v := (.tuple #[(.int .i64 (((posT l k) : Nat) : Int)), (.bool (hasT l k))])) ?_ rfl ?_
  · exact res_tt rfl rfl rfl
  · exact ⟨rfl, S4.gr.below⟩
/-- A finding. -/
def FndV (F : Fz) (u : Value) (o : Option By) : Prop := ∃ a c, u = .agg #[.bool o.isSome, .slice a (o.getD []).length c] ∧ Bs F (.slice a (o.getD []).length c) (o.getD [])
theorem FndV.mono {F F' : Fz} {u : Value} {o : Option By} (h : FndV F u o) (hl : Le F F') : FndV F' u o := by
  obtain ⟨a, c, rfl, h1⟩ := h; exact ⟨a, c, rfl, h1.mono hl⟩
def GetR (o : Option By) (e : Int) (F : Fz) (u : Value) : Prop := ∃ x, u = .tuple #[x, .int .i64 e] ∧ FndV F x o
theorem get_has {l : List Pr} (hr : Rise l) {k : By} {p : Pr} (h : hasT l k = true) (hp : l[posT l k]? = some p) : getT l k = some p.2 := by
  obtain ⟨hh, rfl⟩ := List.getElem?_eq_some_iff.1 hp
  obtain ⟨_, h2⟩ := (hasBy_at hr).1 h
  have := mem_getT hr (List.getElem_mem hh)
  rw [show l[posT l k].1 = k from h2] at this
  exact this
theorem get_not {α : Type} {l : List (By × α)} {k : By} (h : ¬ hasT l k = true) : getT l k = none := by
  rw [hasT_getT] at h
  cases e : getT l k with
  | none => rfl
  | some _ => rw [e] at h; exact absurd rfl h
set_option maxHeartbeats 8000000 in
theorem get_spec (F : Fz) (w : World) (v u : Value) (l : List Pr) (k : By) (hs : Sat w F) (hv : Prs F v l) (hu : Bs F u k) (ok1 : TreeOk 60 l) (hk1 : 1 ≤ k.length) (hk2 : k.length ≤ 16) :
    Calls Try.prog 51 #[v, u] w (Gives w F (GetR (getT l k) 0)) := by
  have ok := treeE_ok.2 ok1
  have okk := checkN_ok hk1 hk2
  obtain ⟨a, c, rfl, hc1, hc2⟩ := Sl.shape hv
  obtain ⟨a2, c2, rfl, _⟩ := hu.shape
  have S := St.start hs
  go_enter Try.func51, Try.ntmps51
  refine wp_seq_k (fun K1 hK1 => ?_)
  refine region_wl ?_
  refine stNew S (v := fun n => .pointer (some ⟨n, 0, none⟩)) rfl (ex_alloc (zero_53 _)) (fun n2 w3 S4 => ?_)
  simp only [Act.put, List.setIfInBounds_toArray, List.set_cons_succ, List.set_cons_zero]
  have S4 : St w F w3 F [⟨n2, [(.bool false), (.slice none 0 0)], 53⟩] [] := S4
  refine do_ rfl (.int .i64 0) (ex_assign _) ?_
  simp only [Act.put, List.setIfInBounds_toArray, List.set_cons_succ, List.set_cons_zero]
  refine wl_nil ?_
  (try simp only [Exit.then, Exit.inBlock, ↓reduceIte, Nat.reduceEqDiff])
  refine hK1 _ _ ?_
  refine wp_seq_k (fun K5 hK5 => ?_)
  refine wp_seq_k (fun K6 hK6 => ?_)
  refine region_wl ?_
  refine do_ rfl (.slice a l.length c) (ex_move _) ?_
  simp only [Act.put, List.setIfInBounds_toArray, List.set_cons_succ, List.set_cons_zero]
  refine stTells (v := (.int .i64 (treeE l))) S4 rfl (ex_fn (vs := #[(.slice a l.length c)]) (map1 rfl) rfl (ent_54 _ _)) (treeCheck_spec _ _ _ l (S4).sat hv) (fun w7 S8 => ?_)
  simp only [Act.put, List.setIfInBounds_toArray, List.set_cons_succ, List.set_cons_zero]
  have S8 : St w F w7 F [⟨n2, [(.bool false), (.slice none 0 0)], 53⟩] [] := S8
  refine do_ rfl (.int .i64 (treeE l)) (ex_assign _) ?_
  simp only [Act.put, List.setIfInBounds_toArray, List.set_cons_succ, List.set_cons_zero]
  refine wl_nil ?_
  (try simp only [Exit.then, Exit.inBlock, ↓reduceIte, Nat.reduceEqDiff])
  refine hK6 _ _ ?_
  refine wp_seq_k (fun K9 hK9 => ?_)
  refine region_wl ?_
  refine do_ rfl (.int .i64 (treeE l)) (ex_move _) ?_
  simp only [Act.put, List.setIfInBounds_toArray, List.set_cons_succ, List.set_cons_zero]
  refine do_ rfl (.bool false) (ex_neq (m := (treeE l)) (n := (0 : Int)) (b := false) rfl rfl (bne_eq_false_iff_eq.2 (ok))) ?_
  simp only [Act.put, List.setIfInBounds_toArray, List.set_cons_succ, List.set_cons_zero]
  refine wl_nil ?_
  (try simp only [Exit.then, Exit.inBlock, ↓reduceIte, Nat.reduceEqDiff])
  refine hK9 _ _ ?_
  refine wp_cond_false rfl ?_
  refine wp_skip ?_
  (try simp only [Exit.then, Exit.inBlock, ↓reduceIte, Nat.reduceEqDiff])
  refine hK5 _ _ ?_
  refine wp_seq_k (fun K10 hK10 => ?_)
  refine wp_seq_k (fun K11 hK11 => ?_)
  refine region_wl ?_
  refine do_ rfl (.slice a2 k.length c2) (ex_move _) ?_
  simp only [Act.put, List.setIfInBounds_toArray, List.set_cons_succ, List.set_cons_zero]
  refine stTells (v := (.int .i64 (checkN k.length))) S8 rfl (ex_fn (vs := #[(.slice a2 k.length c2)]) (map1 rfl) rfl (ent_41 _ _)) (tells_same (check_spec _ _ _ k hu)) (fun w12 S13 => ?_)
  simp only [Act.put, List.setIfInBounds_toArray, List.set_cons_succ, List.set_cons_zero]
  have S13 : St w F w12 F [⟨n2, [(.bool false), (.slice none 0 0)], 53⟩] [] := S13
  refine do_ rfl (.int .i64 (checkN k.length)) (ex_assign _) ?_
  simp only [Act.put, List.setIfInBounds_toArray, List.set_cons_succ, List.set_cons_zero]
  refine wl_nil ?_
  (try simp only [Exit.then, Exit.inBlock, ↓reduceIte, Nat.reduceEqDiff])
  refine hK11 _ _ ?_
  refine wp_seq_k (fun K14 hK14 => ?_)
  refine region_wl ?_
  refine do_ rfl (.int .i64 (checkN k.length)) (ex_move _) ?_
  simp only [Act.put, List.setIfInBounds_toArray, List.set_cons_succ, List.set_cons_zero]
  refine do_ rfl (.bool false) (ex_neq (m := (checkN k.length)) (n := (0 : Int)) (b := false) rfl rfl (bne_eq_false_iff_eq.2 (okk))) ?_
  simp only [Act.put, List.setIfInBounds_toArray, List.set_cons_succ, List.set_cons_zero]
  refine wl_nil ?_
  (try simp only [Exit.then, Exit.inBlock, ↓reduceIte, Nat.reduceEqDiff])
  refine hK14 _ _ ?_
  refine wp_cond_false rfl ?_
  refine wp_skip ?_
  (try simp only [Exit.then, Exit.inBlock, ↓reduceIte, Nat.reduceEqDiff])
  refine hK10 _ _ ?_
  refine wp_seq_k (fun K15 hK15 => ?_)
  refine wp_seq_k (fun K16 hK16 => ?_)
  refine region_wl ?_
  refine do_ rfl (.slice a l.length c) (ex_move _) ?_
  simp only [Act.put, List.setIfInBounds_toArray, List.set_cons_succ, List.set_cons_zero]
  refine do_ rfl (.slice a2 k.length c2) (ex_move _) ?_
  simp only [Act.put, List.setIfInBounds_toArray, List.set_cons_succ, List.set_cons_zero]
  refine stTells (v := (.tuple #[(.int .i64 (((posT l k) : Nat) : Int)), (.bool (hasT l k))])) S13 rfl (ex_fn (vs := #[(.slice a l.length c), (.slice a2 k.length c2)]) (map2 rfl rfl) rfl (ent_82 _ _)) (find_spec _ _ _ _ l k (S13).sat hv hu ok1.rise (by have := ok1.len; omega)) (fun w17 S18 => ?_)
  simp only [Act.put, List.setIfInBounds_toArray, List.set_cons_succ, List.set_cons_zero]
  have S18 : St w F w17 F [⟨n2, [(.bool false), (.slice none 0 0)], 53⟩] [] := S18
  refine do_ rfl (.tuple #[(.int .i64 (((posT l k) : Nat) : Int)), (.bool (hasT l k))]) (ex_move _) ?_
  simp only [Act.put, List.setIfInBounds_toArray, List.set_cons_succ, List.set_cons_zero]
  refine do_ rfl (.int .i64 (((posT l k) : Nat) : Int)) (ex_extract rfl rfl) ?_
  simp only [Act.put, List.setIfInBounds_toArray, List.set_cons_succ, List.set_cons_zero]
  refine do_ rfl (.bool (hasT l k)) (ex_extract rfl rfl) ?_
  simp only [Act.put, List.setIfInBounds_toArray, List.set_cons_succ, List.set_cons_zero]
  refine do_ rfl (.int .i64 (((posT l k) : Nat) : Int)) (ex_assign _) ?_
  simp only [Act.put, List.setIfInBounds_toArray, List.set_cons_succ, List.set_cons_zero]
  refine do_ rfl (.bool (hasT l k)) (ex_assign _) ?_
  simp only [Act.put, List.setIfInBounds_toArray, List.set_cons_succ, List.set_cons_zero]
  refine wl_nil ?_
  (try simp only [Exit.then, Exit.inBlock, ↓reduceIte, Nat.reduceEqDiff])
  refine hK16 _ _ ?_
  refine wp_seq_k (fun K19 hK19 => ?_)
  refine region_wl ?_
  refine do_ rfl (.bool (hasT l k)) (ex_move _) ?_
  simp only [Act.put, List.setIfInBounds_toArray, List.set_cons_succ, List.set_cons_zero]
  refine wl_nil ?_
  (try simp only [Exit.then, Exit.inBlock, ↓reduceIte, Nat.reduceEqDiff])
  refine hK19 _ _ ?_
  refine wp_cond_split rfl (fun hc20 => ?_) (fun hc20 => ?_)
  · refine wp_seq_k (fun K21 hK21 => ?_)
    refine region_wl ?_
    refine do_ rfl (.slice a l.length c) (ex_move _) ?_
    simp only [Act.put, List.setIfInBounds_toArray, List.set_cons_succ, List.set_cons_zero]
    refine do_ rfl (.int .i64 (((posT l k) : Nat) : Int)) (ex_move _) ?_
    simp only [Act.put, List.setIfInBounds_toArray, List.set_cons_succ, List.set_cons_zero]
    obtain ⟨hp0, _⟩ := (hasBy_at ok1.rise).1 hc20
    obtain ⟨p, hp⟩ : ∃ p, l[posT l k]? = some p := ⟨l[posT l k], List.getElem?_eq_getElem hp0⟩
    have hpo := ok1.ok p (List.mem_of_getElem? hp)
    have hpl := hpo.2.2
    obtain ⟨b22, o23, ha24, xa26, xc27, xa30, xc31, c25, c29, r28, r32⟩ := Prs.get hv hp
    refine do_ rfl (.pointer (some ⟨b22, o23 + (posT l k) * 2, none⟩)) (ex_at (i := (posT l k)) (sz := 2) Try.underlying44 (sizeof_49 _) rfl ha24 rfl (hp0) rfl) ?_
    simp only [Act.put, List.setIfInBounds_toArray, List.set_cons_succ, List.set_cons_zero]
    refine do_ rfl (.pointer (some ⟨b22, o23 + (posT l k) * 2 + 1, none⟩)) (ex_field (q := ⟨b22, o23 + (posT l k) * 2 + 1, none⟩) rfl (fa_49_1 _ _)) ?_
    simp only [Act.put, List.setIfInBounds_toArray, List.set_cons_succ, List.set_cons_zero]
    refine do_ rfl (.slice xa30 p.2.length xc31) (ex_load rfl (load1 (nagg_27 _) (St.fz S18 c29))) ?_
    simp only [Act.put, List.setIfInBounds_toArray, List.set_cons_succ, List.set_cons_zero]
    refine stGives S18 rfl (ex_fn (vs := #[(.slice xa30 p.2.length xc31)]) (map1 rfl) rfl (ent_85 _ _)) (clone_spec _ _ _ p.2 (S18).sat r32 (by omega)) ?_
    intro v38 w33 F35 S34 le36 R37
    obtain ⟨xa39, xc40, rfl, _⟩ := R37.shape
    simp only [Act.put, List.setIfInBounds_toArray, List.set_cons_succ, List.set_cons_zero]
    have S34 : St w F w33 F35 [⟨n2, [(.bool false), (.slice none 0 0)], 53⟩] [] := S34
    refine do_ rfl (.agg #[(.bool true), (.slice xa39 p.2.length xc40)]) (ex_build (ps := #[(0, (.bool true)), (1, (.slice xa39 p.2.length xc40))]) (bmap2 rfl rfl) (by kernel_rfl)) ?_
    simp only [Act.put, List.setIfInBounds_toArray, List.set_cons_succ, List.set_cons_zero]
    refine stStore (i := 0) (v := (.agg #[(.bool true), (.slice xa39 p.2.length xc40)])) S34 rfl rfl rfl rfl (size_53) (allc2 rfl rfl) (Nat.le_of_ble_eq_true rfl) (fun w41 S42 => ?_)
    simp only [Act.put, List.setIfInBounds_toArray, List.set_cons_succ, List.set_cons_zero]
    have S42 : St w F w41 F35 [⟨n2, [(.bool true), (.slice xa39 p.2.length xc40)], 53⟩] [] := S42
    refine do_ rfl (.int .i64 0) (ex_assign _) ?_
    simp only [Act.put, List.setIfInBounds_toArray, List.set_cons_succ, List.set_cons_zero]
    refine wl_nil ?_
    (try simp only [Exit.then, Exit.inBlock, ↓reduceIte, Nat.reduceEqDiff])
    refine hK21 _ _ ?_
    refine wp_ret ?_
    (try simp only [Exit.then, Exit.inBlock, ↓reduceIte, Nat.reduceEqDiff])
    refine bodyPost_ret (v := (.tuple #[(.agg #[(.bool true), (.slice xa39 p.2.length xc40)]), (.int .i64 0)])) ?_ rfl ?_
    · exact res_ct rfl ⟨_, rfl, loadN (cs := [(.bool true), (.slice xa39 p.2.length xc40)]) Try.underlying53 rfl (size_53) (St.range S42 (i := 0) rfl 0 [(.bool true), (.slice xa39 p.2.length xc40)] (sub_range 0 rfl))⟩ rfl
    · rw [get_has ok1.rise hc20 hp]
      exact ⟨_, _, rfl, S42.gr, _, rfl, _, _, rfl, R37⟩
  · refine wp_skip ?_
    (try simp only [Exit.then, Exit.inBlock, ↓reduceIte, Nat.reduceEqDiff])
    refine hK15 _ _ ?_
    refine wp_seq_k (fun K43 hK43 => ?_)
    refine region_wl ?_
    refine do_ rfl (.agg #[(.bool false), (.slice none 0 0)]) (ex_build (ps := #[]) (bmap0) (by kernel_rfl)) ?_
    simp only [Act.put, List.setIfInBounds_toArray, List.set_cons_succ, List.set_cons_zero]
    refine stStore (i := 0) (v := (.agg #[(.bool false), (.slice none 0 0)])) S18 rfl rfl rfl rfl (size_53) (allc2 rfl rfl) (Nat.le_of_ble_eq_true rfl) (fun w44 S45 => ?_)
    simp only [Act.put, List.setIfInBounds_toArray, List.set_cons_succ, List.set_cons_zero]
    have S45 : St w F w44 F [⟨n2, [(.bool false), (.slice none 0 0)], 53⟩] [] := S45
    refine do_ rfl (.int .i64 0) (ex_assign _) ?_
    simp only [Act.put, List.setIfInBounds_toArray, List.set_cons_succ, List.set_cons_zero]
    refine wl_nil ?_
    (try simp only [Exit.then, Exit.inBlock, ↓reduceIte, Nat.reduceEqDiff])
    refine hK43 _ _ ?_
    refine wp_ret ?_
    (try simp only [Exit.then, Exit.inBlock, ↓reduceIte, Nat.reduceEqDiff])
    refine bodyPost_ret (v := (.tuple #[(.agg #[(.bool false), (.slice none 0 0)]), (.int .i64 0)])) ?_ rfl ?_
    · exact res_ct rfl ⟨_, rfl, loadN (cs := [(.bool false), (.slice none 0 0)]) Try.underlying53 rfl (size_53) (St.range S45 (i := 0) rfl 0 [(.bool false), (.slice none 0 0)] (sub_range 0 rfl))⟩ rfl
    · rw [get_not (by rw [hc20]; simp)]
      exact ⟨_, _, rfl, S45.gr, _, rfl, _, _, rfl, Bs.nil _⟩
end Go.Proofs.Yteefnnnbbmbmcaa
