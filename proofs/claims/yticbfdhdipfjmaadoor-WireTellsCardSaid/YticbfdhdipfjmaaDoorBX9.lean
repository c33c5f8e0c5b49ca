/- Rules, plain laws and walks: X2 X3 P13 -/
import Derived.Test.YticbfdhdipfjmaaDoorBX8
import Derived.Test.YticbfdhdipfjmaaDoorBX2
namespace Go.Proofs.YticbfdhdipfjmaaDoor
open Go.RowKit
set_option maxRecDepth 100000
set_option linter.unusedVariables false
set_option linter.unusedSimpArgs false
/-- A read, a write, that a pointer points to. -/
def RdP (F : Fz) (b : Nat) (p : Rd) : Prop := ∃ x0 y0 x1 y1 x3 y3, cellF F b 0 = some (.slice x0 p.name.length y0) ∧ cellF F b 1 = some (.slice x1 p.key.length y1) ∧ cellF F b 2 = some (.bool p.wide) ∧ cellF F b 3 = some (.slice x3 p.last.length y3) ∧ Bs F (.slice x0 p.name.length y0) p.name ∧ Bs F (.slice x1 p.key.length y1) p.key ∧ Bs F (.slice x3 p.last.length y3) p.last
def WrP (F : Fz) (b : Nat) (p : Wr) : Prop := ∃ x0 y0 x1 y1 x3 y3, cellF F b 0 = some (.slice x0 p.name.length y0) ∧ cellF F b 1 = some (.slice x1 p.key.length y1) ∧ cellF F b 2 = some (.bool p.gone) ∧ cellF F b 3 = some (.slice x3 p.value.length y3) ∧ Bs F (.slice x0 p.name.length y0) p.name ∧ Bs F (.slice x1 p.key.length y1) p.key ∧ Bs F (.slice x3 p.value.length y3) p.value
theorem RdP.mono {F F' : Fz} {b : Nat} {p : Rd} (h : RdP F b p) (hl : Le F F') : RdP F' b p := by
  obtain ⟨x0, y0, x1, y1, x3, y3, c0, c1, c2, c3, h0, h1, h3⟩ := h
  exact ⟨x0, y0, x1, y1, x3, y3, Le.cell hl c0, Le.cell hl c1, Le.cell hl c2, Le.cell hl c3, h0.mono hl, h1.mono hl, h3.mono hl⟩
theorem WrP.mono {F F' : Fz} {b : Nat} {p : Wr} (h : WrP F b p) (hl : Le F F') : WrP F' b p := by
  obtain ⟨x0, y0, x1, y1, x3, y3, c0, c1, c2, c3, h0, h1, h3⟩ := h
  exact ⟨x0, y0, x1, y1, x3, y3, Le.cell hl c0, Le.cell hl c1, Le.cell hl c2, Le.cell hl c3, h0.mono hl, h1.mono hl, h3.mono hl⟩
/-- Where the first one is; -1: there is none. -/
def idxE {α : Type} (l : List α) (g : α → Bool) : Int := match l.findIdx? g with | some i => (i : Int) | none => -1
theorem idxE_hit {α : Type} {l : List α} {g : α → Bool} {k : Nat} {p : α} (hp : l[k]? = some p) (h : g p = true) (hb : ∀ (i : Nat) q, i < k → l[i]? = some q → g q = false) : idxE l g = (k : Int) := by
  have : l.findIdx? g = some k := by
    obtain ⟨hk, rfl⟩ := List.getElem?_eq_some_iff.1 hp
    rw [List.findIdx?_eq_some_iff_getElem]
    exact ⟨hk, h, fun j hj => by rw [hb j _ hj (List.getElem?_eq_getElem (by omega))]; simp⟩
  unfold idxE; rw [this]
theorem idxE_none {α : Type} {l : List α} {g : α → Bool} (hb : ∀ (i : Nat) q, i < l.length → l[i]? = some q → g q = false) : idxE l g = -1 := by
  have : l.findIdx? g = none := by
    rw [List.findIdx?_eq_none_iff]
    intro x hx
    obtain ⟨i, hi, rfl⟩ := List.mem_iff_getElem.1 hx
    exact hb i _ hi (List.getElem?_eq_getElem hi)
  unfold idxE; rw [this]
theorem idxE_any {α : Type} {l : List α} {g : α → Bool} : decide (0 ≤ idxE l g) = l.any g := by
  unfold idxE
  cases h : l.findIdx? g with
  | none =>
    rw [List.findIdx?_eq_none_iff] at h
    have : l.any g = false := by rw [List.any_eq_false]; intro x hx; rw [h x hx]; simp
    rw [this]; rfl
  | some i =>
    rw [List.findIdx?_eq_some_iff_getElem] at h
    obtain ⟨hi, h1, _⟩ := h
    have : l.any g = true := List.any_eq_true.2 ⟨_, List.getElem_mem hi, h1⟩
    rw [this]; simp
set_option maxHeartbeats 8000000 in
theorem check1_clos (F : Fz) (w : World) (v : Value) (b : Nat) (q : Rd) (r : Rd) (hs : Sat w F) (hv : RdV F v q) (hr : RdP F b r) :
    Calls Tryd.prog 43 #[v, .pointer (some ⟨b, 0, none⟩)] w (Tells w (.bool (decide (q = r)))) := by
 obtain ⟨x0, x1, x2, x3, x4, x5, rfl, h0, h1, h3⟩ := hv
 obtain ⟨z0, z1, z2, z3, z4, z5, c0, c1, c2, c3, k0, k1, k3⟩ := hr
 have S := St.start hs
 go_enter Tryd.func43, Tryd.ntmps43
 refine wp_seq_k (fun K1 hK1 => region_wl ?_)
 refine stNew S (v := fun n => .pointer (some ⟨n, 0, none⟩)) rfl (ex_box (v := (.agg #[(.slice x0 q.name.length x1), (.slice x2 q.key.length x3), (.bool q.wide), (.slice x4 q.last.length x5)])) rfl) (fun n2 w3 S4 => ?_)
 simp only [pS, pN, pA, pC, pZ]
 have S4 : St w F w3 F [⟨n2, [(.slice x0 q.name.length x1), (.slice x2 q.key.length x3), (.bool q.wide), (.slice x4 q.last.length x5)], 38⟩] [] := S4
 refine do_ rfl (.bool false) (ex_assign _) ?_
 simp only [pS, pN, pA, pC, pZ]
 refine wl_nil (hK1 _ _ ?_)
 refine wp_seq_k (fun K5 hK5 => region_wl ?_)
 refine do_ rfl (.agg #[(.slice x0 q.name.length x1), (.slice x2 q.key.length x3), (.bool q.wide), (.slice x4 q.last.length x5)]) (ex_load rfl (loadN (cs := [(.slice x0 q.name.length x1), (.slice x2 q.key.length x3), (.bool q.wide), (.slice x4 q.last.length x5)]) Tryd.underlying38 rfl (size_38) (St.range S4 (i := 0) rfl 0 [(.slice x0 q.name.length x1), (.slice x2 q.key.length x3), (.bool q.wide), (.slice x4 q.last.length x5)] (sub_range 0 rfl)))) ?_
 simp only [pS, pN, pA, pC, pZ]
 refine do_ rfl (.agg #[(.slice z0 r.name.length z1), (.slice z2 r.key.length z3), (.bool r.wide), (.slice z4 r.last.length z5)]) (ex_load rfl (loadN (cs := [(.slice z0 r.name.length z1), (.slice z2 r.key.length z3), (.bool r.wide), (.slice z4 r.last.length z5)]) Tryd.underlying38 rfl (size_38) (range4 (St.fz S4 c0) (St.fz S4 c1) (St.fz S4 c2) (St.fz S4 c3)))) ?_
 simp only [pS, pN, pA, pC, pZ]
 refine stTells (v := (.bool (decide (q = r)))) S4 rfl (ex_fn (vs := #[(.agg #[(.slice x0 q.name.length x1), (.slice x2 q.key.length x3), (.bool q.wide), (.slice x4 q.last.length x5)]), (.agg #[(.slice z0 r.name.length z1), (.slice z2 r.key.length z3), (.bool r.wide), (.slice z4 r.last.length z5)])]) (map2 rfl rfl) rfl (ent_35 _ _)) (sameRead_spec _ _ _ _ _ _ (S4).sat ⟨_, _, _, _, _, _, rfl, h0, h1, h3⟩ ⟨_, _, _, _, _, _, rfl, k0, k1, k3⟩) (fun w6 S7 => ?_)
 simp only [pS, pN, pA, pC, pZ]
 refine do_ rfl (.bool (decide (q = r))) (ex_assign _) ?_
 simp only [pS, pN, pA, pC, pZ]
 refine wl_nil (hK5 _ _ ?_)
 refine wp_ret ?_
 (try simp only [Exit.then, Exit.inBlock, ↓reduceIte, Nat.reduceEqDiff])
 refine bodyPost_ret (v := (.bool (decide (q = r)))) ?_ rfl ?_
 ·exact res_t rfl rfl
 ·exact ⟨rfl, S7.gr.below⟩
set_option maxHeartbeats 8000000 in
theorem check1_index (F : Fz) (w : World) (v : Value) (b : Nat) (l : List Rd) (r : Rd) (hs : Sat w F) (hv : Rds F v l) (hr : RdP F b r) (hl : l.length ≤ 1000000) :
    Calls Tryd.prog 46 #[v, .func (.func 43) #[] #[.pointer (some ⟨b, 0, none⟩)]] w (Tells w (.int .i64 (idxE l (fun q : Rd => (decide (q = r)))))) := by
 obtain ⟨a, c, rfl, hc1, hc2⟩ := Sl.shape hv
 unfold maxLen at hc2
 have S := St.start hs
 go_enter Tryd.func46, Tryd.ntmps46
 refine wp_seq_k (fun K1 hK1 => region_wl ?_)
 refine do_ rfl (.int .i64 0) (ex_assign _) ?_
 simp only [pS, pN, pA, pC, pZ]
 refine wl_nil (hK1 _ _ ?_)
 refine wp_seq_k (fun K2 hK2 => ?_)
 refine wp_seq_k (fun K3 hK3 => region_wl ?_)
 refine do_ rfl (.slice a l.length c) (ex_move _) ?_
 simp only [pS, pN, pA, pC, pZ]
 refine do_ rfl (.int .i64 ((l.length : Nat) : Int)) (ex_len Tryd.underlying60 rfl) ?_
 simp only [pS, pN, pA, pC, pZ]
 refine do_ rfl (.int .i64 0) (ex_move _) ?_
 simp only [pS, pN, pA, pC, pZ]
 refine wl_nil (hK3 _ _ ?_)
 refine wp_block ?_
 refine wp_loop_g (fun mm aa w5 => ∃ (k : Nat) (u4 : Nat → Value), mm = l.length - k ∧ u4 = slots aa ∧ aa = ⟨#[(.slice a l.length c), (.func (.func 43) #[] #[(.pointer (some ⟨b, 0, none⟩))]), undef, undef, (u4 4), (u4 5), (.slice a l.length c), (.int .i64 ((l.length : Nat) : Int)), (.int .i64 ((k : Nat) : Int)), (u4 9), (u4 10), (u4 11), (u4 12), (u4 13), (u4 14), (u4 15), (u4 16), (u4 17), (u4 18)], []⟩ ∧ St w F w5 F [] [] ∧ (k ≤ l.length) ∧ (∀ (i : Nat) q, i < k → l[i]? = some q → (fun q : Rd => (decide (q = r))) q = false)) _ ⟨0, _, rfl, rfl, rfl, S, (by omega), (fun i q hi => absurd hi (by omega))⟩ ?_
 rintro m6 a7 w8 ⟨k, u4, rfl, -, rfl, S9, hk, hbad⟩ K11 hK11
 refine wp_seq_k (fun K12 hK12 => region_wl ?_)
 by_cases hc9 : k < l.length
 ·refine do_ rfl (.bool true) (ex_lss (m := ((k : Nat) : Int)) (n := ((l.length : Nat) : Int)) (b := true) rfl rfl (decide_eq_true (by omega))) ?_
  simp only [pS, pN, pA, pC, pZ]
  refine wl_nil (hK12 _ _ ?_)
  refine wp_seq_k (fun K13 hK13 => ?_)
  refine wp_cond_true rfl ?_
  refine wp_skip ?_
  refine hK13 _ _ ?_
  refine wp_seq_k (fun K14 hK14 => ?_)
  refine wp_block ?_
  refine wp_seq_k (fun K15 hK15 => region_wl ?_)
  refine do_ rfl (.int .i64 ((k : Nat) : Int)) (ex_move _) ?_
  simp only [pS, pN, pA, pC, pZ]
  refine do_ rfl (.int .i64 ((k : Nat) : Int)) (ex_assign _) ?_
  simp only [pS, pN, pA, pC, pZ]
  refine wl_nil (hK15 _ _ ?_)
  refine wp_seq_k (fun K16 hK16 => ?_)
  obtain ⟨p, hp⟩ : ∃ p, l[k]? = some p := ⟨l[k], List.getElem?_eq_getElem hc9⟩
  obtain ⟨b17, o18, ha19, xa21, xc22, xa25, xc26, xa30, xc31, c20, c24, c28, c29, r23, r27, r32⟩ := Rds.get hv hp
  refine region_wl ?_
  refine do_ rfl (.func (.func 43) #[] #[(.pointer (some ⟨b, 0, none⟩))]) (ex_move _) ?_
  simp only [pS, pN, pA, pC, pZ]
  refine do_ rfl (.slice a l.length c) (ex_move _) ?_
  simp only [pS, pN, pA, pC, pZ]
  refine do_ rfl (.int .i64 ((k : Nat) : Int)) (ex_move _) ?_
  simp only [pS, pN, pA, pC, pZ]
  refine do_ rfl (.pointer (some ⟨b17, o18 + k * 4, none⟩)) (ex_at (i := k) (sz := 4) Tryd.underlying60 (sizeof_38 _) rfl ha19 rfl (by omega) rfl) ?_
  simp only [pS, pN, pA, pC, pZ]
  refine do_ rfl (.agg #[(.slice xa21 p.name.length xc22), (.slice xa25 p.key.length xc26), (.bool p.wide), (.slice xa30 p.last.length xc31)]) (ex_load rfl (loadN (cs := [(.slice xa21 p.name.length xc22), (.slice xa25 p.key.length xc26), (.bool p.wide), (.slice xa30 p.last.length xc31)]) Tryd.underlying38 rfl (size_38) (range4 (St.fz S9 c20) (St.fz S9 c24) (St.fz S9 c28) (St.fz S9 c29)))) ?_
  simp only [pS, pN, pA, pC, pZ]
  refine stTells (v := (.bool ((fun q : Rd => (decide (q = r))) p))) S9 rfl (ex_fv (fs := #[]) (cs := #[(.pointer (some ⟨b, 0, none⟩))]) (vs := #[(.agg #[(.slice xa21 p.name.length xc22), (.slice xa25 p.key.length xc26), (.bool p.wide), (.slice xa30 p.last.length xc31)]), (.pointer (some ⟨b, 0, none⟩))]) rfl (vmap (fs := #[]) (cs := #[(.pointer (some ⟨b, 0, none⟩))]) (xs := #[(.agg #[(.slice xa21 p.name.length xc22), (.slice xa25 p.key.length xc26), (.bool p.wide), (.slice xa30 p.last.length xc31)])]) (map1 rfl) (by simp)) (ent_43 _ _)) (check1_clos _ _ _ b p r (S9).sat ⟨_, _, _, _, _, _, rfl, r23, r27, r32⟩ hr) (fun w33 S34 => ?_)
  simp only [pS, pN, pA, pC, pZ]
  refine wl_nil (hK16 _ _ ?_)
  refine wp_cond_split rfl (fun hc35 => ?_) (fun hc35 => ?_)
  ·refine wp_seq_k (fun K36 hK36 => region_wl ?_)
   refine do_ rfl (.int .i64 ((k : Nat) : Int)) (ex_move _) ?_
   simp only [pS, pN, pA, pC, pZ]
   refine do_ rfl (.int .i64 ((k : Nat) : Int)) (ex_assign _) ?_
   simp only [pS, pN, pA, pC, pZ]
   refine wl_nil (hK36 _ _ ?_)
   refine wp_ret ?_
   (try simp only [Exit.then, Exit.inBlock, ↓reduceIte, Nat.reduceEqDiff])
   refine bodyPost_ret (v := (.int .i64 ((k : Nat) : Int))) ?_ rfl ?_
   ·exact res_t rfl rfl
   ·exact ⟨by rw [idxE_hit hp hc35 hbad], S34.gr.below⟩
  ·refine wp_skip ?_
   refine hK14 _ _ ?_
   refine region_wl ?_
   refine do_ rfl (.int .i64 (((k + 1) : Nat) : Int)) (ex_add (m := ((k : Nat) : Int)) (n := (1 : Int)) (r := (((k + 1) : Nat) : Int)) rfl rfl (by omega) (by omega) (by omega)) ?_
   simp only [pS, pN, pA, pC, pZ]
   refine do_ rfl (.int .i64 (((k + 1) : Nat) : Int)) (ex_move _) ?_
   simp only [pS, pN, pA, pC, pZ]
   refine wl_nil ?_
   exact hK11 _ _ _ (by omega) ⟨(k + 1), _, rfl, rfl, rfl, S34, (by omega), (fun i q hi hq => by rcases Nat.lt_succ_iff_lt_or_eq.1 hi with h | rfl; exact hbad i q h hq; (rw [hp] at hq; cases hq; exact hc35))⟩
 ·refine do_ rfl (.bool false) (ex_lss (m := ((k : Nat) : Int)) (n := ((l.length : Nat) : Int)) (b := false) rfl rfl (decide_eq_false (by omega))) ?_
  simp only [pS, pN, pA, pC, pZ]
  refine wl_nil (hK12 _ _ ?_)
  refine wp_seq_k (fun K37 hK37 => ?_)
  refine wp_cond_false rfl ?_
  refine wp_exit ?_
  refine hK2 _ _ ?_
  refine wp_seq_k (fun K38 hK38 => region_wl ?_)
  refine do_ rfl (.int .i64 (-1)) (ex_assign _) ?_
  simp only [pS, pN, pA, pC, pZ]
  refine wl_nil (hK38 _ _ ?_)
  refine wp_ret ?_
  (try simp only [Exit.then, Exit.inBlock, ↓reduceIte, Nat.reduceEqDiff])
  refine bodyPost_ret (v := (.int .i64 (-1))) ?_ rfl ?_
  ·exact res_t rfl rfl
  ·exact ⟨by rw [idxE_none (fun i q hi hq => hbad i q (by omega) hq)], S9.gr.below⟩
set_option maxHeartbeats 8000000 in
theorem check1_contains (F : Fz) (w : World) (v : Value) (b : Nat) (l : List Rd) (r : Rd) (hs : Sat w F) (hv : Rds F v l) (hr : RdP F b r) (hl : l.length ≤ 1000000) :
    Calls Tryd.prog 33 #[v, .func (.func 43) #[] #[.pointer (some ⟨b, 0, none⟩)]] w (Tells w (.bool (l.any (fun q : Rd => (decide (q = r)))))) := by
 obtain ⟨a, c, rfl, hc1, hc2⟩ := Sl.shape hv
 have S := St.start hs
 go_enter Tryd.func33, Tryd.ntmps33
 refine wp_seq_k (fun K1 hK1 => region_wl ?_)
 refine do_ rfl (.bool false) (ex_assign _) ?_
 simp only [pS, pN, pA, pC, pZ]
 refine wl_nil (hK1 _ _ ?_)
 refine wp_seq_k (fun K2 hK2 => region_wl ?_)
 refine do_ rfl (.slice a l.length c) (ex_move _) ?_
 simp only [pS, pN, pA, pC, pZ]
 refine do_ rfl (.func (.func 43) #[] #[(.pointer (some ⟨b, 0, none⟩))]) (ex_move _) ?_
 simp only [pS, pN, pA, pC, pZ]
 refine stTells (v := (.int .i64 (idxE l (fun q : Rd => (decide (q = r)))))) S rfl (ex_fn (vs := #[(.slice a l.length c), (.func (.func 43) #[] #[(.pointer (some ⟨b, 0, none⟩))])]) (map2 rfl rfl) rfl (ent_46 _ _)) (check1_index _ _ _ b l r (S).sat hv hr hl) (fun w3 S4 => ?_)
 simp only [pS, pN, pA, pC, pZ]
 refine do_ rfl (.bool (l.any (fun q : Rd => (decide (q = r))))) (ex_geq (m := idxE l (fun q : Rd => (decide (q = r)))) (n := 0) (b := l.any (fun q : Rd => (decide (q = r)))) rfl rfl idxE_any) ?_
 simp only [pS, pN, pA, pC, pZ]
 refine do_ rfl (.bool (l.any (fun q : Rd => (decide (q = r))))) (ex_assign _) ?_
 simp only [pS, pN, pA, pC, pZ]
 refine wl_nil (hK2 _ _ ?_)
 refine wp_ret ?_
 (try simp only [Exit.then, Exit.inBlock, ↓reduceIte, Nat.reduceEqDiff])
 refine bodyPost_ret (v := (.bool (l.any (fun q : Rd => (decide (q = r)))))) ?_ rfl ?_
 ·exact res_t rfl rfl
 ·exact ⟨rfl, S4.gr.below⟩
set_option maxHeartbeats 8000000 in
theorem note1_clos (F : Fz) (w : World) (v : Value) (b : Nat) (q : Rd) (r : Rd) (hs : Sat w F) (hv : RdV F v q) (hr : RdP F b r) :
    Calls Tryd.prog 34 #[v, .pointer (some ⟨b, 0, none⟩)] w (Tells w (.bool (decide (q = r)))) := by
 obtain ⟨x0, x1, x2, x3, x4, x5, rfl, h0, h1, h3⟩ := hv
 obtain ⟨z0, z1, z2, z3, z4, z5, c0, c1, c2, c3, k0, k1, k3⟩ := hr
 have S := St.start hs
 go_enter Tryd.func34, Tryd.ntmps34
 refine wp_seq_k (fun K1 hK1 => region_wl ?_)
 refine stNew S (v := fun n => .pointer (some ⟨n, 0, none⟩)) rfl (ex_box (v := (.agg #[(.slice x0 q.name.length x1), (.slice x2 q.key.length x3), (.bool q.wide), (.slice x4 q.last.length x5)])) rfl) (fun n2 w3 S4 => ?_)
 simp only [pS, pN, pA, pC, pZ]
 have S4 : St w F w3 F [⟨n2, [(.slice x0 q.name.length x1), (.slice x2 q.key.length x3), (.bool q.wide), (.slice x4 q.last.length x5)], 38⟩] [] := S4
 refine do_ rfl (.bool false) (ex_assign _) ?_
 simp only [pS, pN, pA, pC, pZ]
 refine wl_nil (hK1 _ _ ?_)
 refine wp_seq_k (fun K5 hK5 => region_wl ?_)
 refine do_ rfl (.agg #[(.slice x0 q.name.length x1), (.slice x2 q.key.length x3), (.bool q.wide), (.slice x4 q.last.length x5)]) (ex_load rfl (loadN (cs := [(.slice x0 q.name.length x1), (.slice x2 q.key.length x3), (.bool q.wide), (.slice x4 q.last.length x5)]) Tryd.underlying38 rfl (size_38) (St.range S4 (i := 0) rfl 0 [(.slice x0 q.name.length x1), (.slice x2 q.key.length x3), (.bool q.wide), (.slice x4 q.last.length x5)] (sub_range 0 rfl)))) ?_
 simp only [pS, pN, pA, pC, pZ]
 refine do_ rfl (.agg #[(.slice z0 r.name.length z1), (.slice z2 r.key.length z3), (.bool r.wide), (.slice z4 r.last.length z5)]) (ex_load rfl (loadN (cs := [(.slice z0 r.name.length z1), (.slice z2 r.key.length z3), (.bool r.wide), (.slice z4 r.last.length z5)]) Tryd.underlying38 rfl (size_38) (range4 (St.fz S4 c0) (St.fz S4 c1) (St.fz S4 c2) (St.fz S4 c3)))) ?_
 simp only [pS, pN, pA, pC, pZ]
 refine stTells (v := (.bool (decide (q = r)))) S4 rfl (ex_fn (vs := #[(.agg #[(.slice x0 q.name.length x1), (.slice x2 q.key.length x3), (.bool q.wide), (.slice x4 q.last.length x5)]), (.agg #[(.slice z0 r.name.length z1), (.slice z2 r.key.length z3), (.bool r.wide), (.slice z4 r.last.length z5)])]) (map2 rfl rfl) rfl (ent_35 _ _)) (sameRead_spec _ _ _ _ _ _ (S4).sat ⟨_, _, _, _, _, _, rfl, h0, h1, h3⟩ ⟨_, _, _, _, _, _, rfl, k0, k1, k3⟩) (fun w6 S7 => ?_)
 simp only [pS, pN, pA, pC, pZ]
 refine do_ rfl (.bool (decide (q = r))) (ex_assign _) ?_
 simp only [pS, pN, pA, pC, pZ]
 refine wl_nil (hK5 _ _ ?_)
 refine wp_ret ?_
 (try simp only [Exit.then, Exit.inBlock, ↓reduceIte, Nat.reduceEqDiff])
 refine bodyPost_ret (v := (.bool (decide (q = r)))) ?_ rfl ?_
 ·exact res_t rfl rfl
 ·exact ⟨rfl, S7.gr.below⟩
set_option maxHeartbeats 8000000 in
theorem note1_index (F : Fz) (w : World) (v : Value) (b : Nat) (l : List Rd) (r : Rd) (hs : Sat w F) (hv : Rds F v l) (hr : RdP F b r) (hl : l.length ≤ 1000000) :
    Calls Tryd.prog 46 #[v, .func (.func 34) #[] #[.pointer (some ⟨b, 0, none⟩)]] w (Tells w (.int .i64 (idxE l (fun q : Rd => (decide (q = r)))))) := by
 obtain ⟨a, c, rfl, hc1, hc2⟩ := Sl.shape hv
 unfold maxLen at hc2
 have S := St.start hs
 go_enter Tryd.func46, Tryd.ntmps46
 refine wp_seq_k (fun K1 hK1 => region_wl ?_)
 refine do_ rfl (.int .i64 0) (ex_assign _) ?_
 simp only [pS, pN, pA, pC, pZ]
 refine wl_nil (hK1 _ _ ?_)
 refine wp_seq_k (fun K2 hK2 => ?_)
 refine wp_seq_k (fun K3 hK3 => region_wl ?_)
 refine do_ rfl (.slice a l.length c) (ex_move _) ?_
 simp only [pS, pN, pA, pC, pZ]
 refine do_ rfl (.int .i64 ((l.length : Nat) : Int)) (ex_len Tryd.underlying60 rfl) ?_
 simp only [pS, pN, pA, pC, pZ]
 refine do_ rfl (.int .i64 0) (ex_move _) ?_
 simp only [pS, pN, pA, pC, pZ]
 refine wl_nil (hK3 _ _ ?_)
 refine wp_block ?_
 refine wp_loop_g (fun mm aa w5 => ∃ (k : Nat) (u4 : Nat → Value), mm = l.length - k ∧ u4 = slots aa ∧ aa = ⟨#[(.slice a l.length c), (.func (.func 34) #[] #[(.pointer (some ⟨b, 0, none⟩))]), undef, undef, (u4 4), (u4 5), (.slice a l.length c), (.int .i64 ((l.length : Nat) : Int)), (.int .i64 ((k : Nat) : Int)), (u4 9), (u4 10), (u4 11), (u4 12), (u4 13), (u4 14), (u4 15), (u4 16), (u4 17), (u4 18)], []⟩ ∧ St w F w5 F [] [] ∧ (k ≤ l.length) ∧ (∀ (i : Nat) q, i < k → l[i]? = some q → (fun q : Rd => (decide (q = r))) q = false)) _ ⟨0, _, rfl, rfl, rfl, S, (by omega), (fun i q hi => absurd hi (by omega))⟩ ?_
 rintro m6 a7 w8 ⟨k, u4, rfl, -, rfl, S9, hk, hbad⟩ K11 hK11
 refine wp_seq_k (fun K12 hK12 => region_wl ?_)
 by_cases hc9 : k < l.length
 ·refine do_ rfl (.bool true) (ex_lss (m := ((k : Nat) : Int)) (n := ((l.length : Nat) : Int)) (b := true) rfl rfl (decide_eq_true (by omega))) ?_
  simp only [pS, pN, pA, pC, pZ]
  refine wl_nil (hK12 _ _ ?_)
  refine wp_seq_k (fun K13 hK13 => ?_)
  refine wp_cond_true rfl ?_
  refine wp_skip ?_
  refine hK13 _ _ ?_
  refine wp_seq_k (fun K14 hK14 => ?_)
  refine wp_block ?_
  refine wp_seq_k (fun K15 hK15 => region_wl ?_)
  refine do_ rfl (.int .i64 ((k : Nat) : Int)) (ex_move _) ?_
  simp only [pS, pN, pA, pC, pZ]
  refine do_ rfl (.int .i64 ((k : Nat) : Int)) (ex_assign _) ?_
  simp only [pS, pN, pA, pC, pZ]
  refine wl_nil (hK15 _ _ ?_)
  refine wp_seq_k (fun K16 hK16 => ?_)
  obtain ⟨p, hp⟩ : ∃ p, l[k]? = some p := ⟨l[k], List.getElem?_eq_getElem hc9⟩
  obtain ⟨b17, o18, ha19, xa21, xc22, xa25, xc26, xa30, xc31, c20, c24, c28, c29, r23, r27, r32⟩ := Rds.get hv hp
  refine region_wl ?_
  refine do_ rfl (.func (.func 34) #[] #[(.pointer (some ⟨b, 0, none⟩))]) (ex_move _) ?_
  simp only [pS, pN, pA, pC, pZ]
  refine do_ rfl (.slice a l.length c) (ex_move _) ?_
  simp only [pS, pN, pA, pC, pZ]
  refine do_ rfl (.int .i64 ((k : Nat) : Int)) (ex_move _) ?_
  simp only [pS, pN, pA, pC, pZ]
  refine do_ rfl (.pointer (some ⟨b17, o18 + k * 4, none⟩)) (ex_at (i := k) (sz := 4) Tryd.underlying60 (sizeof_38 _) rfl ha19 rfl (by omega) rfl) ?_
  simp only [pS, pN, pA, pC, pZ]
  refine do_ rfl (.agg #[(.slice xa21 p.name.length xc22), (.slice xa25 p.key.length xc26), (.bool p.wide), (.slice xa30 p.last.length xc31)]) (ex_load rfl (loadN (cs := [(.slice xa21 p.name.length xc22), (.slice xa25 p.key.length xc26), (.bool p.wide), (.slice xa30 p.last.length xc31)]) Tryd.underlying38 rfl (size_38) (range4 (St.fz S9 c20) (St.fz S9 c24) (St.fz S9 c28) (St.fz S9 c29)))) ?_
  simp only [pS, pN, pA, pC, pZ]
  refine stTells (v := (.bool ((fun q : Rd => (decide (q = r))) p))) S9 rfl (ex_fv (fs := #[]) (cs := #[(.pointer (some ⟨b, 0, none⟩))]) (vs := #[(.agg #[(.slice xa21 p.name.length xc22), (.slice xa25 p.key.length xc26), (.bool p.wide), (.slice xa30 p.last.length xc31)]), (.pointer (some ⟨b, 0, none⟩))]) rfl (vmap (fs := #[]) (cs := #[(.pointer (some ⟨b, 0, none⟩))]) (xs := #[(.agg #[(.slice xa21 p.name.length xc22), (.slice xa25 p.key.length xc26), (.bool p.wide), (.slice xa30 p.last.length xc31)])]) (map1 rfl) (by simp)) (ent_34 _ _)) (note1_clos _ _ _ b p r (S9).sat ⟨_, _, _, _, _, _, rfl, r23, r27, r32⟩ hr) (fun w33 S34 => ?_)
  simp only [pS, pN, pA, pC, pZ]
  refine wl_nil (hK16 _ _ ?_)
  refine wp_cond_split rfl (fun hc35 => ?_) (fun hc35 => ?_)
  ·refine wp_seq_k (fun K36 hK36 => region_wl ?_)
   refine do_ rfl (.int .i64 ((k : Nat) : Int)) (ex_move _) ?_
   simp only [pS, pN, pA, pC, pZ]
   refine do_ rfl (.int .i64 ((k : Nat) : Int)) (ex_assign _) ?_
   simp only [pS, pN, pA, pC, pZ]
   refine wl_nil (hK36 _ _ ?_)
   refine wp_ret ?_
   (try simp only [Exit.then, Exit.inBlock, ↓reduceIte, Nat.reduceEqDiff])
   refine bodyPost_ret (v := (.int .i64 ((k : Nat) : Int))) ?_ rfl ?_
   ·exact res_t rfl rfl
   ·exact ⟨by rw [idxE_hit hp hc35 hbad], S34.gr.below⟩
  ·refine wp_skip ?_
   refine hK14 _ _ ?_
   refine region_wl ?_
   refine do_ rfl (.int .i64 (((k + 1) : Nat) : Int)) (ex_add (m := ((k : Nat) : Int)) (n := (1 : Int)) (r := (((k + 1) : Nat) : Int)) rfl rfl (by omega) (by omega) (by omega)) ?_
   simp only [pS, pN, pA, pC, pZ]
   refine do_ rfl (.int .i64 (((k + 1) : Nat) : Int)) (ex_move _) ?_
   simp only [pS, pN, pA, pC, pZ]
   refine wl_nil ?_
   exact hK11 _ _ _ (by omega) ⟨(k + 1), _, rfl, rfl, rfl, S34, (by omega), (fun i q hi hq => by rcases Nat.lt_succ_iff_lt_or_eq.1 hi with h | rfl; exact hbad i q h hq; (rw [hp] at hq; cases hq; exact hc35))⟩
 ·refine do_ rfl (.bool false) (ex_lss (m := ((k : Nat) : Int)) (n := ((l.length : Nat) : Int)) (b := false) rfl rfl (decide_eq_false (by omega))) ?_
  simp only [pS, pN, pA, pC, pZ]
  refine wl_nil (hK12 _ _ ?_)
  refine wp_seq_k (fun K37 hK37 => ?_)
  refine wp_cond_false rfl ?_
  refine wp_exit ?_
  refine hK2 _ _ ?_
  refine wp_seq_k (fun K38 hK38 => region_wl ?_)
  refine do_ rfl (.int .i64 (-1)) (ex_assign _) ?_
  simp only [pS, pN, pA, pC, pZ]
  refine wl_nil (hK38 _ _ ?_)
  refine wp_ret ?_
  (try simp only [Exit.then, Exit.inBlock, ↓reduceIte, Nat.reduceEqDiff])
  refine bodyPost_ret (v := (.int .i64 (-1))) ?_ rfl ?_
  ·exact res_t rfl rfl
  ·exact ⟨by rw [idxE_none (fun i q hi hq => hbad i q (by omega) hq)], S9.gr.below⟩
set_option maxHeartbeats 8000000 in
theorem note1_contains (F : Fz) (w : World) (v : Value) (b : Nat) (l : List Rd) (r : Rd) (hs : Sat w F) (hv : Rds F v l) (hr : RdP F b r) (hl : l.length ≤ 1000000) :
    Calls Tryd.prog 33 #[v, .func (.func 34) #[] #[.pointer (some ⟨b, 0, none⟩)]] w (Tells w (.bool (l.any (fun q : Rd => (decide (q = r)))))) := by
 obtain ⟨a, c, rfl, hc1, hc2⟩ := Sl.shape hv
 have S := St.start hs
 go_enter Tryd.func33, Tryd.ntmps33
 refine wp_seq_k (fun K1 hK1 => region_wl ?_)
 refine do_ rfl (.bool false) (ex_assign _) ?_
 simp only [pS, pN, pA, pC, pZ]
 refine wl_nil (hK1 _ _ ?_)
 refine wp_seq_k (fun K2 hK2 => region_wl ?_)
 refine do_ rfl (.slice a l.length c) (ex_move _) ?_
 simp only [pS, pN, pA, pC, pZ]
 refine do_ rfl (.func (.func 34) #[] #[(.pointer (some ⟨b, 0, none⟩))]) (ex_move _) ?_
 simp only [pS, pN, pA, pC, pZ]
 refine stTells (v := (.int .i64 (idxE l (fun q : Rd => (decide (q = r)))))) S rfl (ex_fn (vs := #[(.slice a l.length c), (.func (.func 34) #[] #[(.pointer (some ⟨b, 0, none⟩))])]) (map2 rfl rfl) rfl (ent_46 _ _)) (note1_index _ _ _ b l r (S).sat hv hr hl) (fun w3 S4 => ?_)
 simp only [pS, pN, pA, pC, pZ]
 refine do_ rfl (.bool (l.any (fun q : Rd => (decide (q = r))))) (ex_geq (m := idxE l (fun q : Rd => (decide (q = r)))) (n := 0) (b := l.any (fun q : Rd => (decide (q = r)))) rfl rfl idxE_any) ?_
 simp only [pS, pN, pA, pC, pZ]
 refine do_ rfl (.bool (l.any (fun q : Rd => (decide (q = r))))) (ex_assign _) ?_
 simp only [pS, pN, pA, pC, pZ]
 refine wl_nil (hK2 _ _ ?_)
 refine wp_ret ?_
 (try simp only [Exit.then, Exit.inBlock, ↓reduceIte, Nat.reduceEqDiff])
 refine bodyPost_ret (v := (.bool (l.any (fun q : Rd => (decide (q = r)))))) ?_ rfl ?_
 ·exact res_t rfl rfl
 ·exact ⟨rfl, S4.gr.below⟩
set_option maxHeartbeats 8000000 in
theorem check2_clos (F : Fz) (w : World) (v : Value) (b : Nat) (q : Wr) (r : Wr) (hs : Sat w F) (hv : WrV F v q) (hr : WrP F b r) :
    Calls Tryd.prog 45 #[v, .pointer (some ⟨b, 0, none⟩)] w (Tells w (.bool (samePl q r))) := by
 obtain ⟨x0, x1, x2, x3, x4, x5, rfl, h0, h1, h3⟩ := hv
 obtain ⟨z0, z1, z2, z3, z4, z5, c0, c1, c2, c3, k0, k1, k3⟩ := hr
 have S := St.start hs
 go_enter Tryd.func45, Tryd.ntmps45
 refine wp_seq_k (fun K1 hK1 => region_wl ?_)
 refine stNew S (v := fun n => .pointer (some ⟨n, 0, none⟩)) rfl (ex_box (v := (.agg #[(.slice x0 q.name.length x1), (.slice x2 q.key.length x3), (.bool q.gone), (.slice x4 q.value.length x5)])) rfl) (fun n2 w3 S4 => ?_)
 simp only [pS, pN, pA, pC, pZ]
 have S4 : St w F w3 F [⟨n2, [(.slice x0 q.name.length x1), (.slice x2 q.key.length x3), (.bool q.gone), (.slice x4 q.value.length x5)], 42⟩] [] := S4
 refine do_ rfl (.bool false) (ex_assign _) ?_
 simp only [pS, pN, pA, pC, pZ]
 refine wl_nil (hK1 _ _ ?_)
 refine wp_seq_k (fun K5 hK5 => region_wl ?_)
 refine do_ rfl (.agg #[(.slice x0 q.name.length x1), (.slice x2 q.key.length x3), (.bool q.gone), (.slice x4 q.value.length x5)]) (ex_load rfl (loadN (cs := [(.slice x0 q.name.length x1), (.slice x2 q.key.length x3), (.bool q.gone), (.slice x4 q.value.length x5)]) Tryd.underlying42 rfl (size_42) (St.range S4 (i := 0) rfl 0 [(.slice x0 q.name.length x1), (.slice x2 q.key.length x3), (.bool q.gone), (.slice x4 q.value.length x5)] (sub_range 0 rfl)))) ?_
 simp only [pS, pN, pA, pC, pZ]
 refine do_ rfl (.agg #[(.slice z0 r.name.length z1), (.slice z2 r.key.length z3), (.bool r.gone), (.slice z4 r.value.length z5)]) (ex_load rfl (loadN (cs := [(.slice z0 r.name.length z1), (.slice z2 r.key.length z3), (.bool r.gone), (.slice z4 r.value.length z5)]) Tryd.underlying42 rfl (size_42) (range4 (St.fz S4 c0) (St.fz S4 c1) (St.fz S4 c2) (St.fz S4 c3)))) ?_
 simp only [pS, pN, pA, pC, pZ]
 refine stTells (v := (.bool (samePl q r))) S4 rfl (ex_fn (vs := #[(.agg #[(.slice x0 q.name.length x1), (.slice x2 q.key.length x3), (.bool q.gone), (.slice x4 q.value.length x5)]), (.agg #[(.slice z0 r.name.length z1), (.slice z2 r.key.length z3), (.bool r.gone), (.slice z4 r.value.length z5)])]) (map2 rfl rfl) rfl (ent_41 _ _)) (samePlace_spec _ _ _ _ _ _ (S4).sat ⟨_, _, _, _, _, _, rfl, h0, h1, h3⟩ ⟨_, _, _, _, _, _, rfl, k0, k1, k3⟩) (fun w6 S7 => ?_)
 simp only [pS, pN, pA, pC, pZ]
 refine do_ rfl (.bool (samePl q r)) (ex_assign _) ?_
 simp only [pS, pN, pA, pC, pZ]
 refine wl_nil (hK5 _ _ ?_)
 refine wp_ret ?_
 (try simp only [Exit.then, Exit.inBlock, ↓reduceIte, Nat.reduceEqDiff])
 refine bodyPost_ret (v := (.bool (samePl q r))) ?_ rfl ?_
 ·exact res_t rfl rfl
 ·exact ⟨rfl, S7.gr.below⟩
set_option maxHeartbeats 8000000 in
theorem check2_index (F : Fz) (w : World) (v : Value) (b : Nat) (l : List Wr) (r : Wr) (hs : Sat w F) (hv : Wrs F v l) (hr : WrP F b r) (hl : l.length ≤ 1000000) :
    Calls Tryd.prog 39 #[v, .func (.func 45) #[] #[.pointer (some ⟨b, 0, none⟩)]] w (Tells w (.int .i64 (idxE l (fun q : Wr => (samePl q r))))) := by
 obtain ⟨a, c, rfl, hc1, hc2⟩ := Sl.shape hv
 unfold maxLen at hc2
 have S := St.start hs
 go_enter Tryd.func39, Tryd.ntmps39
 refine wp_seq_k (fun K1 hK1 => region_wl ?_)
 refine do_ rfl (.int .i64 0) (ex_assign _) ?_
 simp only [pS, pN, pA, pC, pZ]
 refine wl_nil (hK1 _ _ ?_)
 refine wp_seq_k (fun K2 hK2 => ?_)
 refine wp_seq_k (fun K3 hK3 => region_wl ?_)
 refine do_ rfl (.slice a l.length c) (ex_move _) ?_
 simp only [pS, pN, pA, pC, pZ]
 refine do_ rfl (.int .i64 ((l.length : Nat) : Int)) (ex_len Tryd.underlying61 rfl) ?_
 simp only [pS, pN, pA, pC, pZ]
 refine do_ rfl (.int .i64 0) (ex_move _) ?_
 simp only [pS, pN, pA, pC, pZ]
 refine wl_nil (hK3 _ _ ?_)
 refine wp_block ?_
 refine wp_loop_g (fun mm aa w5 => ∃ (k : Nat) (u4 : Nat → Value), mm = l.length - k ∧ u4 = slots aa ∧ aa = ⟨#[(.slice a l.length c), (.func (.func 45) #[] #[(.pointer (some ⟨b, 0, none⟩))]), undef, undef, (u4 4), (u4 5), (.slice a l.length c), (.int .i64 ((l.length : Nat) : Int)), (.int .i64 ((k : Nat) : Int)), (u4 9), (u4 10), (u4 11), (u4 12), (u4 13), (u4 14), (u4 15), (u4 16), (u4 17), (u4 18)], []⟩ ∧ St w F w5 F [] [] ∧ (k ≤ l.length) ∧ (∀ (i : Nat) q, i < k → l[i]? = some q → (fun q : Wr => (samePl q r)) q = false)) _ ⟨0, _, rfl, rfl, rfl, S, (by omega), (fun i q hi => absurd hi (by omega))⟩ ?_
 rintro m6 a7 w8 ⟨k, u4, rfl, -, rfl, S9, hk, hbad⟩ K11 hK11
 refine wp_seq_k (fun K12 hK12 => region_wl ?_)
 by_cases hc9 : k < l.length
 ·refine do_ rfl (.bool true) (ex_lss (m := ((k : Nat) : Int)) (n := ((l.length : Nat) : Int)) (b := true) rfl rfl (decide_eq_true (by omega))) ?_
  simp only [pS, pN, pA, pC, pZ]
  refine wl_nil (hK12 _ _ ?_)
  refine wp_seq_k (fun K13 hK13 => ?_)
  refine wp_cond_true rfl ?_
  refine wp_skip ?_
  refine hK13 _ _ ?_
  refine wp_seq_k (fun K14 hK14 => ?_)
  refine wp_block ?_
  refine wp_seq_k (fun K15 hK15 => region_wl ?_)
  refine do_ rfl (.int .i64 ((k : Nat) : Int)) (ex_move _) ?_
  simp only [pS, pN, pA, pC, pZ]
  refine do_ rfl (.int .i64 ((k : Nat) : Int)) (ex_assign _) ?_
  simp only [pS, pN, pA, pC, pZ]
  refine wl_nil (hK15 _ _ ?_)
  refine wp_seq_k (fun K16 hK16 => ?_)
  obtain ⟨p, hp⟩ : ∃ p, l[k]? = some p := ⟨l[k], List.getElem?_eq_getElem hc9⟩
  obtain ⟨b17, o18, ha19, xa21, xc22, xa25, xc26, xa30, xc31, c20, c24, c28, c29, r23, r27, r32⟩ := Wrs.get hv hp
  refine region_wl ?_
  refine do_ rfl (.func (.func 45) #[] #[(.pointer (some ⟨b, 0, none⟩))]) (ex_move _) ?_
  simp only [pS, pN, pA, pC, pZ]
  refine do_ rfl (.slice a l.length c) (ex_move _) ?_
  simp only [pS, pN, pA, pC, pZ]
  refine do_ rfl (.int .i64 ((k : Nat) : Int)) (ex_move _) ?_
  simp only [pS, pN, pA, pC, pZ]
  refine do_ rfl (.pointer (some ⟨b17, o18 + k * 4, none⟩)) (ex_at (i := k) (sz := 4) Tryd.underlying61 (sizeof_42 _) rfl ha19 rfl (by omega) rfl) ?_
  simp only [pS, pN, pA, pC, pZ]
  refine do_ rfl (.agg #[(.slice xa21 p.name.length xc22), (.slice xa25 p.key.length xc26), (.bool p.gone), (.slice xa30 p.value.length xc31)]) (ex_load rfl (loadN (cs := [(.slice xa21 p.name.length xc22), (.slice xa25 p.key.length xc26), (.bool p.gone), (.slice xa30 p.value.length xc31)]) Tryd.underlying42 rfl (size_42) (range4 (St.fz S9 c20) (St.fz S9 c24) (St.fz S9 c28) (St.fz S9 c29)))) ?_
  simp only [pS, pN, pA, pC, pZ]
  refine stTells (v := (.bool ((fun q : Wr => (samePl q r)) p))) S9 rfl (ex_fv (fs := #[]) (cs := #[(.pointer (some ⟨b, 0, none⟩))]) (vs := #[(.agg #[(.slice xa21 p.name.length xc22), (.slice xa25 p.key.length xc26), (.bool p.gone), (.slice xa30 p.value.length xc31)]), (.pointer (some ⟨b, 0, none⟩))]) rfl (vmap (fs := #[]) (cs := #[(.pointer (some ⟨b, 0, none⟩))]) (xs := #[(.agg #[(.slice xa21 p.name.length xc22), (.slice xa25 p.key.length xc26), (.bool p.gone), (.slice xa30 p.value.length xc31)])]) (map1 rfl) (by simp)) (ent_45 _ _)) (check2_clos _ _ _ b p r (S9).sat ⟨_, _, _, _, _, _, rfl, r23, r27, r32⟩ hr) (fun w33 S34 => ?_)
  simp only [pS, pN, pA, pC, pZ]
  refine wl_nil (hK16 _ _ ?_)
  refine wp_cond_split rfl (fun hc35 => ?_) (fun hc35 => ?_)
  ·refine wp_seq_k (fun K36 hK36 => region_wl ?_)
   refine do_ rfl (.int .i64 ((k : Nat) : Int)) (ex_move _) ?_
   simp only [pS, pN, pA, pC, pZ]
   refine do_ rfl (.int .i64 ((k : Nat) : Int)) (ex_assign _) ?_
   simp only [pS, pN, pA, pC, pZ]
   refine wl_nil (hK36 _ _ ?_)
   refine wp_ret ?_
   (try simp only [Exit.then, Exit.inBlock, ↓reduceIte, Nat.reduceEqDiff])
   refine bodyPost_ret (v := (.int .i64 ((k : Nat) : Int))) ?_ rfl ?_
   ·exact res_t rfl rfl
   ·exact ⟨by rw [idxE_hit hp hc35 hbad], S34.gr.below⟩
  ·refine wp_skip ?_
   refine hK14 _ _ ?_
   refine region_wl ?_
   refine do_ rfl (.int .i64 (((k + 1) : Nat) : Int)) (ex_add (m := ((k : Nat) : Int)) (n := (1 : Int)) (r := (((k + 1) : Nat) : Int)) rfl rfl (by omega) (by omega) (by omega)) ?_
   simp only [pS, pN, pA, pC, pZ]
   refine do_ rfl (.int .i64 (((k + 1) : Nat) : Int)) (ex_move _) ?_
   simp only [pS, pN, pA, pC, pZ]
   refine wl_nil ?_
   exact hK11 _ _ _ (by omega) ⟨(k + 1), _, rfl, rfl, rfl, S34, (by omega), (fun i q hi hq => by rcases Nat.lt_succ_iff_lt_or_eq.1 hi with h | rfl; exact hbad i q h hq; (rw [hp] at hq; cases hq; exact hc35))⟩
 ·refine do_ rfl (.bool false) (ex_lss (m := ((k : Nat) : Int)) (n := ((l.length : Nat) : Int)) (b := false) rfl rfl (decide_eq_false (by omega))) ?_
  simp only [pS, pN, pA, pC, pZ]
  refine wl_nil (hK12 _ _ ?_)
  refine wp_seq_k (fun K37 hK37 => ?_)
  refine wp_cond_false rfl ?_
  refine wp_exit ?_
  refine hK2 _ _ ?_
  refine wp_seq_k (fun K38 hK38 => region_wl ?_)
  refine do_ rfl (.int .i64 (-1)) (ex_assign _) ?_
  simp only [pS, pN, pA, pC, pZ]
  refine wl_nil (hK38 _ _ ?_)
  refine wp_ret ?_
  (try simp only [Exit.then, Exit.inBlock, ↓reduceIte, Nat.reduceEqDiff])
  refine bodyPost_ret (v := (.int .i64 (-1))) ?_ rfl ?_
  ·exact res_t rfl rfl
  ·exact ⟨by rw [idxE_none (fun i q hi hq => hbad i q (by omega) hq)], S9.gr.below⟩
set_option maxHeartbeats 8000000 in
theorem check2_contains (F : Fz) (w : World) (v : Value) (b : Nat) (l : List Wr) (r : Wr) (hs : Sat w F) (hv : Wrs F v l) (hr : WrP F b r) (hl : l.length ≤ 1000000) :
    Calls Tryd.prog 44 #[v, .func (.func 45) #[] #[.pointer (some ⟨b, 0, none⟩)]] w (Tells w (.bool (l.any (fun q : Wr => (samePl q r))))) := by
 obtain ⟨a, c, rfl, hc1, hc2⟩ := Sl.shape hv
 have S := St.start hs
 go_enter Tryd.func44, Tryd.ntmps44
 refine wp_seq_k (fun K1 hK1 => region_wl ?_)
 refine do_ rfl (.bool false) (ex_assign _) ?_
 simp only [pS, pN, pA, pC, pZ]
 refine wl_nil (hK1 _ _ ?_)
 refine wp_seq_k (fun K2 hK2 => region_wl ?_)
 refine do_ rfl (.slice a l.length c) (ex_move _) ?_
 simp only [pS, pN, pA, pC, pZ]
 refine do_ rfl (.func (.func 45) #[] #[(.pointer (some ⟨b, 0, none⟩))]) (ex_move _) ?_
 simp only [pS, pN, pA, pC, pZ]
 refine stTells (v := (.int .i64 (idxE l (fun q : Wr => (samePl q r))))) S rfl (ex_fn (vs := #[(.slice a l.length c), (.func (.func 45) #[] #[(.pointer (some ⟨b, 0, none⟩))])]) (map2 rfl rfl) rfl (ent_39 _ _)) (check2_index _ _ _ b l r (S).sat hv hr hl) (fun w3 S4 => ?_)
 simp only [pS, pN, pA, pC, pZ]
 refine do_ rfl (.bool (l.any (fun q : Wr => (samePl q r)))) (ex_geq (m := idxE l (fun q : Wr => (samePl q r))) (n := 0) (b := l.any (fun q : Wr => (samePl q r))) rfl rfl idxE_any) ?_
 simp only [pS, pN, pA, pC, pZ]
 refine do_ rfl (.bool (l.any (fun q : Wr => (samePl q r)))) (ex_assign _) ?_
 simp only [pS, pN, pA, pC, pZ]
 refine wl_nil (hK2 _ _ ?_)
 refine wp_ret ?_
 (try simp only [Exit.then, Exit.inBlock, ↓reduceIte, Nat.reduceEqDiff])
 refine bodyPost_ret (v := (.bool (l.any (fun q : Wr => (samePl q r))))) ?_ rfl ?_
 ·exact res_t rfl rfl
 ·exact ⟨rfl, S4.gr.below⟩
set_option maxHeartbeats 8000000 in
theorem write1_clos (F : Fz) (w : World) (v : Value) (b : Nat) (q : Wr) (r : Wr) (hs : Sat w F) (hv : WrV F v q) (hr : WrP F b r) :
    Calls Tryd.prog 40 #[v, .pointer (some ⟨b, 0, none⟩)] w (Tells w (.bool (samePl q r))) := by
 obtain ⟨x0, x1, x2, x3, x4, x5, rfl, h0, h1, h3⟩ := hv
 obtain ⟨z0, z1, z2, z3, z4, z5, c0, c1, c2, c3, k0, k1, k3⟩ := hr
 have S := St.start hs
 go_enter Tryd.func40, Tryd.ntmps40
 refine wp_seq_k (fun K1 hK1 => region_wl ?_)
 refine stNew S (v := fun n => .pointer (some ⟨n, 0, none⟩)) rfl (ex_box (v := (.agg #[(.slice x0 q.name.length x1), (.slice x2 q.key.length x3), (.bool q.gone), (.slice x4 q.value.length x5)])) rfl) (fun n2 w3 S4 => ?_)
 simp only [pS, pN, pA, pC, pZ]
 have S4 : St w F w3 F [⟨n2, [(.slice x0 q.name.length x1), (.slice x2 q.key.length x3), (.bool q.gone), (.slice x4 q.value.length x5)], 42⟩] [] := S4
 refine do_ rfl (.bool false) (ex_assign _) ?_
 simp only [pS, pN, pA, pC, pZ]
 refine wl_nil (hK1 _ _ ?_)
 refine wp_seq_k (fun K5 hK5 => region_wl ?_)
 refine do_ rfl (.agg #[(.slice x0 q.name.length x1), (.slice x2 q.key.length x3), (.bool q.gone), (.slice x4 q.value.length x5)]) (ex_load rfl (loadN (cs := [(.slice x0 q.name.length x1), (.slice x2 q.key.length x3), (.bool q.gone), (.slice x4 q.value.length x5)]) Tryd.underlying42 rfl (size_42) (St.range S4 (i := 0) rfl 0 [(.slice x0 q.name.length x1), (.slice x2 q.key.length x3), (.bool q.gone), (.slice x4 q.value.length x5)] (sub_range 0 rfl)))) ?_
 simp only [pS, pN, pA, pC, pZ]
 refine do_ rfl (.agg #[(.slice z0 r.name.length z1), (.slice z2 r.key.length z3), (.bool r.gone), (.slice z4 r.value.length z5)]) (ex_load rfl (loadN (cs := [(.slice z0 r.name.length z1), (.slice z2 r.key.length z3), (.bool r.gone), (.slice z4 r.value.length z5)]) Tryd.underlying42 rfl (size_42) (range4 (St.fz S4 c0) (St.fz S4 c1) (St.fz S4 c2) (St.fz S4 c3)))) ?_
 simp only [pS, pN, pA, pC, pZ]
 refine stTells (v := (.bool (samePl q r))) S4 rfl (ex_fn (vs := #[(.agg #[(.slice x0 q.name.length x1), (.slice x2 q.key.length x3), (.bool q.gone), (.slice x4 q.value.length x5)]), (.agg #[(.slice z0 r.name.length z1), (.slice z2 r.key.length z3), (.bool r.gone), (.slice z4 r.value.length z5)])]) (map2 rfl rfl) rfl (ent_41 _ _)) (samePlace_spec _ _ _ _ _ _ (S4).sat ⟨_, _, _, _, _, _, rfl, h0, h1, h3⟩ ⟨_, _, _, _, _, _, rfl, k0, k1, k3⟩) (fun w6 S7 => ?_)
 simp only [pS, pN, pA, pC, pZ]
 refine do_ rfl (.bool (samePl q r)) (ex_assign _) ?_
 simp only [pS, pN, pA, pC, pZ]
 refine wl_nil (hK5 _ _ ?_)
 refine wp_ret ?_
 (try simp only [Exit.then, Exit.inBlock, ↓reduceIte, Nat.reduceEqDiff])
 refine bodyPost_ret (v := (.bool (samePl q r))) ?_ rfl ?_
 ·exact res_t rfl rfl
 ·exact ⟨rfl, S7.gr.below⟩
set_option maxHeartbeats 8000000 in
theorem write1_index (F : Fz) (w : World) (v : Value) (b : Nat) (l : List Wr) (r : Wr) (hs : Sat w F) (hv : Wrs F v l) (hr : WrP F b r) (hl : l.length ≤ 1000000) :
    Calls Tryd.prog 39 #[v, .func (.func 40) #[] #[.pointer (some ⟨b, 0, none⟩)]] w (Tells w (.int .i64 (idxE l (fun q : Wr => (samePl q r))))) := by
 obtain ⟨a, c, rfl, hc1, hc2⟩ := Sl.shape hv
 unfold maxLen at hc2
 have S := St.start hs
 go_enter Tryd.func39, Tryd.ntmps39
 refine wp_seq_k (fun K1 hK1 => region_wl ?_)
 refine do_ rfl (.int .i64 0) (ex_assign _) ?_
 simp only [pS, pN, pA, pC, pZ]
 refine wl_nil (hK1 _ _ ?_)
 refine wp_seq_k (fun K2 hK2 => ?_)
 refine wp_seq_k (fun K3 hK3 => region_wl ?_)
 refine do_ rfl (.slice a l.length c) (ex_move _) ?_
 simp only [pS, pN, pA, pC, pZ]
 refine do_ rfl (.int .i64 ((l.length : Nat) : Int)) (ex_len Tryd.underlying61 rfl) ?_
 simp only [pS, pN, pA, pC, pZ]
 refine do_ rfl (.int .i64 0) (ex_move _) ?_
 simp only [pS, pN, pA, pC, pZ]
 refine wl_nil (hK3 _ _ ?_)
 refine wp_block ?_
 refine wp_loop_g (fun mm aa w5 => ∃ (k : Nat) (u4 : Nat → Value), mm = l.length - k ∧ u4 = slots aa ∧ aa = ⟨#[(.slice a l.length c), (.func (.func 40) #[] #[(.pointer (some ⟨b, 0, none⟩))]), undef, undef, (u4 4), (u4 5), (.slice a l.length c), (.int .i64 ((l.length : Nat) : Int)), (.int .i64 ((k : Nat) : Int)), (u4 9), (u4 10), (u4 11), (u4 12), (u4 13), (u4 14), (u4 15), (u4 16), (u4 17), (u4 18)], []⟩ ∧ St w F w5 F [] [] ∧ (k ≤ l.length) ∧ (∀ (i : Nat) q, i < k → l[i]? = some q → (fun q : Wr => (samePl q r)) q = false)) _ ⟨0, _, rfl, rfl, rfl, S, (by omega), (fun i q hi => absurd hi (by omega))⟩ ?_
 rintro m6 a7 w8 ⟨k, u4, rfl, -, rfl, S9, hk, hbad⟩ K11 hK11
 refine wp_seq_k (fun K12 hK12 => region_wl ?_)
 by_cases hc9 : k < l.length
 ·refine do_ rfl (.bool true) (ex_lss (m := ((k : Nat) : Int)) (n := ((l.length : Nat) : Int)) (b := true) rfl rfl (decide_eq_true (by omega))) ?_
  simp only [pS, pN, pA, pC, pZ]
  refine wl_nil (hK12 _ _ ?_)
  refine wp_seq_k (fun K13 hK13 => ?_)
  refine wp_cond_true rfl ?_
  refine wp_skip ?_
  refine hK13 _ _ ?_
  refine wp_seq_k (fun K14 hK14 => ?_)
  refine wp_block ?_
  refine wp_seq_k (fun K15 hK15 => region_wl ?_)
  refine do_ rfl (.int .i64 ((k : Nat) : Int)) (ex_move _) ?_
  simp only [pS, pN, pA, pC, pZ]
  refine do_ rfl (.int .i64 ((k : Nat) : Int)) (ex_assign _) ?_
  simp only [pS, pN, pA, pC, pZ]
  refine wl_nil (hK15 _ _ ?_)
  refine wp_seq_k (fun K16 hK16 => ?_)
  obtain ⟨p, hp⟩ : ∃ p, l[k]? = some p := ⟨l[k], List.getElem?_eq_getElem hc9⟩
  obtain ⟨b17, o18, ha19, xa21, xc22, xa25, xc26, xa30, xc31, c20, c24, c28, c29, r23, r27, r32⟩ := Wrs.get hv hp
  refine region_wl ?_
  refine do_ rfl (.func (.func 40) #[] #[(.pointer (some ⟨b, 0, none⟩))]) (ex_move _) ?_
  simp only [pS, pN, pA, pC, pZ]
  refine do_ rfl (.slice a l.length c) (ex_move _) ?_
  simp only [pS, pN, pA, pC, pZ]
  refine do_ rfl (.int .i64 ((k : Nat) : Int)) (ex_move _) ?_
  simp only [pS, pN, pA, pC, pZ]
  refine do_ rfl (.pointer (some ⟨b17, o18 + k * 4, none⟩)) (ex_at (i := k) (sz := 4) Tryd.underlying61 (sizeof_42 _) rfl ha19 rfl (by omega) rfl) ?_
  simp only [pS, pN, pA, pC, pZ]
  refine do_ rfl (.agg #[(.slice xa21 p.name.length xc22), (.slice xa25 p.key.length xc26), (.bool p.gone), (.slice xa30 p.value.length xc31)]) (ex_load rfl (loadN (cs := [(.slice xa21 p.name.length xc22), (.slice xa25 p.key.length xc26), (.bool p.gone), (.slice xa30 p.value.length xc31)]) Tryd.underlying42 rfl (size_42) (range4 (St.fz S9 c20) (St.fz S9 c24) (St.fz S9 c28) (St.fz S9 c29)))) ?_
  simp only [pS, pN, pA, pC, pZ]
  refine stTells (v := (.bool ((fun q : Wr => (samePl q r)) p))) S9 rfl (ex_fv (fs := #[]) (cs := #[(.pointer (some ⟨b, 0, none⟩))]) (vs := #[(.agg #[(.slice xa21 p.name.length xc22), (.slice xa25 p.key.length xc26), (.bool p.gone), (.slice xa30 p.value.length xc31)]), (.pointer (some ⟨b, 0, none⟩))]) rfl (vmap (fs := #[]) (cs := #[(.pointer (some ⟨b, 0, none⟩))]) (xs := #[(.agg #[(.slice xa21 p.name.length xc22), (.slice xa25 p.key.length xc26), (.bool p.gone), (.slice xa30 p.value.length xc31)])]) (map1 rfl) (by simp)) (ent_40 _ _)) (write1_clos _ _ _ b p r (S9).sat ⟨_, _, _, _, _, _, rfl, r23, r27, r32⟩ hr) (fun w33 S34 => ?_)
  simp only [pS, pN, pA, pC, pZ]
  refine wl_nil (hK16 _ _ ?_)
  refine wp_cond_split rfl (fun hc35 => ?_) (fun hc35 => ?_)
  ·refine wp_seq_k (fun K36 hK36 => region_wl ?_)
   refine do_ rfl (.int .i64 ((k : Nat) : Int)) (ex_move _) ?_
   simp only [pS, pN, pA, pC, pZ]
   refine do_ rfl (.int .i64 ((k : Nat) : Int)) (ex_assign _) ?_
   simp only [pS, pN, pA, pC, pZ]
   refine wl_nil (hK36 _ _ ?_)
   refine wp_ret ?_
   (try simp only [Exit.then, Exit.inBlock, ↓reduceIte, Nat.reduceEqDiff])
   refine bodyPost_ret (v := (.int .i64 ((k : Nat) : Int))) ?_ rfl ?_
   ·exact res_t rfl rfl
   ·exact ⟨by rw [idxE_hit hp hc35 hbad], S34.gr.below⟩
  ·refine wp_skip ?_
   refine hK14 _ _ ?_
   refine region_wl ?_
   refine do_ rfl (.int .i64 (((k + 1) : Nat) : Int)) (ex_add (m := ((k : Nat) : Int)) (n := (1 : Int)) (r := (((k + 1) : Nat) : Int)) rfl rfl (by omega) (by omega) (by omega)) ?_
   simp only [pS, pN, pA, pC, pZ]
   refine do_ rfl (.int .i64 (((k + 1) : Nat) : Int)) (ex_move _) ?_
   simp only [pS, pN, pA, pC, pZ]
   refine wl_nil ?_
   exact hK11 _ _ _ (by omega) ⟨(k + 1), _, rfl, rfl, rfl, S34, (by omega), (fun i q hi hq => by rcases Nat.lt_succ_iff_lt_or_eq.1 hi with h | rfl; exact hbad i q h hq; (rw [hp] at hq; cases hq; exact hc35))⟩
 ·refine do_ rfl (.bool false) (ex_lss (m := ((k : Nat) : Int)) (n := ((l.length : Nat) : Int)) (b := false) rfl rfl (decide_eq_false (by omega))) ?_
  simp only [pS, pN, pA, pC, pZ]
  refine wl_nil (hK12 _ _ ?_)
  refine wp_seq_k (fun K37 hK37 => ?_)
  refine wp_cond_false rfl ?_
  refine wp_exit ?_
  refine hK2 _ _ ?_
  refine wp_seq_k (fun K38 hK38 => region_wl ?_)
  refine do_ rfl (.int .i64 (-1)) (ex_assign _) ?_
  simp only [pS, pN, pA, pC, pZ]
  refine wl_nil (hK38 _ _ ?_)
  refine wp_ret ?_
  (try simp only [Exit.then, Exit.inBlock, ↓reduceIte, Nat.reduceEqDiff])
  refine bodyPost_ret (v := (.int .i64 (-1))) ?_ rfl ?_
  ·exact res_t rfl rfl
  ·exact ⟨by rw [idxE_none (fun i q hi hq => hbad i q (by omega) hq)], S9.gr.below⟩
set_option maxHeartbeats 8000000 in
theorem write1_contains (F : Fz) (w : World) (v : Value) (b : Nat) (l : List Wr) (r : Wr) (hs : Sat w F) (hv : Wrs F v l) (hr : WrP F b r) (hl : l.length ≤ 1000000) :
    Calls Tryd.prog 44 #[v, .func (.func 40) #[] #[.pointer (some ⟨b, 0, none⟩)]] w (Tells w (.bool (l.any (fun q : Wr => (samePl q r))))) := by
 obtain ⟨a, c, rfl, hc1, hc2⟩ := Sl.shape hv
 have S := St.start hs
 go_enter Tryd.func44, Tryd.ntmps44
 refine wp_seq_k (fun K1 hK1 => region_wl ?_)
 refine do_ rfl (.bool false) (ex_assign _) ?_
 simp only [pS, pN, pA, pC, pZ]
 refine wl_nil (hK1 _ _ ?_)
 refine wp_seq_k (fun K2 hK2 => region_wl ?_)
 refine do_ rfl (.slice a l.length c) (ex_move _) ?_
 simp only [pS, pN, pA, pC, pZ]
 refine do_ rfl (.func (.func 40) #[] #[(.pointer (some ⟨b, 0, none⟩))]) (ex_move _) ?_
 simp only [pS, pN, pA, pC, pZ]
 refine stTells (v := (.int .i64 (idxE l (fun q : Wr => (samePl q r))))) S rfl (ex_fn (vs := #[(.slice a l.length c), (.func (.func 40) #[] #[(.pointer (some ⟨b, 0, none⟩))])]) (map2 rfl rfl) rfl (ent_39 _ _)) (write1_index _ _ _ b l r (S).sat hv hr hl) (fun w3 S4 => ?_)
 simp only [pS, pN, pA, pC, pZ]
 refine do_ rfl (.bool (l.any (fun q : Wr => (samePl q r)))) (ex_geq (m := idxE l (fun q : Wr => (samePl q r))) (n := 0) (b := l.any (fun q : Wr => (samePl q r))) rfl rfl idxE_any) ?_
 simp only [pS, pN, pA, pC, pZ]
 refine do_ rfl (.bool (l.any (fun q : Wr => (samePl q r)))) (ex_assign _) ?_
 simp only [pS, pN, pA, pC, pZ]
 refine wl_nil (hK2 _ _ ?_)
 refine wp_ret ?_
 (try simp only [Exit.then, Exit.inBlock, ↓reduceIte, Nat.reduceEqDiff])
 refine bodyPost_ret (v := (.bool (l.any (fun q : Wr => (samePl q r))))) ?_ rfl ?_
 ·exact res_t rfl rfl
 ·exact ⟨rfl, S4.gr.below⟩
end Go.Proofs.YticbfdhdipfjmaaDoor
namespace Go.Proofs.YticbfdhdipfjmaaDoor
open Go.RowKit
set_option maxRecDepth 100000
set_option linter.unusedVariables false
set_option linter.unusedSimpArgs false
theorem ex_makeFunc {P : Program} {ρ : Operand → Value} {w : World} {d : Option Tmp} {t : TypeId} {pos : String} {after : Array Edge} {guard : Option (Nat × Bool)} {k : FuncId} {x : Operand} {v : Value} (hx : ρ x = v) : (execOp ρ ⟨d, .makeFunc (.func k) #[] #[x], t, pos, after, guard⟩).run P w = .ok (.value (.func (.func k) #[] #[v])) w := by
  subst hx
  simp [execOp, Instr.makeFunc]
theorem applyE_nil (r : Wr) : (applyE [] [r]).1 = wrE r := by
  unfold applyE
  rw [if_neg (by simp)]
  by_cases h : wrE r = 0
  · unfold applyR
    rw [if_neg (by simp [h])]
    cases hw : writeF [] r with
    | none =>
      have := (writeF_none (m := 0) (ForestOk.nil 0) (wrE_ok.1 h) (by omega) hw).1
      simp at this
    | some g => exact h.symm
  · rw [wr_bad h]
/-- A transaction by value. -/
def TxV (F : Fz) (u : Value) (t : Tx) : Prop := ∃ x0 y0 x1 y1, u = .agg #[.int .i64 t.start, .slice x0 t.reads.length y0, .slice x1 t.writes.length y1] ∧ Rds F (.slice x0 t.reads.length y0) t.reads ∧ Wrs F (.slice x1 t.writes.length y1) t.writes
theorem TxV.mono {F F' : Fz} {u : Value} {t : Tx} (h : TxV F u t) (hl : Le F F') : TxV F' u t := by
  obtain ⟨x0, y0, x1, y1, rfl, h0, h1⟩ := h
  exact ⟨x0, y0, x1, y1, rfl, h0.mono hl, h1.mono hl⟩
def rdsAt (l : List Rd) : Nat → Nat → Int
  | 0, _ => 0
  | n + 1, k => match l[k]? with
    | none => 0
    | some r => if rdE r ≠ 0 then rdE r else if (l.take k).any (fun q => decide (q = r)) = true then 3 else rdsAt l n (k + 1)
def wrsAt (l : List Wr) : Nat → Nat → Int
  | 0, _ => 0
  | n + 1, k => match l[k]? with
    | none => 0
    | some r => if wrE r ≠ 0 then wrE r else if (l.take k).any (fun q => samePl q r) = true then 3 else wrsAt l n (k + 1)
def txE (t : Tx) : Int := if t.start < 0 ∨ 1048576 < t.start then 2 else if 20 < t.reads.length ∨ 10 < t.writes.length then 1 else if rdsAt t.reads t.reads.length 0 ≠ 0 then rdsAt t.reads t.reads.length 0 else wrsAt t.writes t.writes.length 0
theorem rdsAt_at {l : List Rd} {k : Nat} {r : Rd} (hp : l[k]? = some r) : rdsAt l (l.length - k) k = if rdE r ≠ 0 then rdE r else if (l.take k).any (fun q => decide (q = r)) = true then 3 else rdsAt l (l.length - (k + 1)) (k + 1) := by
  obtain ⟨hk, _⟩ := List.getElem?_eq_some_iff.1 hp
  rw [show l.length - k = (l.length - (k + 1)) + 1 from by omega]
  simp only [rdsAt, hp]
theorem rdsAt_end {l : List Rd} {k : Nat} (hk : l.length ≤ k) : rdsAt l (l.length - k) k = 0 := by rw [show l.length - k = 0 from by omega]; rfl
theorem wrsAt_at {l : List Wr} {k : Nat} {r : Wr} (hp : l[k]? = some r) : wrsAt l (l.length - k) k = if wrE r ≠ 0 then wrE r else if (l.take k).any (fun q => samePl q r) = true then 3 else wrsAt l (l.length - (k + 1)) (k + 1) := by
  obtain ⟨hk, _⟩ := List.getElem?_eq_some_iff.1 hp
  rw [show l.length - k = (l.length - (k + 1)) + 1 from by omega]
  simp only [wrsAt, hp]
theorem wrsAt_end {l : List Wr} {k : Nat} (hk : l.length ≤ k) : wrsAt l (l.length - k) k = 0 := by rw [show l.length - k = 0 from by omega]; rfl
set_option maxHeartbeats 8000000 in
theorem txnWrite_spec (F : Fz) (w : World) (v : Value) (r : Wr) (hs : Sat w F) (hv : WrV F v r) (hb : r.name.length ≤ 100000 ∧ r.key.length ≤ 100000 ∧ r.value.length ≤ 100000) :
    Calls Tryd.prog 37 #[v] w (Tells w (.int .i64 (wrE r))) := by
 obtain ⟨x0, x1, x2, x3, x4, x5, rfl, h0, h1, h3⟩ := hv
 have S := St.start hs
 go_enter Tryd.func37, Tryd.ntmps37
 refine wp_seq_k (fun K1 hK1 => region_wl ?_)
 refine stNew S (v := fun n => .pointer (some ⟨n, 0, none⟩)) rfl (ex_box (v := (.agg #[(.slice x0 r.name.length x1), (.slice x2 r.key.length x3), (.bool r.gone), (.slice x4 r.value.length x5)])) rfl) (fun n2 w3 S4 => ?_)
 simp only [pS, pN, pA, pC, pZ]
 have S4 : St w F w3 F [⟨n2, [(.slice x0 r.name.length x1), (.slice x2 r.key.length x3), (.bool r.gone), (.slice x4 r.value.length x5)], 42⟩] [] := S4
 refine do_ rfl (.int .i64 0) (ex_assign _) ?_
 simp only [pS, pN, pA, pC, pZ]
 refine wl_nil (hK1 _ _ ?_)
 refine wp_seq_k (fun K5 hK5 => region_wl ?_)
 refine do_ rfl (.agg #[(.slice x0 r.name.length x1), (.slice x2 r.key.length x3), (.bool r.gone), (.slice x4 r.value.length x5)]) (ex_load rfl (loadN (cs := [(.slice x0 r.name.length x1), (.slice x2 r.key.length x3), (.bool r.gone), (.slice x4 r.value.length x5)]) Tryd.underlying42 rfl (size_42) (St.range S4 (i := 0) rfl 0 [(.slice x0 r.name.length x1), (.slice x2 r.key.length x3), (.bool r.gone), (.slice x4 r.value.length x5)] (sub_range 0 rfl)))) ?_
 simp only [pS, pN, pA, pC, pZ]
 refine stNew S4 (v := fun n => .slice (some ⟨n, 0, none⟩) 1 1) rfl (ex_lit (ps := #[(0, (.agg #[(.slice x0 r.name.length x1), (.slice x2 r.key.length x3), (.bool r.gone), (.slice x4 r.value.length x5)]))]) (cells := #[(.slice x0 r.name.length x1), (.slice x2 r.key.length x3), (.bool r.gone), (.slice x4 r.value.length x5)]) (E := 42) (bmap1 rfl) (fun w => by kernel_rfl)) (fun n6 w7 S8 => ?_)
 simp only [pS, pN, pA, pC, pZ]
 have S8 : St w F w7 F [⟨n6, [(.slice x0 r.name.length x1), (.slice x2 r.key.length x3), (.bool r.gone), (.slice x4 r.value.length x5)], 42⟩, ⟨n2, [(.slice x0 r.name.length x1), (.slice x2 r.key.length x3), (.bool r.gone), (.slice x4 r.value.length x5)], 42⟩] [] := S8
 obtain ⟨S9, le10, hc11⟩ := St.freezeBlk S8 (i := 0) rfl
 have r13 : Wrs _ (.slice (some ⟨n6, 0, none⟩) 1 1) [r] := sl_of_block (R := WrC) (l := [r]) (el := [[(.slice x0 r.name.length x1), (.slice x2 r.key.length x3), (.bool r.gone), (.slice x4 r.value.length x5)]]) hc11 rfl ⟨⟨_, _, _, _, rfl, (h0.mono le10), (h1.mono le10), rfl, (h3.mono le10)⟩, trivial⟩ (by simp) (by unfold maxLen; simp)
 generalize addF F w7 n6 = F12 at *
 have S9 : St w F w7 F12 [⟨n2, [(.slice x0 r.name.length x1), (.slice x2 r.key.length x3), (.bool r.gone), (.slice x4 r.value.length x5)], 42⟩] [] := S9
 refine stGives S9 rfl (ex_fn (vs := #[(.slice none 0 0), (.slice (some ⟨n6, 0, none⟩) 1 1)]) (map2 rfl rfl) rfl (ent_48 _ _)) (apply_spec _ _ _ _ [] [r] (S9).sat (Sl.nil _ _ _) r13 (ForestOk.nil 60) (fun q hq => by rw [List.mem_singleton.1 hq]; exact hb)) ?_
 intro v19 w14 F16 S15 le17 R18
 obtain ⟨_, rfl, r22⟩ := R18
 obtain ⟨a20, c21, rfl, _⟩ := Sl.shape r22
 simp only [pS, pN, pA, pC, pZ]
 refine do_ rfl (.tuple #[(.slice a20 (applyE [] [r]).2.length c21), (.int .i64 (applyE [] [r]).1)]) (ex_move _) ?_
 simp only [pS, pN, pA, pC, pZ]
 refine do_ rfl (.slice a20 (applyE [] [r]).2.length c21) (ex_extract rfl rfl) ?_
 simp only [pS, pN, pA, pC, pZ]
 refine do_ rfl (.int .i64 (applyE [] [r]).1) (ex_extract rfl rfl) ?_
 simp only [pS, pN, pA, pC, pZ]
 refine do_ rfl (.slice a20 (applyE [] [r]).2.length c21) (ex_assign _) ?_
 simp only [pS, pN, pA, pC, pZ]
 refine do_ rfl (.int .i64 (applyE [] [r]).1) (ex_assign _) ?_
 simp only [pS, pN, pA, pC, pZ]
 refine wl_nil (hK5 _ _ ?_)
 refine wp_seq_k (fun K23 hK23 => region_wl ?_)
 refine do_ rfl (.int .i64 (applyE [] [r]).1) (ex_move _) ?_
 simp only [pS, pN, pA, pC, pZ]
 refine do_ rfl (.int .i64 (applyE [] [r]).1) (ex_assign _) ?_
 simp only [pS, pN, pA, pC, pZ]
 refine wl_nil (hK23 _ _ ?_)
 refine wp_ret ?_
 (try simp only [Exit.then, Exit.inBlock, ↓reduceIte, Nat.reduceEqDiff])
 refine bodyPost_ret (v := (.int .i64 (applyE [] [r]).1)) ?_ rfl ?_
 ·exact res_t rfl rfl
 ·exact ⟨by rw [applyE_nil], S15.gr.below⟩
set_option maxHeartbeats 8000000 in
theorem txnCheck_spec (F : Fz) (w : World) (v : Value) (t : Tx) (hs : Sat w F) (hv : TxV F v t) (hbw : ∀ r ∈ t.writes, r.name.length ≤ 100000 ∧ r.key.length ≤ 100000 ∧ r.value.length ≤ 100000) :
    Calls Tryd.prog 30 #[v] w (Tells w (.int .i64 (txE t))) := by
 obtain ⟨x0, y0, x1, y1, rfl, h0, h1⟩ := hv
 obtain ⟨_, _, e0, q0, q1⟩ := Sl.shape h0
 obtain ⟨_, _, e1, q2, q3⟩ := Sl.shape h1
 injection e0 with _ _ e0
 injection e1 with _ _ e1
 subst e0 e1
 unfold maxLen at q1 q3
 have S := St.start hs
 go_enter Tryd.func30, Tryd.ntmps30
 refine wp_seq_k (fun K1 hK1 => region_wl ?_)
 refine stNew S (v := fun n => .pointer (some ⟨n, 0, none⟩)) rfl (ex_box (v := (.agg #[(.int .i64 t.start), (.slice x0 t.reads.length y0), (.slice x1 t.writes.length y1)])) rfl) (fun n2 w3 S4 => ?_)
 simp only [pS, pN, pA, pC, pZ]
 have S4 : St w F w3 F [⟨n2, [(.int .i64 t.start), (.slice x0 t.reads.length y0), (.slice x1 t.writes.length y1)], 63⟩] [] := S4
 refine do_ rfl (.int .i64 0) (ex_assign _) ?_
 simp only [pS, pN, pA, pC, pZ]
 refine wl_nil (hK1 _ _ ?_)
 refine wp_seq_k (fun K5 hK5 => ?_)
 refine wp_seq_k (fun K6 hK6 => region_wl ?_)
 refine do_ rfl (.pointer (some ⟨n2, 0, none⟩)) (ex_field (q := ⟨n2, 0, none⟩) rfl (fa_63_0 _ _)) ?_
 simp only [pS, pN, pA, pC, pZ]
 refine do_ rfl (.int .i64 t.start) (ex_load rfl (load1 (nagg_3 _) (St.cell S4 (i := 0) rfl rfl))) ?_
 simp only [pS, pN, pA, pC, pZ]
 by_cases hc11 : t.start < (0 : Int)
 ·refine do_ rfl (.bool true) (ex_lss (m := t.start) (n := (0 : Int)) (b := true) rfl rfl (decide_eq_true (by omega))) ?_
  simp only [pS, pN, pA, pC, pZ]
  refine do_ rfl (.bool true) (ex_move _) ?_
  simp only [pS, pN, pA, pC, pZ]
  refine doN (wanted_no rfl rfl rfl (c := true) rfl (by decide)) ?_
  simp only [pS, pN, pA, pC, pZ]
  refine doN (wanted_no rfl rfl rfl (c := true) rfl (by decide)) ?_
  simp only [pS, pN, pA, pC, pZ]
  refine doN (wanted_no rfl rfl rfl (c := true) rfl (by decide)) ?_
  simp only [pS, pN, pA, pC, pZ]
  refine do_ rfl (.bool true) (ex_pick (b := true) rfl) ?_
  simp only [pS, pN, pA, pC, pZ]
  refine wl_nil (hK6 _ _ ?_)
  refine wp_cond_true rfl ?_
  refine wp_seq_k (fun K7 hK7 => region_wl ?_)
  refine do_ rfl (.int .i64 2) (ex_assign _) ?_
  simp only [pS, pN, pA, pC, pZ]
  refine wl_nil (hK7 _ _ ?_)
  refine wp_ret ?_
  (try simp only [Exit.then, Exit.inBlock, ↓reduceIte, Nat.reduceEqDiff])
  refine bodyPost_ret (v := (.int .i64 2)) ?_ rfl ?_
  ·exact res_t rfl rfl
  ·exact ⟨by unfold txE; rw [if_pos (by omega)], S4.gr.below⟩
 ·refine do_ rfl (.bool false) (ex_lss (m := t.start) (n := (0 : Int)) (b := false) rfl rfl (decide_eq_false (by omega))) ?_
  simp only [pS, pN, pA, pC, pZ]
  refine do_ rfl (.bool false) (ex_move _) ?_
  simp only [pS, pN, pA, pC, pZ]
  refine do_ rfl (.pointer (some ⟨n2, 0, none⟩)) (ex_field (q := ⟨n2, 0, none⟩) rfl (fa_63_0 _ _)) ?_
  simp only [pS, pN, pA, pC, pZ]
  refine do_ rfl (.int .i64 t.start) (ex_load rfl (load1 (nagg_3 _) (St.cell S4 (i := 0) rfl rfl))) ?_
  simp only [pS, pN, pA, pC, pZ]
  by_cases hc15 : (1048576 : Int) < t.start
  ·refine do_ rfl (.bool true) (ex_gtr (m := t.start) (n := (1048576 : Int)) (b := true) rfl rfl (decide_eq_true (by omega))) ?_
   simp only [pS, pN, pA, pC, pZ]
   refine do_ rfl (.bool true) (ex_pick (b := false) rfl) ?_
   simp only [pS, pN, pA, pC, pZ]
   refine wl_nil (hK6 _ _ ?_)
   refine wp_cond_true rfl ?_
   refine wp_seq_k (fun K8 hK8 => region_wl ?_)
   refine do_ rfl (.int .i64 2) (ex_assign _) ?_
   simp only [pS, pN, pA, pC, pZ]
   refine wl_nil (hK8 _ _ ?_)
   refine wp_ret ?_
   (try simp only [Exit.then, Exit.inBlock, ↓reduceIte, Nat.reduceEqDiff])
   refine bodyPost_ret (v := (.int .i64 2)) ?_ rfl ?_
   ·exact res_t rfl rfl
   ·exact ⟨by unfold txE; rw [if_pos (by omega)], S4.gr.below⟩
  ·refine do_ rfl (.bool false) (ex_gtr (m := t.start) (n := (1048576 : Int)) (b := false) rfl rfl (decide_eq_false (by omega))) ?_
   simp only [pS, pN, pA, pC, pZ]
   refine do_ rfl (.bool false) (ex_pick (b := false) rfl) ?_
   simp only [pS, pN, pA, pC, pZ]
   refine wl_nil (hK6 _ _ ?_)
   refine wp_cond_false rfl ?_
   refine wp_skip ?_
   refine hK5 _ _ ?_
   refine wp_seq_k (fun K9 hK9 => ?_)
   refine wp_seq_k (fun K10 hK10 => region_wl ?_)
   refine do_ rfl (.pointer (some ⟨n2, 1, none⟩)) (ex_field (q := ⟨n2, 1, none⟩) rfl (fa_63_1 _ _)) ?_
   simp only [pS, pN, pA, pC, pZ]
   refine do_ rfl (.slice x0 t.reads.length y0) (ex_load rfl (load1 (nagg_60 _) (St.cell S4 (i := 0) rfl rfl))) ?_
   simp only [pS, pN, pA, pC, pZ]
   refine do_ rfl (.int .i64 ((t.reads.length : Nat) : Int)) (ex_len Tryd.underlying60 rfl) ?_
   simp only [pS, pN, pA, pC, pZ]
   by_cases hc20 : 20 < t.reads.length
   ·refine do_ rfl (.bool true) (ex_gtr (m := ((t.reads.length : Nat) : Int)) (n := (20 : Int)) (b := true) rfl rfl (decide_eq_true (by omega))) ?_
    simp only [pS, pN, pA, pC, pZ]
    refine do_ rfl (.bool true) (ex_move _) ?_
    simp only [pS, pN, pA, pC, pZ]
    refine doN (wanted_no rfl rfl rfl (c := true) rfl (by decide)) ?_
    simp only [pS, pN, pA, pC, pZ]
    refine doN (wanted_no rfl rfl rfl (c := true) rfl (by decide)) ?_
    simp only [pS, pN, pA, pC, pZ]
    refine doN (wanted_no rfl rfl rfl (c := true) rfl (by decide)) ?_
    simp only [pS, pN, pA, pC, pZ]
    refine doN (wanted_no rfl rfl rfl (c := true) rfl (by decide)) ?_
    simp only [pS, pN, pA, pC, pZ]
    refine do_ rfl (.bool true) (ex_pick (b := true) rfl) ?_
    simp only [pS, pN, pA, pC, pZ]
    refine wl_nil (hK10 _ _ ?_)
    refine wp_cond_true rfl ?_
    refine wp_seq_k (fun K11 hK11 => region_wl ?_)
    refine do_ rfl (.int .i64 1) (ex_assign _) ?_
    simp only [pS, pN, pA, pC, pZ]
    refine wl_nil (hK11 _ _ ?_)
    refine wp_ret ?_
    (try simp only [Exit.then, Exit.inBlock, ↓reduceIte, Nat.reduceEqDiff])
    refine bodyPost_ret (v := (.int .i64 1)) ?_ rfl ?_
    ·exact res_t rfl rfl
    ·exact ⟨by unfold txE; rw [if_neg (by omega), if_pos (by omega)], S4.gr.below⟩
   ·refine do_ rfl (.bool false) (ex_gtr (m := ((t.reads.length : Nat) : Int)) (n := (20 : Int)) (b := false) rfl rfl (decide_eq_false (by omega))) ?_
    simp only [pS, pN, pA, pC, pZ]
    refine do_ rfl (.bool false) (ex_move _) ?_
    simp only [pS, pN, pA, pC, pZ]
    refine do_ rfl (.pointer (some ⟨n2, 2, none⟩)) (ex_field (q := ⟨n2, 2, none⟩) rfl (fa_63_2 _ _)) ?_
    simp only [pS, pN, pA, pC, pZ]
    refine do_ rfl (.slice x1 t.writes.length y1) (ex_load rfl (load1 (nagg_61 _) (St.cell S4 (i := 0) rfl rfl))) ?_
    simp only [pS, pN, pA, pC, pZ]
    refine do_ rfl (.int .i64 ((t.writes.length : Nat) : Int)) (ex_len Tryd.underlying61 rfl) ?_
    simp only [pS, pN, pA, pC, pZ]
    by_cases hc25 : 10 < t.writes.length
    ·refine do_ rfl (.bool true) (ex_gtr (m := ((t.writes.length : Nat) : Int)) (n := (10 : Int)) (b := true) rfl rfl (decide_eq_true (by omega))) ?_
     simp only [pS, pN, pA, pC, pZ]
     refine do_ rfl (.bool true) (ex_pick (b := false) rfl) ?_
     simp only [pS, pN, pA, pC, pZ]
     refine wl_nil (hK10 _ _ ?_)
     refine wp_cond_true rfl ?_
     refine wp_seq_k (fun K12 hK12 => region_wl ?_)
     refine do_ rfl (.int .i64 1) (ex_assign _) ?_
     simp only [pS, pN, pA, pC, pZ]
     refine wl_nil (hK12 _ _ ?_)
     refine wp_ret ?_
     (try simp only [Exit.then, Exit.inBlock, ↓reduceIte, Nat.reduceEqDiff])
     refine bodyPost_ret (v := (.int .i64 1)) ?_ rfl ?_
     ·exact res_t rfl rfl
     ·exact ⟨by unfold txE; rw [if_neg (by omega), if_pos (by omega)], S4.gr.below⟩
    ·refine do_ rfl (.bool false) (ex_gtr (m := ((t.writes.length : Nat) : Int)) (n := (10 : Int)) (b := false) rfl rfl (decide_eq_false (by omega))) ?_
     simp only [pS, pN, pA, pC, pZ]
     refine do_ rfl (.bool false) (ex_pick (b := false) rfl) ?_
     simp only [pS, pN, pA, pC, pZ]
     refine wl_nil (hK10 _ _ ?_)
     refine wp_cond_false rfl ?_
     refine wp_skip ?_
     refine hK9 _ _ ?_
     refine wp_seq_k (fun K13 hK13 => ?_)
     refine wp_seq_k (fun K14 hK14 => region_wl ?_)
     refine do_ rfl (.pointer (some ⟨n2, 1, none⟩)) (ex_field (q := ⟨n2, 1, none⟩) rfl (fa_63_1 _ _)) ?_
     simp only [pS, pN, pA, pC, pZ]
     refine do_ rfl (.slice x0 t.reads.length y0) (ex_load rfl (load1 (nagg_60 _) (St.cell S4 (i := 0) rfl rfl))) ?_
     simp only [pS, pN, pA, pC, pZ]
     refine do_ rfl (.int .i64 ((t.reads.length : Nat) : Int)) (ex_len Tryd.underlying60 rfl) ?_
     simp only [pS, pN, pA, pC, pZ]
     refine do_ rfl (.int .i64 0) (ex_move _) ?_
     simp only [pS, pN, pA, pC, pZ]
     refine wl_nil (hK14 _ _ ?_)
     refine wp_block ?_
     refine wp_loop_g (fun mm aa w17 => ∃ (k : Nat) (F15 : Fz) (u16 : Nat → Value), mm = t.reads.length - k ∧ u16 = slots aa ∧ aa = ⟨#[(.agg #[(.int .i64 t.start), (.slice x0 t.reads.length y0), (.slice x1 t.writes.length y1)]), (.pointer (some ⟨n2, 0, none⟩)), (u16 2), (u16 3), (u16 4), (u16 5), undef, undef, undef, (.pointer (some ⟨n2, 0, none⟩)), (.int .i64 t.start), (.bool false), (.bool false), (.pointer (some ⟨n2, 0, none⟩)), (.int .i64 t.start), (.bool false), (.bool false), (.pointer (some ⟨n2, 1, none⟩)), (.slice x0 t.reads.length y0), (.int .i64 ((t.reads.length : Nat) : Int)), (.bool false), (.bool false), (.pointer (some ⟨n2, 2, none⟩)), (.slice x1 t.writes.length y1), (.int .i64 ((t.writes.length : Nat) : Int)), (.bool false), (.bool false), (.pointer (some ⟨n2, 1, none⟩)), (.slice x0 t.reads.length y0), (.int .i64 ((t.reads.length : Nat) : Int)), (.int .i64 ((k : Nat) : Int)), (u16 31), (u16 32), (u16 33), (u16 34), (u16 35), (u16 36), (u16 37), (u16 38), (u16 39), (u16 40), (u16 41), (u16 42), (u16 43), (u16 44), (u16 45), (u16 46), undef, undef, undef, undef, undef, undef, undef, undef, undef, undef, undef, undef, undef, undef, undef, undef, undef, undef, undef, undef], []⟩ ∧ St w F w17 F15 [⟨n2, [(.int .i64 t.start), (.slice x0 t.reads.length y0), (.slice x1 t.writes.length y1)], 63⟩] [] ∧ Le F F15 ∧ (k ≤ t.reads.length) ∧ (rdsAt t.reads t.reads.length 0 = rdsAt t.reads (t.reads.length - k) k)) _ ⟨0, F, _, rfl, rfl, rfl, S4, Le.refl _, (by omega), rfl⟩ ?_
     rintro m18 a19 w20 ⟨k, F15, u16, rfl, -, rfl, S21, le22, hk, hTr⟩ K23 hK23
     refine wp_seq_k (fun K24 hK24 => region_wl ?_)
     by_cases hc31 : k < t.reads.length
     ·refine do_ rfl (.bool true) (ex_lss (m := ((k : Nat) : Int)) (n := ((t.reads.length : Nat) : Int)) (b := true) rfl rfl (decide_eq_true (by omega))) ?_
      simp only [pS, pN, pA, pC, pZ]
      refine wl_nil (hK24 _ _ ?_)
      refine wp_seq_k (fun K25 hK25 => ?_)
      refine wp_cond_true rfl ?_
      refine wp_skip ?_
      refine hK25 _ _ ?_
      refine wp_seq_k (fun K26 hK26 => ?_)
      refine wp_block ?_
      refine wp_seq_k (fun K27 hK27 => ?_)
      obtain ⟨p, hp⟩ : ∃ p, t.reads[k]? = some p := ⟨t.reads[k], List.getElem?_eq_getElem hc31⟩
      obtain ⟨b28, o29, ha30, xa32, xc33, xa36, xc37, xa41, xc42, c31, c35, c39, c40, r34, r38, r43⟩ := Rds.get (h0.mono le22) hp
      refine region_wl ?_
      refine do_ rfl (.int .i64 ((k : Nat) : Int)) (ex_move _) ?_
      simp only [pS, pN, pA, pC, pZ]
      refine do_ rfl (.pointer (some ⟨b28, o29 + k * 4, none⟩)) (ex_at (i := k) (sz := 4) Tryd.underlying60 (sizeof_38 _) rfl ha30 rfl (by omega) rfl) ?_
      simp only [pS, pN, pA, pC, pZ]
      refine do_ rfl (.agg #[(.slice xa32 p.name.length xc33), (.slice xa36 p.key.length xc37), (.bool p.wide), (.slice xa41 p.last.length xc42)]) (ex_load rfl (loadN (cs := [(.slice xa32 p.name.length xc33), (.slice xa36 p.key.length xc37), (.bool p.wide), (.slice xa41 p.last.length xc42)]) Tryd.underlying38 rfl (size_38) (range4 (St.fz S21 c31) (St.fz S21 c35) (St.fz S21 c39) (St.fz S21 c40)))) ?_
      simp only [pS, pN, pA, pC, pZ]
      refine stNew S21 (v := fun n => .pointer (some ⟨n, 0, none⟩)) rfl (ex_alloc (zero_38 _)) (fun n44 w45 S46 => ?_)
      simp only [pS, pN, pA, pC, pZ]
      have S46 : St w F w45 F15 [⟨n44, [(.slice none 0 0), (.slice none 0 0), (.bool false), (.slice none 0 0)], 38⟩, ⟨n2, [(.int .i64 t.start), (.slice x0 t.reads.length y0), (.slice x1 t.writes.length y1)], 63⟩] [] := S46
      refine do_ rfl (.int .i64 ((k : Nat) : Int)) (ex_assign _) ?_
      simp only [pS, pN, pA, pC, pZ]
      refine stStore (i := 0) (v := (.agg #[(.slice xa32 p.name.length xc33), (.slice xa36 p.key.length xc37), (.bool p.wide), (.slice xa41 p.last.length xc42)])) S46 rfl rfl rfl rfl (size_38) (allc4 rfl rfl rfl rfl) (Nat.le_of_ble_eq_true rfl) (fun w47 S48 => ?_)
      simp only [pS, pN, pA, pC, pZ]
      have S48 : St w F w47 F15 [⟨n44, [(.slice xa32 p.name.length xc33), (.slice xa36 p.key.length xc37), (.bool p.wide), (.slice xa41 p.last.length xc42)], 38⟩, ⟨n2, [(.int .i64 t.start), (.slice x0 t.reads.length y0), (.slice x1 t.writes.length y1)], 63⟩] [] := S48
      refine wl_nil (hK27 _ _ ?_)
      refine wp_seq_k (fun K49 hK49 => ?_)
      refine wp_seq_k (fun K50 hK50 => region_wl ?_)
      refine do_ rfl (.agg #[(.slice xa32 p.name.length xc33), (.slice xa36 p.key.length xc37), (.bool p.wide), (.slice xa41 p.last.length xc42)]) (ex_load rfl (loadN (cs := [(.slice xa32 p.name.length xc33), (.slice xa36 p.key.length xc37), (.bool p.wide), (.slice xa41 p.last.length xc42)]) Tryd.underlying38 rfl (size_38) (St.range S48 (i := 0) rfl 0 [(.slice xa32 p.name.length xc33), (.slice xa36 p.key.length xc37), (.bool p.wide), (.slice xa41 p.last.length xc42)] (sub_range 0 rfl)))) ?_
      simp only [pS, pN, pA, pC, pZ]
      refine stTells (v := (.int .i64 (rdE p))) S48 rfl (ex_fn (vs := #[(.agg #[(.slice xa32 p.name.length xc33), (.slice xa36 p.key.length xc37), (.bool p.wide), (.slice xa41 p.last.length xc42)])]) (map1 rfl) rfl (ent_31 _ _)) (shape_spec _ _ _ p (S48).sat ⟨_, _, _, _, _, _, rfl, r34, r38, r43⟩) (fun w51 S52 => ?_)
      simp only [pS, pN, pA, pC, pZ]
      refine do_ rfl (.int .i64 (rdE p)) (ex_assign _) ?_
      simp only [pS, pN, pA, pC, pZ]
      refine wl_nil (hK50 _ _ ?_)
      refine wp_seq_k (fun K53 hK53 => region_wl ?_)
      refine do_ rfl (.int .i64 (rdE p)) (ex_move _) ?_
      simp only [pS, pN, pA, pC, pZ]
      by_cases hc38 : (rdE p) = (0 : Int)
      ·refine do_ rfl (.bool false) (ex_neq (m := (rdE p)) (n := (0 : Int)) (b := false) rfl rfl (bne_eq_false_iff_eq.2 (by omega))) ?_
       simp only [pS, pN, pA, pC, pZ]
       refine wl_nil (hK53 _ _ ?_)
       refine wp_cond_false rfl ?_
       refine wp_skip ?_
       refine hK49 _ _ ?_
       refine wp_seq_k (fun K54 hK54 => ?_)
       obtain ⟨S55, le56, hc57⟩ := St.freezeBlk S52 (i := 0) rfl
       have r59 : RdP _ n44 p := ⟨_, _, _, _, _, _, hc57 0 _ rfl, hc57 1 _ rfl, hc57 2 _ rfl, hc57 3 _ rfl, (r34.mono le56), (r38.mono le56), (r43.mono le56)⟩
       generalize addF F15 w51 n44 = F58 at *
       have S55 : St w F w51 F58 [⟨n2, [(.int .i64 t.start), (.slice x0 t.reads.length y0), (.slice x1 t.writes.length y1)], 63⟩] [] := S55
       refine region_wl ?_
       refine do_ rfl (.pointer (some ⟨n2, 1, none⟩)) (ex_field (q := ⟨n2, 1, none⟩) rfl (fa_63_1 _ _)) ?_
       simp only [pS, pN, pA, pC, pZ]
       refine do_ rfl (.slice x0 t.reads.length y0) (ex_load rfl (load1 (nagg_60 _) (St.cell S55 (i := 0) rfl rfl))) ?_
       simp only [pS, pN, pA, pC, pZ]
       refine do_ rfl (.int .i64 ((k : Nat) : Int)) (ex_move _) ?_
       simp only [pS, pN, pA, pC, pZ]
       have r60 := Sl.takeN (m := k) (h0.mono (le22.trans le56)) (by omega)
       have r60 : Rds _ (.slice x0 k y0) (t.reads.take k) := r60
       refine do_ rfl (.slice x0 k y0) (ex_slice (l := 0) (h := k) (sz := 4) Tryd.underlying60 rfl (sizeof_38 _) (.inl ⟨rfl, rfl⟩) (.inr ⟨_, rfl, rfl⟩) (by omega) (by omega) (slice_zero)) ?_
       simp only [pS, pN, pA, pC, pZ]
       refine do_ rfl (.func (.func 43) #[] #[(.pointer (some ⟨n44, 0, none⟩))]) (ex_makeFunc rfl) ?_
       simp only [pS, pN, pA, pC, pZ]
       refine stTells (v := (.bool ((t.reads.take k).any (fun q => decide (q = p))))) S55 rfl (ex_fn (vs := #[(.slice x0 k y0), (.func (.func 43) #[] #[(.pointer (some ⟨n44, 0, none⟩))])]) (map2 rfl rfl) rfl (ent_33 _ _)) (check1_contains _ _ _ n44 (t.reads.take k) p (S55).sat r60 r59 (by rw [List.length_take]; omega)) (fun w61 S62 => ?_)
       simp only [pS, pN, pA, pC, pZ]
       refine wl_nil (hK54 _ _ ?_)
       refine wp_cond_split rfl (fun hc63 => ?_) (fun hc63 => ?_)
       ·refine wp_seq_k (fun K64 hK64 => region_wl ?_)
        refine do_ rfl (.int .i64 3) (ex_assign _) ?_
        simp only [pS, pN, pA, pC, pZ]
        refine wl_nil (hK64 _ _ ?_)
        refine wp_ret ?_
        (try simp only [Exit.then, Exit.inBlock, ↓reduceIte, Nat.reduceEqDiff])
        refine bodyPost_ret (v := (.int .i64 3)) ?_ rfl ?_
        ·exact res_t rfl rfl
        ·have hr : rdsAt t.reads t.reads.length 0 = 3 := by rw [hTr, rdsAt_at hp, if_neg (by omega), if_pos hc63]
         exact ⟨by unfold txE; rw [if_neg (by omega), if_neg (by omega), if_pos (by omega), hr], S62.gr.below⟩
       ·refine wp_skip ?_
        refine hK26 _ _ ?_
        refine region_wl ?_
        refine do_ rfl (.int .i64 (((k + 1) : Nat) : Int)) (ex_add (m := ((k : Nat) : Int)) (n := (1 : Int)) (r := (((k + 1) : Nat) : Int)) rfl rfl (by omega) (by omega) (by omega)) ?_
        simp only [pS, pN, pA, pC, pZ]
        refine do_ rfl (.int .i64 (((k + 1) : Nat) : Int)) (ex_move _) ?_
        simp only [pS, pN, pA, pC, pZ]
        refine wl_nil ?_
        exact hK23 _ _ _ (by omega) ⟨(k + 1), F58, _, rfl, rfl, rfl, S62, (le22.trans le56), (by omega), (by rw [hTr, rdsAt_at hp, if_neg (by omega), if_neg (by rw [hc63]; simp)])⟩
      ·refine do_ rfl (.bool true) (ex_neq (m := (rdE p)) (n := (0 : Int)) (b := true) rfl rfl (bne_iff_ne.2 (by omega))) ?_
       simp only [pS, pN, pA, pC, pZ]
       refine wl_nil (hK53 _ _ ?_)
       refine wp_cond_true rfl ?_
       refine wp_seq_k (fun K65 hK65 => region_wl ?_)
       refine do_ rfl (.int .i64 (rdE p)) (ex_move _) ?_
       simp only [pS, pN, pA, pC, pZ]
       refine do_ rfl (.int .i64 (rdE p)) (ex_assign _) ?_
       simp only [pS, pN, pA, pC, pZ]
       refine wl_nil (hK65 _ _ ?_)
       refine wp_ret ?_
       (try simp only [Exit.then, Exit.inBlock, ↓reduceIte, Nat.reduceEqDiff])
       refine bodyPost_ret (v := (.int .i64 (rdE p))) ?_ rfl ?_
       ·exact res_t rfl rfl
       ·have hr : rdsAt t.reads t.reads.length 0 = rdE p := by rw [hTr, rdsAt_at hp, if_pos hc38]
        exact ⟨by unfold txE; rw [if_neg (by omega), if_neg (by omega), if_pos (by omega), hr], S52.gr.below⟩
     ·refine do_ rfl (.bool false) (ex_lss (m := ((k : Nat) : Int)) (n := ((t.reads.length : Nat) : Int)) (b := false) rfl rfl (decide_eq_false (by omega))) ?_
      simp only [pS, pN, pA, pC, pZ]
      refine wl_nil (hK24 _ _ ?_)
      refine wp_seq_k (fun K66 hK66 => ?_)
      refine wp_cond_false rfl ?_
      refine wp_exit ?_
      refine hK13 _ _ ?_
      refine wp_seq_k (fun K67 hK67 => ?_)
      refine wp_seq_k (fun K68 hK68 => ?_)
      have hr0 : rdsAt t.reads t.reads.length 0 = 0 := by rw [hTr, rdsAt_end (by omega)]
      refine region_wl ?_
      refine do_ rfl (.pointer (some ⟨n2, 2, none⟩)) (ex_field (q := ⟨n2, 2, none⟩) rfl (fa_63_2 _ _)) ?_
      simp only [pS, pN, pA, pC, pZ]
      refine do_ rfl (.slice x1 t.writes.length y1) (ex_load rfl (load1 (nagg_61 _) (St.cell S21 (i := 0) rfl rfl))) ?_
      simp only [pS, pN, pA, pC, pZ]
      refine do_ rfl (.int .i64 ((t.writes.length : Nat) : Int)) (ex_len Tryd.underlying61 rfl) ?_
      simp only [pS, pN, pA, pC, pZ]
      refine do_ rfl (.int .i64 0) (ex_move _) ?_
      simp only [pS, pN, pA, pC, pZ]
      refine wl_nil (hK68 _ _ ?_)
      refine wp_block ?_
      refine wp_loop_g (fun mm aa w71 => ∃ (j : Nat) (F69 : Fz) (u70 : Nat → Value), mm = t.writes.length - j ∧ u70 = slots aa ∧ aa = ⟨#[(.agg #[(.int .i64 t.start), (.slice x0 t.reads.length y0), (.slice x1 t.writes.length y1)]), (.pointer (some ⟨n2, 0, none⟩)), (u70 2), (u16 3), (u16 4), (u16 5), (u70 6), (u70 7), (u70 8), (.pointer (some ⟨n2, 0, none⟩)), (.int .i64 t.start), (.bool false), (.bool false), (.pointer (some ⟨n2, 0, none⟩)), (.int .i64 t.start), (.bool false), (.bool false), (.pointer (some ⟨n2, 1, none⟩)), (.slice x0 t.reads.length y0), (.int .i64 ((t.reads.length : Nat) : Int)), (.bool false), (.bool false), (.pointer (some ⟨n2, 2, none⟩)), (.slice x1 t.writes.length y1), (.int .i64 ((t.writes.length : Nat) : Int)), (.bool false), (.bool false), (.pointer (some ⟨n2, 1, none⟩)), (.slice x0 t.reads.length y0), (.int .i64 ((t.reads.length : Nat) : Int)), (.int .i64 ((k : Nat) : Int)), (.bool false), (u16 32), (u16 33), (u16 34), (u16 35), (u16 36), (u16 37), (u16 38), (u16 39), (u16 40), (u16 41), (u16 42), (u16 43), (u16 44), (u16 45), (u16 46), (.pointer (some ⟨n2, 2, none⟩)), (.slice x1 t.writes.length y1), (.int .i64 ((t.writes.length : Nat) : Int)), (.int .i64 ((j : Nat) : Int)), (u70 51), (u70 52), (u70 53), (u70 54), (u70 55), (u70 56), (u70 57), (u70 58), (u70 59), (u70 60), (u70 61), (u70 62), (u70 63), (u70 64), (u70 65), (u70 66)], []⟩ ∧ St w F w71 F69 [⟨n2, [(.int .i64 t.start), (.slice x0 t.reads.length y0), (.slice x1 t.writes.length y1)], 63⟩] [] ∧ Le F15 F69 ∧ (j ≤ t.writes.length) ∧ (wrsAt t.writes t.writes.length 0 = wrsAt t.writes (t.writes.length - j) j)) _ ⟨0, F15, _, rfl, rfl, rfl, S21, Le.refl _, (by omega), rfl⟩ ?_
      rintro m72 a73 w74 ⟨j, F69, u70, rfl, -, rfl, S75, le76, hj, hTw⟩ K77 hK77
      refine wp_seq_k (fun K78 hK78 => region_wl ?_)
      by_cases hc51 : j < t.writes.length
      ·refine do_ rfl (.bool true) (ex_lss (m := ((j : Nat) : Int)) (n := ((t.writes.length : Nat) : Int)) (b := true) rfl rfl (decide_eq_true (by omega))) ?_
       simp only [pS, pN, pA, pC, pZ]
       refine wl_nil (hK78 _ _ ?_)
       refine wp_seq_k (fun K79 hK79 => ?_)
       refine wp_cond_true rfl ?_
       refine wp_skip ?_
       refine hK79 _ _ ?_
       refine wp_seq_k (fun K80 hK80 => ?_)
       refine wp_block ?_
       refine wp_seq_k (fun K81 hK81 => ?_)
       obtain ⟨p, hp⟩ : ∃ p, t.writes[j]? = some p := ⟨t.writes[j], List.getElem?_eq_getElem hc51⟩
       obtain ⟨b82, o83, ha84, xa86, xc87, xa90, xc91, xa95, xc96, c85, c89, c93, c94, r88, r92, r97⟩ := Wrs.get (h1.mono (le22.trans le76)) hp
       refine region_wl ?_
       refine do_ rfl (.int .i64 ((j : Nat) : Int)) (ex_move _) ?_
       simp only [pS, pN, pA, pC, pZ]
       refine do_ rfl (.pointer (some ⟨b82, o83 + j * 4, none⟩)) (ex_at (i := j) (sz := 4) Tryd.underlying61 (sizeof_42 _) rfl ha84 rfl (by omega) rfl) ?_
       simp only [pS, pN, pA, pC, pZ]
       refine do_ rfl (.agg #[(.slice xa86 p.name.length xc87), (.slice xa90 p.key.length xc91), (.bool p.gone), (.slice xa95 p.value.length xc96)]) (ex_load rfl (loadN (cs := [(.slice xa86 p.name.length xc87), (.slice xa90 p.key.length xc91), (.bool p.gone), (.slice xa95 p.value.length xc96)]) Tryd.underlying42 rfl (size_42) (range4 (St.fz S75 c85) (St.fz S75 c89) (St.fz S75 c93) (St.fz S75 c94)))) ?_
       simp only [pS, pN, pA, pC, pZ]
       refine stNew S75 (v := fun n => .pointer (some ⟨n, 0, none⟩)) rfl (ex_alloc (zero_42 _)) (fun n98 w99 S100 => ?_)
       simp only [pS, pN, pA, pC, pZ]
       have S100 : St w F w99 F69 [⟨n98, [(.slice none 0 0), (.slice none 0 0), (.bool false), (.slice none 0 0)], 42⟩, ⟨n2, [(.int .i64 t.start), (.slice x0 t.reads.length y0), (.slice x1 t.writes.length y1)], 63⟩] [] := S100
       refine do_ rfl (.int .i64 ((j : Nat) : Int)) (ex_assign _) ?_
       simp only [pS, pN, pA, pC, pZ]
       refine stStore (i := 0) (v := (.agg #[(.slice xa86 p.name.length xc87), (.slice xa90 p.key.length xc91), (.bool p.gone), (.slice xa95 p.value.length xc96)])) S100 rfl rfl rfl rfl (size_42) (allc4 rfl rfl rfl rfl) (Nat.le_of_ble_eq_true rfl) (fun w101 S102 => ?_)
       simp only [pS, pN, pA, pC, pZ]
       have S102 : St w F w101 F69 [⟨n98, [(.slice xa86 p.name.length xc87), (.slice xa90 p.key.length xc91), (.bool p.gone), (.slice xa95 p.value.length xc96)], 42⟩, ⟨n2, [(.int .i64 t.start), (.slice x0 t.reads.length y0), (.slice x1 t.writes.length y1)], 63⟩] [] := S102
       refine wl_nil (hK81 _ _ ?_)
       refine wp_seq_k (fun K103 hK103 => ?_)
       refine wp_seq_k (fun K104 hK104 => region_wl ?_)
       refine do_ rfl (.agg #[(.slice xa86 p.name.length xc87), (.slice xa90 p.key.length xc91), (.bool p.gone), (.slice xa95 p.value.length xc96)]) (ex_load rfl (loadN (cs := [(.slice xa86 p.name.length xc87), (.slice xa90 p.key.length xc91), (.bool p.gone), (.slice xa95 p.value.length xc96)]) Tryd.underlying42 rfl (size_42) (St.range S102 (i := 0) rfl 0 [(.slice xa86 p.name.length xc87), (.slice xa90 p.key.length xc91), (.bool p.gone), (.slice xa95 p.value.length xc96)] (sub_range 0 rfl)))) ?_
       simp only [pS, pN, pA, pC, pZ]
       refine stTells (v := (.int .i64 (wrE p))) S102 rfl (ex_fn (vs := #[(.agg #[(.slice xa86 p.name.length xc87), (.slice xa90 p.key.length xc91), (.bool p.gone), (.slice xa95 p.value.length xc96)])]) (map1 rfl) rfl (ent_37 _ _)) (txnWrite_spec _ _ _ p (S102).sat ⟨_, _, _, _, _, _, rfl, r88, r92, r97⟩ (hbw p (List.mem_of_getElem? hp))) (fun w105 S106 => ?_)
       simp only [pS, pN, pA, pC, pZ]
       refine do_ rfl (.int .i64 (wrE p)) (ex_assign _) ?_
       simp only [pS, pN, pA, pC, pZ]
       refine wl_nil (hK104 _ _ ?_)
       refine wp_seq_k (fun K107 hK107 => region_wl ?_)
       refine do_ rfl (.int .i64 (wrE p)) (ex_move _) ?_
       simp only [pS, pN, pA, pC, pZ]
       by_cases hc58 : (wrE p) = (0 : Int)
       ·refine do_ rfl (.bool false) (ex_neq (m := (wrE p)) (n := (0 : Int)) (b := false) rfl rfl (bne_eq_false_iff_eq.2 (by omega))) ?_
        simp only [pS, pN, pA, pC, pZ]
        refine wl_nil (hK107 _ _ ?_)
        refine wp_cond_false rfl ?_
        refine wp_skip ?_
        refine hK103 _ _ ?_
        refine wp_seq_k (fun K108 hK108 => ?_)
        obtain ⟨S109, le110, hc111⟩ := St.freezeBlk S106 (i := 0) rfl
        have r113 : WrP _ n98 p := ⟨_, _, _, _, _, _, hc111 0 _ rfl, hc111 1 _ rfl, hc111 2 _ rfl, hc111 3 _ rfl, (r88.mono le110), (r92.mono le110), (r97.mono le110)⟩
        generalize addF F69 w105 n98 = F112 at *
        have S109 : St w F w105 F112 [⟨n2, [(.int .i64 t.start), (.slice x0 t.reads.length y0), (.slice x1 t.writes.length y1)], 63⟩] [] := S109
        refine region_wl ?_
        refine do_ rfl (.pointer (some ⟨n2, 2, none⟩)) (ex_field (q := ⟨n2, 2, none⟩) rfl (fa_63_2 _ _)) ?_
        simp only [pS, pN, pA, pC, pZ]
        refine do_ rfl (.slice x1 t.writes.length y1) (ex_load rfl (load1 (nagg_61 _) (St.cell S109 (i := 0) rfl rfl))) ?_
        simp only [pS, pN, pA, pC, pZ]
        refine do_ rfl (.int .i64 ((j : Nat) : Int)) (ex_move _) ?_
        simp only [pS, pN, pA, pC, pZ]
        have r114 := Sl.takeN (m := j) (h1.mono ((le22.trans le76).trans le110)) (by omega)
        have r114 : Wrs _ (.slice x1 j y1) (t.writes.take j) := r114
        refine do_ rfl (.slice x1 j y1) (ex_slice (l := 0) (h := j) (sz := 4) Tryd.underlying61 rfl (sizeof_42 _) (.inl ⟨rfl, rfl⟩) (.inr ⟨_, rfl, rfl⟩) (by omega) (by omega) (slice_zero)) ?_
        simp only [pS, pN, pA, pC, pZ]
        refine do_ rfl (.func (.func 45) #[] #[(.pointer (some ⟨n98, 0, none⟩))]) (ex_makeFunc rfl) ?_
        simp only [pS, pN, pA, pC, pZ]
        refine stTells (v := (.bool ((t.writes.take j).any (fun q => samePl q p)))) S109 rfl (ex_fn (vs := #[(.slice x1 j y1), (.func (.func 45) #[] #[(.pointer (some ⟨n98, 0, none⟩))])]) (map2 rfl rfl) rfl (ent_44 _ _)) (check2_contains _ _ _ n98 (t.writes.take j) p (S109).sat r114 r113 (by rw [List.length_take]; omega)) (fun w115 S116 => ?_)
        simp only [pS, pN, pA, pC, pZ]
        refine wl_nil (hK108 _ _ ?_)
        refine wp_cond_split rfl (fun hc117 => ?_) (fun hc117 => ?_)
        ·refine wp_seq_k (fun K118 hK118 => region_wl ?_)
         refine do_ rfl (.int .i64 3) (ex_assign _) ?_
         simp only [pS, pN, pA, pC, pZ]
         refine wl_nil (hK118 _ _ ?_)
         refine wp_ret ?_
         (try simp only [Exit.then, Exit.inBlock, ↓reduceIte, Nat.reduceEqDiff])
         refine bodyPost_ret (v := (.int .i64 3)) ?_ rfl ?_
         ·exact res_t rfl rfl
         ·exact ⟨by unfold txE; rw [if_neg (by omega), if_neg (by omega), if_neg (by omega), hTw, wrsAt_at hp, if_neg (by omega), if_pos hc117], S116.gr.below⟩
        ·refine wp_skip ?_
         refine hK80 _ _ ?_
         refine region_wl ?_
         refine do_ rfl (.int .i64 (((j + 1) : Nat) : Int)) (ex_add (m := ((j : Nat) : Int)) (n := (1 : Int)) (r := (((j + 1) : Nat) : Int)) rfl rfl (by omega) (by omega) (by omega)) ?_
         simp only [pS, pN, pA, pC, pZ]
         refine do_ rfl (.int .i64 (((j + 1) : Nat) : Int)) (ex_move _) ?_
         simp only [pS, pN, pA, pC, pZ]
         refine wl_nil ?_
         exact hK77 _ _ _ (by omega) ⟨(j + 1), F112, _, rfl, rfl, rfl, S116, (le76.trans le110), (by omega), (by rw [hTw, wrsAt_at hp, if_neg (by omega), if_neg (by rw [hc117]; simp)])⟩
       ·refine do_ rfl (.bool true) (ex_neq (m := (wrE p)) (n := (0 : Int)) (b := true) rfl rfl (bne_iff_ne.2 (by omega))) ?_
        simp only [pS, pN, pA, pC, pZ]
        refine wl_nil (hK107 _ _ ?_)
        refine wp_cond_true rfl ?_
        refine wp_seq_k (fun K119 hK119 => region_wl ?_)
        refine do_ rfl (.int .i64 (wrE p)) (ex_move _) ?_
        simp only [pS, pN, pA, pC, pZ]
        refine do_ rfl (.int .i64 (wrE p)) (ex_assign _) ?_
        simp only [pS, pN, pA, pC, pZ]
        refine wl_nil (hK119 _ _ ?_)
        refine wp_ret ?_
        (try simp only [Exit.then, Exit.inBlock, ↓reduceIte, Nat.reduceEqDiff])
        refine bodyPost_ret (v := (.int .i64 (wrE p))) ?_ rfl ?_
        ·exact res_t rfl rfl
        ·exact ⟨by unfold txE; rw [if_neg (by omega), if_neg (by omega), if_neg (by omega), hTw, wrsAt_at hp, if_pos hc58], S106.gr.below⟩
      ·refine do_ rfl (.bool false) (ex_lss (m := ((j : Nat) : Int)) (n := ((t.writes.length : Nat) : Int)) (b := false) rfl rfl (decide_eq_false (by omega))) ?_
       simp only [pS, pN, pA, pC, pZ]
       refine wl_nil (hK78 _ _ ?_)
       refine wp_seq_k (fun K120 hK120 => ?_)
       refine wp_cond_false rfl ?_
       refine wp_exit ?_
       refine hK67 _ _ ?_
       refine wp_seq_k (fun K121 hK121 => region_wl ?_)
       refine do_ rfl (.int .i64 0) (ex_assign _) ?_
       simp only [pS, pN, pA, pC, pZ]
       refine wl_nil (hK121 _ _ ?_)
       refine wp_ret ?_
       (try simp only [Exit.then, Exit.inBlock, ↓reduceIte, Nat.reduceEqDiff])
       refine bodyPost_ret (v := (.int .i64 0)) ?_ rfl ?_
       ·exact res_t rfl rfl
       ·exact ⟨by unfold txE; rw [if_neg (by omega), if_neg (by omega), if_neg (by omega), hTw, wrsAt_end (by omega)], S75.gr.below⟩
end Go.Proofs.YticbfdhdipfjmaaDoor
namespace Go.Proofs.YticbfdhdipfjmaaDoor
open Go.RowKit
theorem rdE_ok {r : Rd} : rdE r = 0 ↔ RdOk r := by
  unfold rdE
  by_cases h1 : nameN r.name.length = 0
  · rw [if_neg (by simp [h1])]
    have hn := nameN_zero.1 h1
    by_cases h2 : checkN r.key.length = 0
    · rw [if_neg (by simp [h2])]
      have hk := checkN_zero.1 h2
      cases hg : r.wide with
      | true =>
        simp only [if_true]
        exact ⟨fun h => ⟨hn, hk, by rw [hg]; simpa using checkN_zero.1 h⟩, fun h => checkN_zero.2 (by have := h.last; rw [hg] at this; simpa using this)⟩
      | false =>
        simp only [Bool.false_eq_true, if_false]
        by_cases h3 : 0 < r.last.length
        · rw [if_pos h3]
          refine ⟨fun h => by omega, fun h => ?_⟩
          have := h.last
          rw [hg] at this
          simp at this
          rw [this] at h3; simp at h3
        · rw [if_neg h3]
          exact ⟨fun _ => ⟨hn, hk, by rw [hg]; simpa using List.eq_nil_of_length_eq_zero (by omega)⟩, fun _ => rfl⟩
    · rw [if_pos h2]
      exact ⟨fun h => absurd h h2, fun h => absurd (checkN_zero.2 h.key) h2⟩
  · rw [if_pos h1]
    exact ⟨fun h => absurd h h1, fun h => absurd (nameN_zero.2 h.name) h1⟩
theorem rdsAt_ok {l : List Rd} : ∀ n k, n + k = l.length → (rdsAt l n k = 0 ↔ ∀ (i : Nat) r, k ≤ i → l[i]? = some r → rdE r = 0 ∧ (l.take i).any (fun q => decide (q = r)) = false)
  | 0, k, h => ⟨fun _ i r hi hr => by have := (List.getElem?_eq_some_iff.1 hr).1; omega, fun _ => rfl⟩
  | n + 1, k, h => by
    have hk : k < l.length := by omega
    obtain ⟨x, hp⟩ : ∃ x, l[k]? = some x := ⟨_, List.getElem?_eq_getElem hk⟩
    simp only [rdsAt, hp]
    by_cases h1 : rdE x = 0
    · rw [if_neg (by simpa using h1)]
      by_cases h2 : (l.take k).any (fun q => decide (q = x)) = true
      · rw [if_pos h2]
        refine ⟨fun h => by omega, fun h => ?_⟩
        have := (h k _ (Nat.le_refl _) hp).2
        rw [h2] at this
        cases this
      · rw [if_neg h2, rdsAt_ok n (k + 1) (by omega)]
        refine ⟨fun h i r hi hr => ?_, fun h i r hi hr => h i r (by omega) hr⟩
        rcases Nat.lt_or_eq_of_le hi with hi | rfl
        · exact h i r hi hr
        · rw [hp] at hr; cases hr; exact ⟨h1, Bool.eq_false_iff.2 h2⟩
    · rw [if_pos h1]
      exact ⟨fun h => absurd h h1, fun h => absurd (h k _ (Nat.le_refl _) hp).1 h1⟩
theorem wrsAt_ok {l : List Wr} : ∀ n k, n + k = l.length → (wrsAt l n k = 0 ↔ ∀ (i : Nat) r, k ≤ i → l[i]? = some r → wrE r = 0 ∧ (l.take i).any (fun q => samePl q r) = false)
  | 0, k, h => ⟨fun _ i r hi hr => by have := (List.getElem?_eq_some_iff.1 hr).1; omega, fun _ => rfl⟩
  | n + 1, k, h => by
    have hk : k < l.length := by omega
    obtain ⟨x, hp⟩ : ∃ x, l[k]? = some x := ⟨_, List.getElem?_eq_getElem hk⟩
    simp only [wrsAt, hp]
    by_cases h1 : wrE x = 0
    · rw [if_neg (by simpa using h1)]
      by_cases h2 : (l.take k).any (fun q => samePl q x) = true
      · rw [if_pos h2]
        refine ⟨fun h => by omega, fun h => ?_⟩
        have := (h k _ (Nat.le_refl _) hp).2
        rw [h2] at this
        cases this
      · rw [if_neg h2, wrsAt_ok n (k + 1) (by omega)]
        refine ⟨fun h i r hi hr => ?_, fun h i r hi hr => h i r (by omega) hr⟩
        rcases Nat.lt_or_eq_of_le hi with hi | rfl
        · exact h i r hi hr
        · rw [hp] at hr; cases hr; exact ⟨h1, Bool.eq_false_iff.2 h2⟩
    · rw [if_pos h1]
      exact ⟨fun h => absurd h h1, fun h => absurd (h k _ (Nat.le_refl _) hp).1 h1⟩
theorem any_take {α : Type} {l : List α} {g : α → Bool} {i : Nat} : (l.take i).any g = false ↔ ∀ (j : Nat) q, j < i → l[j]? = some q → g q = false := by
  rw [List.any_eq_false]
  constructor
  · intro h j q hj hq
    have := h q (List.mem_of_getElem? (show (l.take i)[j]? = some q by rw [List.getElem?_take, if_pos hj]; exact hq))
    simpa using this
  · intro h x hx
    obtain ⟨j, hj, rfl⟩ := List.mem_iff_getElem.1 hx
    rw [List.length_take] at hj
    rw [List.getElem_take]
    simpa using h j l[j] (by omega) (List.getElem?_eq_getElem (by omega))
theorem txE_ok {t : Tx} : txE t = 0 ↔ TxOk t := by
  unfold txE
  by_cases h1 : t.start < 0 ∨ 1048576 < t.start
  · rw [if_pos h1]
    exact ⟨fun h => by omega, fun h => by have := h.start; omega⟩
  · rw [if_neg h1]
    by_cases h2 : 20 < t.reads.length ∨ 10 < t.writes.length
    · rw [if_pos h2]
      exact ⟨fun h => by omega, fun h => by have := h.nr; have := h.nw; omega⟩
    · rw [if_neg h2]
      have kr := rdsAt_ok (l := t.reads) t.reads.length 0 (by omega)
      have kw := wrsAt_ok (l := t.writes) t.writes.length 0 (by omega)
      have er : rdsAt t.reads t.reads.length 0 = 0 ↔ (∀ r ∈ t.reads, RdOk r) ∧ t.reads.Pairwise (· ≠ ·) := by
        rw [kr]
        constructor
        · intro h
          refine ⟨fun r hr => ?_, List.pairwise_iff_getElem.2 fun i j hi hj hij e => ?_⟩
          · obtain ⟨i, hi, rfl⟩ := List.mem_iff_getElem.1 hr
            exact rdE_ok.1 (h i _ (Nat.zero_le _) (List.getElem?_eq_getElem hi)).1
          · have := any_take.1 (h j _ (Nat.zero_le _) (List.getElem?_eq_getElem hj)).2 i _ hij (List.getElem?_eq_getElem hi)
            simp [e] at this
        · rintro ⟨h, hp⟩ i r _ hr
          refine ⟨rdE_ok.2 (h r (List.mem_of_getElem? hr)), any_take.2 fun j q hj hq => decide_eq_false fun e => ?_⟩
          obtain ⟨hi, rfl⟩ := List.getElem?_eq_some_iff.1 hr
          obtain ⟨hj', rfl⟩ := List.getElem?_eq_some_iff.1 hq
          exact List.pairwise_iff_getElem.1 hp j i hj' hi hj e
      have ew : wrsAt t.writes t.writes.length 0 = 0 ↔ (∀ r ∈ t.writes, WrOk r) ∧ t.writes.Pairwise fun a b => samePl a b = false := by
        rw [kw]
        constructor
        · intro h
          refine ⟨fun r hr => ?_, List.pairwise_iff_getElem.2 fun i j hi hj hij => ?_⟩
          · obtain ⟨i, hi, rfl⟩ := List.mem_iff_getElem.1 hr
            exact wrE_ok.1 (h i _ (Nat.zero_le _) (List.getElem?_eq_getElem hi)).1
          · exact any_take.1 (h j _ (Nat.zero_le _) (List.getElem?_eq_getElem hj)).2 i _ hij (List.getElem?_eq_getElem hi)
        · rintro ⟨h, hp⟩ i r _ hr
          refine ⟨wrE_ok.2 (h r (List.mem_of_getElem? hr)), any_take.2 fun j q hj hq => ?_⟩
          obtain ⟨hi, rfl⟩ := List.getElem?_eq_some_iff.1 hr
          obtain ⟨hj', rfl⟩ := List.getElem?_eq_some_iff.1 hq
          exact List.pairwise_iff_getElem.1 hp j i hj' hi hj
      by_cases h3 : rdsAt t.reads t.reads.length 0 = 0
      · rw [if_neg (by simpa using h3), ew]
        have := er.1 h3
        exact ⟨fun h => ⟨by omega, by omega, by omega, this.1, this.2, h.1, h.2⟩, fun h => ⟨h.writes, h.wdiff⟩⟩
      · rw [if_pos h3]
        exact ⟨fun h => absurd h h3, fun h => absurd (er.2 ⟨h.reads, h.rdiff⟩) h3⟩
theorem RdOk.small {r : Rd} (h : RdOk r) : r.name.length ≤ 100000 ∧ r.key.length ≤ 100000 ∧ r.last.length ≤ 100000 := by
  have h1 := h.name.2; have h2 := h.key.2; have h3 := h.last
  refine ⟨by omega, by omega, ?_⟩
  split at h3
  · omega
  · rw [h3]; simp
theorem WrOk.small {r : Wr} (h : WrOk r) : r.name.length ≤ 100000 ∧ r.key.length ≤ 100000 ∧ r.value.length ≤ 100000 := by
  have h1 := h.name.2; have h2 := h.key2; have h3 := h.value; omega
def nilX : Tx := ⟨0, [], []⟩
def noteE (t : Tx) (r : Rd) : Int := if txE t ≠ 0 then txE t else if rdE r ≠ 0 then rdE r else if r ∈ t.reads then 0 else if t.reads.length = 20 then 11 else 0
def noteT (t : Tx) (r : Rd) : Tx := if noteE t r ≠ 0 then nilX else (noteX t r).getD t
def writeE (t : Tx) (r : Wr) : Int := if txE t ≠ 0 then txE t else if wrE r ≠ 0 then wrE r else if 0 ≤ idxE t.writes (fun q => samePl q r) then 0 else if t.writes.length = 10 then 11 else 0
def writeT (t : Tx) (r : Wr) : Tx := if writeE t r ≠ 0 then nilX else (writeX t r).getD t
theorem noteE_ok {t u : Tx} {r : Rd} (h : TxOk t) (hr : RdOk r) (e : noteX t r = some u) : noteE t r = 0 ∧ noteT t r = u := by
  have h1 : noteE t r = 0 := by
    unfold noteE; rw [if_neg (by simpa using txE_ok.2 h), if_neg (by simpa using rdE_ok.2 hr)]
    unfold noteX at e
    split at e
    · rename_i hm; rw [if_pos hm]
    · rename_i hm
      split at e
      · cases e
      · rename_i hl; rw [if_neg hm, if_neg hl]
  exact ⟨h1, by unfold noteT; rw [if_neg (by simpa using h1), e]; rfl⟩
theorem noteE_full {t : Tx} {r : Rd} (h : TxOk t) (hr : RdOk r) (e : noteX t r = none) : noteE t r = 11 ∧ noteT t r = nilX := by
  have h1 : noteE t r = 11 := by
    unfold noteE; rw [if_neg (by simpa using txE_ok.2 h), if_neg (by simpa using rdE_ok.2 hr)]
    unfold noteX at e
    split at e
    · cases e
    · rename_i hm
      split at e
      · rename_i hl; rw [if_neg hm, if_pos hl]
      · cases e
  exact ⟨h1, by unfold noteT; rw [if_pos (by rw [h1]; decide)]⟩
theorem idxE_idxW {ws : List Wr} {r : Wr} : idxE ws (fun q => samePl q r) = match idxW ws r with | some i => (i : Int) | none => -1 := rfl
theorem writeE_ok {t u : Tx} {r : Wr} (h : TxOk t) (hr : WrOk r) (e : writeX t r = some u) : writeE t r = 0 ∧ writeT t r = u := by
  have h1 : writeE t r = 0 := by
    unfold writeE; rw [if_neg (by simpa using txE_ok.2 h), if_neg (by simpa using wrE_ok.2 hr), idxE_idxW]
    unfold writeX at e
    cases hi : idxW t.writes r with
    | some i => rw [if_pos (by simp only; omega)]
    | none =>
      rw [hi] at e
      simp only at e
      split at e
      · cases e
      · rename_i hl; rw [if_neg (by simp only; omega), if_neg hl]
  exact ⟨h1, by unfold writeT; rw [if_neg (by simpa using h1), e]; rfl⟩
theorem writeE_full {t : Tx} {r : Wr} (h : TxOk t) (hr : WrOk r) (e : writeX t r = none) : writeE t r = 11 ∧ writeT t r = nilX := by
  have h1 : writeE t r = 11 := by
    unfold writeE; rw [if_neg (by simpa using txE_ok.2 h), if_neg (by simpa using wrE_ok.2 hr), idxE_idxW]
    unfold writeX at e
    cases hi : idxW t.writes r with
    | some i => rw [hi] at e; cases e
    | none =>
      rw [hi] at e
      simp only at e
      split at e
      · rename_i hl; rw [if_neg (by simp only; omega), if_pos hl]
      · cases e
  exact ⟨h1, by unfold writeT; rw [if_pos (by rw [h1]; decide)]⟩
/-- A read of raw bytes. -/
def readP (p : Pl) : Rd := ⟨nameL p.name, keyL p.key, p.gone, if p.gone then keyL p.value else []⟩
theorem readP_ok (p : Pl) : RdOk (readP p) := by
  refine ⟨nameL_len _, keyL_len _, ?_⟩
  unfold readP
  cases p.gone
  · simp
  · simpa using keyL_len p.value
def txW (ws : List Wr) : Tx := ws.foldl (fun t w => (writeX t w).getD t) nilX
def txR (t : Tx) (rs : List Rd) : Tx := rs.foldl (fun t r => (noteX t r).getD t) t
theorem nilX_ok : TxOk nilX := ⟨by decide, by decide, by decide, by simp [nilX], by simp [nilX], by simp [nilX], by simp [nilX]⟩
theorem txW_snoc (ws : List Wr) (w : Wr) : txW (ws ++ [w]) = (writeX (txW ws) w).getD (txW ws) := by unfold txW; rw [List.foldl_append]; rfl
theorem txR_snoc (t : Tx) (rs : List Rd) (r : Rd) : txR t (rs ++ [r]) = (noteX (txR t rs) r).getD (txR t rs) := by unfold txR; rw [List.foldl_append]; rfl
theorem snocInd {α : Type} {p : List α → Prop} (h0 : p []) (h1 : ∀ l a, p l → p (l ++ [a])) (l : List α) : p l := by
  have : ∀ m : List α, p m.reverse := fun m => by
    induction m with
    | nil => exact h0
    | cons a m ih => rw [List.reverse_cons]; exact h1 _ _ ih
  have := this l.reverse
  rwa [List.reverse_reverse] at this
theorem txW_ok (ws : List Wr) : (∀ w ∈ ws, WrOk w) → ws.length ≤ 10 → TxOk (txW ws) ∧ (txW ws).writes.length ≤ ws.length ∧ (txW ws).reads = [] ∧ (txW ws).start = 0 := by
  refine snocInd (p := fun ws => (∀ w ∈ ws, WrOk w) → ws.length ≤ 10 → TxOk (txW ws) ∧ (txW ws).writes.length ≤ ws.length ∧ (txW ws).reads = [] ∧ (txW ws).start = 0) ?_ ?_ ws
  · exact fun _ _ => ⟨nilX_ok, by decide, rfl, rfl⟩
  · intro l a ih hw hl
    rw [List.length_append, List.length_singleton] at hl
    obtain ⟨h1, h2, h3, h4⟩ := ih (fun w hm => hw w (by simp [hm])) (by omega)
    obtain ⟨u, hu⟩ := writeX_room (t := txW l) (w := a) (by omega)
    obtain ⟨k1, k2, k3, _⟩ := writeX_len hu
    rw [txW_snoc, hu, List.length_append, List.length_singleton]
    exact ⟨writeX_ok h1 (hw a (by simp)) hu, by show u.writes.length ≤ _; omega, by show u.reads = _; rw [k2, h3], by show u.start = _; rw [k3, h4]⟩
theorem txR_ok {t : Tx} (ht : TxOk t) (h0 : t.reads = []) (rs : List Rd) : (∀ r ∈ rs, RdOk r) → rs.length ≤ 20 → TxOk (txR t rs) ∧ (txR t rs).reads.length ≤ rs.length ∧ (txR t rs).writes = t.writes ∧ (txR t rs).start = t.start := by
  refine snocInd (p := fun rs => (∀ r ∈ rs, RdOk r) → rs.length ≤ 20 → TxOk (txR t rs) ∧ (txR t rs).reads.length ≤ rs.length ∧ (txR t rs).writes = t.writes ∧ (txR t rs).start = t.start) ?_ ?_ rs
  · exact fun _ _ => ⟨ht, by show t.reads.length ≤ _; rw [h0]; simp, rfl, rfl⟩
  · intro l a ih hw hl
    rw [List.length_append, List.length_singleton] at hl
    obtain ⟨h1, h2, h3, h4⟩ := ih (fun w hm => hw w (by simp [hm])) (by omega)
    obtain ⟨u, hu⟩ := noteX_room (t := txR t l) (r := a) (by omega)
    obtain ⟨k1, k2, k3⟩ := noteX_len hu
    rw [txR_snoc, hu, List.length_append, List.length_singleton]
    exact ⟨noteX_ok h1 (hw a (by simp)) hu, by show u.reads.length ≤ _; omega, by show u.writes = _; rw [k2, h3], by show u.start = _; rw [k3, h4]⟩
def readsN (l : List Pl) (n : Nat) : List Rd := (l.take n).map readP
theorem readsN_ok (l : List Pl) (n : Nat) : ∀ r ∈ readsN l n, RdOk r := by
  intro r hr
  obtain ⟨p, _, rfl⟩ := List.mem_map.1 hr
  exact readP_ok p
theorem readsN_len (l : List Pl) (n : Nat) : (readsN l n).length ≤ n := by simp [readsN]; omega
theorem readsN_succ {l : List Pl} {k : Nat} {p : Pl} (h : l[k]? = some p) : readsN l (k + 1) = readsN l k ++ [readP p] := by
  obtain ⟨hk, rfl⟩ := List.getElem?_eq_some_iff.1 h
  unfold readsN
  rw [List.take_succ_eq_append_getElem hk, List.map_append]
  rfl
theorem readsN_end {l : List Pl} {k m : Nat} (h : l.length ≤ k) (hm : k ≤ m) : readsN l k = readsN l m := by
  unfold readsN; rw [List.take_of_length_le h, List.take_of_length_le (by omega)]
end Go.Proofs.YticbfdhdipfjmaaDoor
