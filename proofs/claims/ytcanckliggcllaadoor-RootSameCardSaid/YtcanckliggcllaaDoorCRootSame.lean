/- The walk of RootSame -/
import Derived.Test.YtcanckliggcllaaDoorBY26
import Derived.Test.YtcanckliggcllaaDoorBY24
namespace Go.Proofs.YtcanckliggcllaaDoor
open Go.RowKit
set_option maxRecDepth 100000
set_option linter.unusedVariables false
set_option linter.unusedSimpArgs false
theorem ex_makeFuncR {P : Program} {ρ : Operand → Value} {w : World} {d : Option Tmp} {t : TypeId} {pos : String} {after : Array Edge} {guard : Option (Nat × Bool)} {k : FuncId} {x : Operand} {v : Value} (hx : ρ x = v) : (execOp ρ ⟨d, .makeFunc (.func k) #[] #[x], t, pos, after, guard⟩).run P w = .ok (.value (.func (.func k) #[] #[v])) w := by
  subst hx
  simp [execOp, Instr.makeFunc]
def IntC (F : Fz) (cs : List Value) (z : Int) : Prop := cs = [.int .i64 z] ∧ -9223372036854775808 ≤ z ∧ z ≤ 9223372036854775807
theorem IntC.mono (F F' : Fz) (x : List Value) (p : Int) (hl : Le F F') (h : IntC F x p) : IntC F' x p := h
def Ints (F : Fz) (v : Value) (l : List Int) : Prop := Sl 1 IntC F v l
theorem Ints.mono {F F' : Fz} {v : Value} {l : List Int} (h : Ints F v l) (hl : Le F F') : Ints F' v l := Sl.mono IntC.mono h hl
theorem Ints.get {F : Fz} {a : Option Addr} {n c : Nat} {l : List Int} (h : Ints F (.slice a n c) l) {i : Nat} {z : Int} (hz : l[i]? = some z) :
    ∃ b o, a = some ⟨b, o, none⟩ ∧ cellF F b (o + i * 1) = some (.int .i64 z) ∧ -9223372036854775808 ≤ z ∧ z ≤ 9223372036854775807 := by
  obtain ⟨hi, rfl⟩ := List.getElem?_eq_some_iff.1 hz
  have hn := h.len
  obtain ⟨b, o, e, h1⟩ := Sl.at h (by omega) (by omega)
  obtain ⟨cs, q1, ⟨rfl, r1, r2⟩, q4⟩ := h1 i hi
  exact ⟨b, o, e, by have := q4 0 (by simp); simpa using this, r1, r2⟩
theorem rd_ints {H : Type} {enc : TypeId × Value → H} {P : Program} {w : World} {t e : TypeId} {fuel : Nat} {v : Value} {x : DataW H × List MemPlace} (ht : P.underlying t = some (.slice e)) (he : P.underlying e = some (.int .i64)) (hc : P.cellsOf e = 1)
    (h : DataW.trod enc P w 0 (fun _ => true) true fuel t [v] = some x) : ∃ l : List Int, Ints (whole w) v l :=
  rd_slice (α := Int) (k := 1) (R := IntC) ht hc (by omega) h (fun n cs y hl hy => by
    obtain ⟨c, rfl⟩ := List.length_eq_one_iff.1 hl
    obtain ⟨z, hz, _, hwf⟩ := DataW.trod_int he hy
    simp at hz
    subst hz
    have hb := bounds_i64 hwf
    exact ⟨z, rfl, by omega, by omega⟩)
/-- Whether a key is among the pairs, looked for from the front. -/
def fndN (k : By) : Nat → List Pr → Nat × Bool
  | _, [] => (0, false)
  | i, p :: l => if p.1 = k then (i, true) else fndN k (i + 1) l
theorem fnd_at {k : By} {l : List Pr} {i : Nat} {p : Pr} (hp : l[i]? = some p) (h : fndN k 0 l = fndN k i (l.drop i)) : fndN k 0 l = if p.1 = k then (i, true) else fndN k (i + 1) (l.drop (i + 1)) := by
  obtain ⟨hi, rfl⟩ := List.getElem?_eq_some_iff.1 hp
  rw [h, List.drop_eq_getElem_cons hi]
  rfl
theorem fnd_end {k : By} {l : List Pr} {i : Nat} (hi : l.length ≤ i) (h : fndN k 0 l = fndN k i (l.drop i)) : fndN k 0 l = (0, false) := by
  rw [h, List.drop_eq_nil_of_le hi]; rfl
theorem fnd_get {k : By} : ∀ {l : List Pr} {i : Nat}, (fndN k i l).2 = (getT l k).isSome
  | [], _ => rfl
  | p :: l, i => by
    simp only [fndN, getT_cons]
    split
    · rfl
    · exact fnd_get
theorem fnd_lt {k : By} : ∀ {l : List Pr} {i n : Nat}, i + l.length ≤ n → (fndN k i l).1 ≤ n
  | [], _, _, _ => Nat.zero_le _
  | p :: l, i, n, h => by
    simp only [List.length_cons] at h
    simp only [fndN]
    split
    · simp only; omega
    · exact fnd_lt (by omega)
/-- What has come together so far: of the pairs only, beside x. -/
structure Mixed (x : By) (ps : List Pr) (j : Nat) (out : List Pr) : Prop where
  no : ∀ k, k ≠ x → getT out k = none ∨ getT out k = getT ps k
  yes : ∀ (i : Nat) p, i < j → ps[i]? = some p → getT out p.1 = some p.2
theorem Mixed.first (x v : By) (ps : List Pr) : Mixed x ps 0 (putT ([] : List Pr) x v) :=
  ⟨fun k hk => .inl (by rw [getT_putT (by exact List.Pairwise.nil), if_neg (fun e => hk e.symm)]; rfl), fun i p hi => by omega⟩
theorem Mixed.put {x : By} {ps out : List Pr} {j i : Nat} {p : Pr} (h : Mixed x ps j out) (hr : Rise out) (hp : Rise ps) (hi : ps[i]? = some p) : Mixed x ps j (putT out p.1 p.2) ∧ (i = j → Mixed x ps (j + 1) (putT out p.1 p.2)) := by
  have hg := mem_getT hp (List.mem_of_getElem? hi)
  have hno : ∀ k, k ≠ x → getT (putT out p.1 p.2) k = none ∨ getT (putT out p.1 p.2) k = getT ps k := by
    intro k hk
    rw [getT_putT hr]
    split
    · rename_i e; rw [← e]; exact .inr hg.symm
    · exact h.no k hk
  have hy : ∀ (m : Nat) q, m < j → ps[m]? = some q → getT (putT out p.1 p.2) q.1 = some q.2 := by
    intro m q hm hq
    rw [getT_putT hr]
    split
    · rename_i e
      have := mem_getT hp (List.mem_of_getElem? hq)
      rw [← e, hg] at this
      exact this
    · exact h.yes m q hm hq
  refine ⟨⟨hno, hy⟩, fun e => ⟨hno, fun m q hm hq => ?_⟩⟩
  rcases Nat.lt_or_ge m j with h1 | h1
  · exact hy m q h1 hq
  · obtain rfl : m = i := by omega
    rw [hi] at hq; cases hq
    rw [getT_putT hr, if_pos rfl]
theorem Mixed.all {x : By} {ps out : List Pr} (h : Mixed x ps ps.length out) (hp : Rise ps) : ∀ k, (k ≠ x ∨ (getT ps x).isSome = true) → getT out k = getT ps k := by
  intro k hk
  have hs : ∀ v, getT ps k = some v → getT out k = some v := by
    intro v hv
    obtain ⟨i, hi, e⟩ := List.mem_iff_getElem.1 (getT_mem hv)
    exact h.yes i (k, v) hi (by rw [List.getElem?_eq_getElem hi, e])
  cases hv : getT ps k with
  | some v => exact hs v hv
  | none =>
    have hkx : k ≠ x := by
      rcases hk with hk | hk
      · exact hk
      · intro e; rw [← e, hv] at hk; cases hk
    rcases h.no k hkx with h1 | h1
    · exact h1
    · rw [h1, hv]
theorem Mixed.had {x : By} {ps out : List Pr} (h : Mixed x ps ps.length out) (hp : Rise ps) (hr : Rise out) (hx : (getT ps x).isSome = true) : out = ps := tree_ext hr hp fun k => h.all hp k (.inr hx)
theorem Mixed.not {x : By} {ps out : List Pr} (h : Mixed x ps ps.length out) (hp : Rise ps) (hr : Rise out) (hx : (getT ps x).isSome = false) : delT out x = ps := tree_ext (rise_delT hr x) hp fun k => by
  rw [getT_delT hr]
  split
  · rename_i e; subst e
    cases hg : getT ps x with
    | none => rfl
    | some _ => rw [hg] at hx; cases hx
  · rename_i e; exact h.all hp k (.inl (fun e' => e e'.symm))
/-- What a put into a block of the caller's own leaves. -/
def PutP (w0 : World) (F0 F : Fz) (rb : Nat) (T : TypeId) (L0 : List Blk) (M0 : List RowP) (l : List Pr) (e : Ending) (w' : World) : Prop := ∃ a' c' F', e = .returned (.bool true) ∧ Le F F' ∧ St w0 F0 w' F' (⟨rb, [.slice a' l.length c'], T⟩ :: L0) M0 ∧ Prs F' (.slice a' l.length c') l
theorem stPut {P : Program} {w0 w : World} {F0 F : Fz} {rb : Nat} {T : TypeId} {L0 : List Blk} {M0 : List RowP} {l : List Pr} {ops : Array Oper} {Q : Exit → Act → World → Prop} {a : Act} {rest : List Oper} {o : Oper} {k : FuncId} {vs : Array Value} (hw : Region.wanted o (yielded ops a.tmps) = true)
    (hr : (execOp a.eval o).run P w = .ok (.enter k vs) w) (hc : Calls P k vs w (PutP w0 F0 F rb T L0 M0 l))
    (h : ∀ a' c' w' F', Le F F' → St w0 F0 w' F' (⟨rb, [.slice a' l.length c'], T⟩ :: L0) M0 → Prs F' (.slice a' l.length c') l → WL P ops Q rest (a.put o.dst (.bool true)) w') : WL P ops Q (o :: rest) a w :=
  doC hw hr hc fun e w' ⟨a', c', F', he, hl, hS, hb⟩ => ⟨_, he, h a' c' w' F' hl hS hb⟩
set_option maxHeartbeats 8000000 in
theorem findP_spec (F : Fz) (w : World) (v u : Value) (l : List Pr) (k : By) (hs : Sat w F) (hv : Prs F v l) (hk : Bs F u k) :
    Calls Tryd.prog 30 #[v, u] w (Tells w (.tuple #[.int .i64 (((fndN k 0 l).1 : Nat) : Int), .bool (fndN k 0 l).2])) := by
 obtain ⟨a, c, rfl, hc1, hc2⟩ := Sl.shape hv
 obtain ⟨a1, c1, rfl, _⟩ := hk.shape
 unfold maxLen at hc2
 have S := St.start hs
 go_enter Tryd.func30, Tryd.ntmps30
 refine wp_seq_k (fun K1 hK1 => region_wl ?_)
 refine do_ rfl (.int .i64 0) (ex_assign _) ?_
 simp only [pS, pN, pA, pC, pZ]
 refine do_ rfl (.bool false) (ex_assign _) ?_
 simp only [pS, pN, pA, pC, pZ]
 refine wl_nil (hK1 _ _ ?_)
 refine wp_seq_k (fun K2 hK2 => ?_)
 refine wp_seq_k (fun K3 hK3 => region_wl ?_)
 refine do_ rfl (.int .i64 0) (ex_assign _) ?_
 simp only [pS, pN, pA, pC, pZ]
 refine wl_nil (hK3 _ _ ?_)
 refine wp_block ?_
 refine wp_loop_g (fun mm aa w5 => ∃ (i : Nat) (u4 : Nat → Value), mm = l.length - i ∧ u4 = slots aa ∧ aa = ⟨#[(.slice a l.length c), (.slice a1 k.length c1), undef, undef, (u4 4), (u4 5), (.int .i64 ((i : Nat) : Int)), (u4 7), (u4 8), (u4 9), (u4 10), (u4 11), (u4 12), (u4 13), (u4 14), (u4 15), (u4 16), (u4 17), (u4 18), (u4 19), (u4 20)], []⟩ ∧ St w F w5 F [] [] ∧ (i ≤ l.length) ∧ (fndN k 0 l = fndN k i (l.drop i))) _ ⟨0, _, rfl, rfl, rfl, S, (by omega), rfl⟩ ?_
 rintro m6 a7 w8 ⟨i, u4, rfl, -, rfl, S9, hi, hf⟩ K11 hK11
 refine wp_seq_k (fun K12 hK12 => ?_)
 refine wp_seq_k (fun K13 hK13 => region_wl ?_)
 refine do_ rfl (.int .i64 ((i : Nat) : Int)) (ex_move _) ?_
 simp only [pS, pN, pA, pC, pZ]
 refine do_ rfl (.slice a l.length c) (ex_move _) ?_
 simp only [pS, pN, pA, pC, pZ]
 refine do_ rfl (.int .i64 ((l.length : Nat) : Int)) (ex_len Tryd.underlying40 rfl) ?_
 simp only [pS, pN, pA, pC, pZ]
 by_cases hc10 : i < l.length
 ·refine do_ rfl (.bool true) (ex_lss (m := ((i : Nat) : Int)) (n := ((l.length : Nat) : Int)) (b := true) rfl rfl (decide_eq_true (by omega))) ?_
  simp only [pS, pN, pA, pC, pZ]
  refine wl_nil (hK13 _ _ ?_)
  refine wp_cond_true rfl ?_
  refine wp_skip ?_
  refine hK12 _ _ ?_
  refine wp_seq_k (fun K14 hK14 => ?_)
  refine wp_block ?_
  refine wp_seq_k (fun K15 hK15 => ?_)
  obtain ⟨p, hp⟩ : ∃ p, l[i]? = some p := ⟨l[i], List.getElem?_eq_getElem hc10⟩
  obtain ⟨b16, o17, ha18, xa20, xc21, xa24, xc25, c19, c23, r22, r26⟩ := Prs.get hv hp
  refine region_wl ?_
  refine do_ rfl (.slice a l.length c) (ex_move _) ?_
  simp only [pS, pN, pA, pC, pZ]
  refine do_ rfl (.int .i64 ((i : Nat) : Int)) (ex_move _) ?_
  simp only [pS, pN, pA, pC, pZ]
  refine do_ rfl (.pointer (some ⟨b16, o17 + i * 2, none⟩)) (ex_at (i := i) (sz := 2) Tryd.underlying40 (sizeof_38 _) rfl ha18 rfl (by omega) rfl) ?_
  simp only [pS, pN, pA, pC, pZ]
  refine do_ rfl (.pointer (some ⟨b16, o17 + i * 2, none⟩)) (ex_field (q := ⟨b16, o17 + i * 2, none⟩) rfl (fa_38_0 _ _)) ?_
  simp only [pS, pN, pA, pC, pZ]
  refine do_ rfl (.slice xa20 p.1.length xc21) (ex_load rfl (load1 (nagg_22 _) (St.fz S9 c19))) ?_
  simp only [pS, pN, pA, pC, pZ]
  refine do_ rfl (.slice a1 k.length c1) (ex_move _) ?_
  simp only [pS, pN, pA, pC, pZ]
  refine stTells (v := (.bool (p.1 == k))) S9 rfl (ex_fn (vs := #[(.slice xa20 p.1.length xc21), (.slice a1 k.length c1)]) (map2 rfl rfl) rfl (ent_16 _ _)) (tells_same (same_spec _ _ _ _ p.1 k (S9).sat r22 hk)) (fun w27 S28 => ?_)
  simp only [pS, pN, pA, pC, pZ]
  refine wl_nil (hK15 _ _ ?_)
  refine wp_cond_split rfl (fun hc29 => ?_) (fun hc29 => ?_)
  ·refine wp_seq_k (fun K30 hK30 => region_wl ?_)
   refine do_ rfl (.int .i64 ((i : Nat) : Int)) (ex_move _) ?_
   simp only [pS, pN, pA, pC, pZ]
   refine do_ rfl (.int .i64 ((i : Nat) : Int)) (ex_assign _) ?_
   simp only [pS, pN, pA, pC, pZ]
   refine do_ rfl (.bool true) (ex_assign _) ?_
   simp only [pS, pN, pA, pC, pZ]
   refine wl_nil (hK30 _ _ ?_)
   refine wp_ret ?_
   (try simp only [Exit.then, Exit.inBlock, ↓reduceIte, Nat.reduceEqDiff])
   refine bodyPost_ret (v := (.tuple #[(.int .i64 ((i : Nat) : Int)), (.bool true)])) ?_ rfl ?_
   ·exact res_tt rfl rfl rfl
   ·exact ⟨by rw [fnd_at hp hf, if_pos (beq_iff_eq.1 hc29)], S28.gr.below⟩
  ·refine wp_skip ?_
   refine hK14 _ _ ?_
   refine region_wl ?_
   refine do_ rfl (.int .i64 ((i : Nat) : Int)) (ex_move _) ?_
   simp only [pS, pN, pA, pC, pZ]
   refine do_ rfl (.int .i64 (((i + 1) : Nat) : Int)) (ex_add (m := ((i : Nat) : Int)) (n := (1 : Int)) (r := (((i + 1) : Nat) : Int)) rfl rfl (by omega) (by omega) (by omega)) ?_
   simp only [pS, pN, pA, pC, pZ]
   refine do_ rfl (.int .i64 (((i + 1) : Nat) : Int)) (ex_assign _) ?_
   simp only [pS, pN, pA, pC, pZ]
   refine wl_nil ?_
   exact hK11 _ _ _ (by omega) ⟨(i + 1), _, rfl, rfl, rfl, S28, (by omega), (by rw [fnd_at hp hf, if_neg (beq_eq_false_iff_ne.1 hc29)])⟩
 ·refine do_ rfl (.bool false) (ex_lss (m := ((i : Nat) : Int)) (n := ((l.length : Nat) : Int)) (b := false) rfl rfl (decide_eq_false (by omega))) ?_
  simp only [pS, pN, pA, pC, pZ]
  refine wl_nil (hK13 _ _ ?_)
  refine wp_cond_false rfl ?_
  refine wp_exit ?_
  refine hK2 _ _ ?_
  refine wp_seq_k (fun K31 hK31 => region_wl ?_)
  refine do_ rfl (.int .i64 0) (ex_assign _) ?_
  simp only [pS, pN, pA, pC, pZ]
  refine do_ rfl (.bool false) (ex_assign _) ?_
  simp only [pS, pN, pA, pC, pZ]
  refine wl_nil (hK31 _ _ ?_)
  refine wp_ret ?_
  (try simp only [Exit.then, Exit.inBlock, ↓reduceIte, Nat.reduceEqDiff])
  refine bodyPost_ret (v := (.tuple #[(.int .i64 0), (.bool false)])) ?_ rfl ?_
  ·exact res_tt rfl rfl rfl
  ·exact ⟨by rw [fnd_end (by omega) hf]; rfl , S9.gr.below⟩
set_option maxHeartbeats 8000000 in
theorem put1_spec {w0 w : World} {F0 F : Fz} {L0 : List Blk} {M0 : List RowP} {rb n : Nat} {a ka va : Option Addr} {c kc vc : Nat} {l : List Pr} {p : Pr} (S : St w0 F0 w F (⟨rb, [.slice a l.length c], 40⟩ :: L0) M0) (hv : Prs F (.slice a l.length c) l) (hk : Bs F (.slice ka p.1.length kc) p.1) (hx : Bs F (.slice va p.2.length vc) p.2) (ok : TreeOk n l) (hn : n < 60) (hp : PairOk p) :
    Calls Tryd.prog 28 #[.agg #[.slice ka p.1.length kc, .slice va p.2.length vc], .pointer (some ⟨rb, 0, none⟩)] w (PutP w0 F0 F rb 40 L0 M0 (putT l p.1 p.2)) := by
 obtain ⟨_, _, e_, hc1, hc2⟩ := Sl.shape hv
 injection e_ with _ _ e_
 subst e_
 unfold maxLen at hc2
 go_enter Tryd.func28, Tryd.ntmps28
 refine wp_seq_k (fun K1 hK1 => region_wl ?_)
 refine stNew S (v := fun n => .pointer (some ⟨n, 0, none⟩)) rfl (ex_box (v := (.agg #[(.slice ka p.1.length kc), (.slice va p.2.length vc)])) rfl) (fun n2 w3 S4 => ?_)
 simp only [pS, pN, pA, pC, pZ]
 have S4 : St w0 F0 w3 F (⟨n2, [(.slice ka p.1.length kc), (.slice va p.2.length vc)], 38⟩ :: ⟨rb, [(.slice a l.length c)], 40⟩ :: L0) (M0) := S4
 refine do_ rfl (.bool false) (ex_assign _) ?_
 simp only [pS, pN, pA, pC, pZ]
 refine wl_nil (hK1 _ _ ?_)
 refine wp_seq_k (fun K5 hK5 => region_wl ?_)
 refine do_ rfl (.slice a l.length c) (ex_load rfl (load1 (nagg_40 _) (St.cell S4 (i := 1) rfl rfl))) ?_
 simp only [pS, pN, pA, pC, pZ]
 refine do_ rfl (.agg #[(.slice ka p.1.length kc), (.slice va p.2.length vc)]) (ex_load rfl (loadN (cs := [(.slice ka p.1.length kc), (.slice va p.2.length vc)]) Tryd.underlying38 rfl (size_38) (St.range S4 (i := 0) rfl 0 [(.slice ka p.1.length kc), (.slice va p.2.length vc)] (sub_range 0 rfl)))) ?_
 simp only [pS, pN, pA, pC, pZ]
 refine stGives S4 rfl (ex_fn (vs := #[(.slice a l.length c), (.agg #[(.slice ka p.1.length kc), (.slice va p.2.length vc)])]) (map2 rfl rfl) rfl (ent_29 _ _)) (putOk_spec _ _ _ _ l p (S4).sat hv ⟨_, _, _, _, rfl, hk, hx⟩ ok (by omega) hp) ?_
 intro v11 w6 F8 S7 le9 R10
 obtain ⟨_, rfl, r14⟩ := R10
 obtain ⟨a12, c13, rfl, h15, h16⟩ := Sl.shape r14
 unfold maxLen at h16
 have h15 : (putT l p.1 p.2).length ≤ c13 := h15
 have r14 : Prs _ (.slice a12 (putT l p.1 p.2).length c13) (putT l p.1 p.2) := r14
 simp only [pS, pN, pA, pC, pZ]
 refine do_ rfl (.tuple #[(.slice a12 (putT l p.1 p.2).length c13), (.int .i64 0)]) (ex_move _) ?_
 simp only [pS, pN, pA, pC, pZ]
 refine do_ rfl (.slice a12 (putT l p.1 p.2).length c13) (ex_extract rfl rfl) ?_
 simp only [pS, pN, pA, pC, pZ]
 refine do_ rfl (.int .i64 0) (ex_extract rfl rfl) ?_
 simp only [pS, pN, pA, pC, pZ]
 refine do_ rfl (.slice a12 (putT l p.1 p.2).length c13) (ex_assign _) ?_
 simp only [pS, pN, pA, pC, pZ]
 refine do_ rfl (.int .i64 0) (ex_assign _) ?_
 simp only [pS, pN, pA, pC, pZ]
 refine wl_nil (hK5 _ _ ?_)
 refine wp_seq_k (fun K17 hK17 => region_wl ?_)
 refine do_ rfl (.slice a12 (putT l p.1 p.2).length c13) (ex_move _) ?_
 simp only [pS, pN, pA, pC, pZ]
 refine stStore (i := 1) (v := (.slice a12 (putT l p.1 p.2).length c13)) S7 rfl rfl rfl rfl (size_40) (allc1 rfl) (Nat.le_of_ble_eq_true rfl) (fun w18 S19 => ?_)
 simp only [pS, pN, pA, pC, pZ]
 have S19 : St w0 F0 w18 F8 (⟨n2, [(.slice ka p.1.length kc), (.slice va p.2.length vc)], 38⟩ :: ⟨rb, [(.slice a12 (putT l p.1 p.2).length c13)], 40⟩ :: L0) (M0) := S19
 refine wl_nil (hK17 _ _ ?_)
 refine wp_seq_k (fun K20 hK20 => region_wl ?_)
 refine do_ rfl (.int .i64 0) (ex_move _) ?_
 simp only [pS, pN, pA, pC, pZ]
 refine do_ rfl (.bool true) (ex_eql (b := true) rfl rfl (by decide)) ?_
 simp only [pS, pN, pA, pC, pZ]
 refine do_ rfl (.bool true) (ex_assign _) ?_
 simp only [pS, pN, pA, pC, pZ]
 refine wl_nil (hK20 _ _ ?_)
 refine wp_ret ?_
 (try simp only [Exit.then, Exit.inBlock, ↓reduceIte, Nat.reduceEqDiff])
 refine bodyPost_ret (v := (.bool true)) ?_ rfl ?_
 ·exact res_t rfl rfl
 ·have S21 := St.front S19 (i := 1) rfl
  have S22 := St.drop S21 (L' := ⟨rb, _, _⟩ :: L0) (.cons_cons _ (.cons _ (List.Sublist.refl _)))
  exact ⟨_, _, _, rfl, le9, S22, r14⟩
set_option maxHeartbeats 8000000 in
theorem rootSame_walk (W : World) (hT : Tabs W) (v0 : Value) (l0 : List Pr) (z0 : Prs (whole W) v0 l0) (v1 : Value) (l1 : List Int) (z1 : Ints (whole W) v1 l1) (v2 : Value) (l2 : By) (z2 : Bs (whole W) v2 l2) :
    Calls Tryd.prog 9 #[v0, v1, v2] W (Tells W (.bool true)) := by
 obtain ⟨i5, hi5, hz5, hs5, hb5⟩ := info_parts infoU8
 obtain ⟨a0, c0, rfl, q0, q0'⟩ := Sl.shape z0
 obtain ⟨a1, c1, rfl, q1, _⟩ := Sl.shape z1
 obtain ⟨a2, c2, rfl, _⟩ := z2.shape
 have S := St.start (Sat.whole W)
 go_enter Tryd.func9, Tryd.ntmps9
 refine wp_seq_k (fun K101 hK101 => region_wl ?_)
 refine do_ rfl (.bool false) (ex_assign _) ?_
 simp only [pS, pN, pA, pC, pZ]
 refine wl_nil (hK101 _ _ ?_)
 refine wp_seq_k (fun K102 hK102 => region_wl ?_)
 refine do_ rfl (.slice a0 l0.length c0) (ex_move _) ?_
 simp only [pS, pN, pA, pC, pZ]
 refine stGivesO PrC.mono S rfl (ex_fn (vs := #[(.slice a0 l0.length c0), (.int .i64 16)]) (map2 rfl rfl) rfl (ent_24 _ _)) (pairs_spec _ _ _ l0 16 (S).sat z0 (by omega)) ?_
 intro v107 w103 F105 S104 le106
 simp only [pS, pN, pA, pC, pZ]
 have S104 : St W (whole W) w103 F105 [] [ownP 2 PrC PrC.mono 38 W.heap.size v107 (pairsN l0 16)] := S104
 obtain ⟨F108, S109, le110, hv111⟩ := St.freeze S104 (i := 0) rfl (Nat.le_refl _)
 have S109 : St W (whole W) w103 F108 [] [] := S109
 have hv111 : Prs _ v107 (pairsN l0 16) := hv111
 obtain ⟨a112, c113, rfl, h114, h115⟩ := Sl.shape hv111
 unfold maxLen at h115
 refine do_ rfl (.slice a112 (pairsN l0 16).length c113) (ex_assign _) ?_
 simp only [pS, pN, pA, pC, pZ]
 refine wl_nil (hK102 _ _ ?_)
 refine wp_seq_k (fun K116 hK116 => ?_)
 have hps := pairsN_ok l0 16
 have hpl := hps.len
 refine region_wl ?_
 refine stNew S109 (v := fun n => .pointer (some ⟨n, 0, none⟩)) rfl (ex_alloc (zero_40 _)) (fun n117 w118 S119 => ?_)
 simp only [pS, pN, pA, pC, pZ]
 have S119 : St W (whole W) w118 F108 [⟨n117, [(.slice none 0 0)], 40⟩] [] := S119
 refine wl_nil (hK116 _ _ ?_)
 refine wp_seq_k (fun K120 hK120 => region_wl ?_)
 refine do_ rfl (.func (.func 28) #[] #[(.pointer (some ⟨n117, 0, none⟩))]) (ex_makeFuncR rfl) ?_
 simp only [pS, pN, pA, pC, pZ]
 refine do_ rfl (.func (.func 28) #[] #[(.pointer (some ⟨n117, 0, none⟩))]) (ex_assign _) ?_
 simp only [pS, pN, pA, pC, pZ]
 refine wl_nil (hK120 _ _ ?_)
 refine wp_seq_k (fun K121 hK121 => region_wl ?_)
 refine do_ rfl (.slice a2 l2.length c2) (ex_move _) ?_
 simp only [pS, pN, pA, pC, pZ]
 refine stGives S119 rfl (ex_fn (vs := #[(.slice a2 l2.length c2)]) (map1 rfl) rfl (ent_21 _ _)) (key_spec _ _ _ l2 (S119).sat (z2.mono (le106.trans le110))) ?_
 intro v127 w122 F124 S123 le125 R126
 obtain ⟨xa128, xc129, rfl, _⟩ := R126.shape
 simp only [pS, pN, pA, pC, pZ]
 refine do_ rfl (.slice xa128 (keyL l2).length xc129) (ex_assign _) ?_
 simp only [pS, pN, pA, pC, pZ]
 refine wl_nil (hK121 _ _ ?_)
 refine wp_seq_k (fun K130 hK130 => region_wl ?_)
 refine do_ rfl (.slice a112 (pairsN l0 16).length c113) (ex_move _) ?_
 simp only [pS, pN, pA, pC, pZ]
 refine do_ rfl (.slice xa128 (keyL l2).length xc129) (ex_move _) ?_
 simp only [pS, pN, pA, pC, pZ]
 refine stTells (v := (.tuple #[(.int .i64 (((fndN (keyL l2) 0 (pairsN l0 16)).1 : Nat) : Int)), (.bool (fndN (keyL l2) 0 (pairsN l0 16)).2)])) S123 rfl (ex_fn (vs := #[(.slice a112 (pairsN l0 16).length c113), (.slice xa128 (keyL l2).length xc129)]) (map2 rfl rfl) rfl (ent_30 _ _)) (findP_spec _ _ _ _ (pairsN l0 16) (keyL l2) (S123).sat (hv111.mono le125) R126) (fun w131 S132 => ?_)
 simp only [pS, pN, pA, pC, pZ]
 refine do_ rfl (.tuple #[(.int .i64 (((fndN (keyL l2) 0 (pairsN l0 16)).1 : Nat) : Int)), (.bool (fndN (keyL l2) 0 (pairsN l0 16)).2)]) (ex_move _) ?_
 simp only [pS, pN, pA, pC, pZ]
 refine do_ rfl (.int .i64 (((fndN (keyL l2) 0 (pairsN l0 16)).1 : Nat) : Int)) (ex_extract rfl rfl) ?_
 simp only [pS, pN, pA, pC, pZ]
 refine do_ rfl (.bool (fndN (keyL l2) 0 (pairsN l0 16)).2) (ex_extract rfl rfl) ?_
 simp only [pS, pN, pA, pC, pZ]
 refine do_ rfl (.int .i64 (((fndN (keyL l2) 0 (pairsN l0 16)).1 : Nat) : Int)) (ex_assign _) ?_
 simp only [pS, pN, pA, pC, pZ]
 refine do_ rfl (.bool (fndN (keyL l2) 0 (pairsN l0 16)).2) (ex_assign _) ?_
 simp only [pS, pN, pA, pC, pZ]
 refine wl_nil (hK130 _ _ ?_)
 refine wp_seq_k (fun K133 hK133 => ?_)
 refine wp_seq_k (fun K134 hK134 => region_wl ?_)
 refine do_ rfl (.func (.func 28) #[] #[(.pointer (some ⟨n117, 0, none⟩))]) (ex_move _) ?_
 simp only [pS, pN, pA, pC, pZ]
 refine do_ rfl (.slice xa128 (keyL l2).length xc129) (ex_move _) ?_
 simp only [pS, pN, pA, pC, pZ]
 refine stNew S132 (v := fun n => .slice (some ⟨n, 0, none⟩) 1 1) rfl (ex_lit (ps := #[(0, (.int .u8 9))]) (cells := #[(.int .u8 9)]) (E := 5) (bmap1 rfl) (fun w => by kernel_rfl)) (fun n135 w136 S137 => ?_)
 simp only [pS, pN, pA, pC, pZ]
 have S137 : St W (whole W) w136 F124 [⟨n135, [(.int .u8 9)], 5⟩, ⟨n117, [(.slice none 0 0)], 40⟩] [] := S137
 refine do_ rfl (.agg #[(.slice xa128 (keyL l2).length xc129), (.slice (some ⟨n135, 0, none⟩) 1 1)]) (ex_build (ps := #[(0, (.slice xa128 (keyL l2).length xc129)), (1, (.slice (some ⟨n135, 0, none⟩) 1 1))]) (bmap2 rfl rfl) (by kernel_rfl)) ?_
 simp only [pS, pN, pA, pC, pZ]
 obtain ⟨S138, le139, hc140⟩ := St.freezeBlk S137 (i := 0) rfl
 have r142 : Bs _ (.slice (some ⟨n135, 0, none⟩) 1 1) ([9] : By) := bs_of_block (l := ([9] : By)) hc140 (rfl) (by unfold maxLen; simp)
 generalize addF F124 w136 n135 = F141 at *
 have S138 : St W (whole W) w136 F141 [⟨n117, [(.slice none 0 0)], 40⟩] [] := S138
 refine stPut rfl (ex_fv (fs := #[]) (cs := #[(.pointer (some ⟨n117, 0, none⟩))]) (vs := #[(.agg #[(.slice xa128 (keyL l2).length xc129), (.slice (some ⟨n135, 0, none⟩) 1 1)]), (.pointer (some ⟨n117, 0, none⟩))]) rfl (vmap (fs := #[]) (cs := #[(.pointer (some ⟨n117, 0, none⟩))]) (xs := #[(.agg #[(.slice xa128 (keyL l2).length xc129), (.slice (some ⟨n135, 0, none⟩) 1 1)])]) (map1 rfl) (by simp)) (ent_28 _ _)) (put1_spec (p := ((keyL l2), [9])) (l := ([] : List Pr)) S138 (Sl.nil _ _ _) (R126.mono le139) r142 (TreeOk.nil 0) (by omega) ⟨(keyL_len l2).1, (keyL_len l2).2, by simp⟩) ?_
 intro a143 c144 w145 F146 le147 S148 r149
 simp only [pS, pN, pA, pC, pZ]
 have S148 : St W (whole W) w145 F146 [⟨n117, [(.slice a143 (putT ([] : List Pr) (keyL l2) [9]).length c144)], 40⟩] [] := S148
 refine do_ rfl (.bool false) (ex_not (b := true) rfl rfl) ?_
 simp only [pS, pN, pA, pC, pZ]
 refine wl_nil (hK134 _ _ ?_)
 refine wp_cond_false rfl ?_
 refine wp_skip ?_
 refine hK133 _ _ ?_
 refine wp_seq_k (fun K150 hK150 => ?_)
 refine wp_seq_k (fun K151 hK151 => region_wl ?_)
 refine do_ rfl (.int .i64 0) (ex_assign _) ?_
 simp only [pS, pN, pA, pC, pZ]
 refine wl_nil (hK151 _ _ ?_)
 refine wp_block ?_
 refine wp_loop_g (fun mm aa w154 => ∃ (i : Nat) (out : List Pr) (oa : Option Addr) (oc : Nat) (F152 : Fz) (u153 : Nat → Value), mm = 20 - i ∧ u153 = slots aa ∧ aa = ⟨#[(.slice a0 l0.length c0), (.slice a1 l1.length c1), (.slice a2 l2.length c2), undef, undef, undef, (u153 6), (.slice a112 (pairsN l0 16).length c113), (.pointer (some ⟨n117, 0, none⟩)), (.func (.func 28) #[] #[(.pointer (some ⟨n117, 0, none⟩))]), (.slice xa128 (keyL l2).length xc129), (.int .i64 (((fndN (keyL l2) 0 (pairsN l0 16)).1 : Nat) : Int)), (.bool (fndN (keyL l2) 0 (pairsN l0 16)).2), (.int .i64 ((i : Nat) : Int)), undef, undef, undef, undef, undef, undef, undef, (.slice a0 l0.length c0), (.slice a112 (pairsN l0 16).length c113), (.func (.func 28) #[] #[(.pointer (some ⟨n117, 0, none⟩))]), (.slice a2 l2.length c2), (.slice xa128 (keyL l2).length xc129), (.tuple #[(.int .i64 (((fndN (keyL l2) 0 (pairsN l0 16)).1 : Nat) : Int)), (.bool (fndN (keyL l2) 0 (pairsN l0 16)).2)]), (.slice a112 (pairsN l0 16).length c113), (.slice xa128 (keyL l2).length xc129), (.tuple #[(.int .i64 (((fndN (keyL l2) 0 (pairsN l0 16)).1 : Nat) : Int)), (.bool (fndN (keyL l2) 0 (pairsN l0 16)).2)]), (.int .i64 (((fndN (keyL l2) 0 (pairsN l0 16)).1 : Nat) : Int)), (.bool (fndN (keyL l2) 0 (pairsN l0 16)).2), (.func (.func 28) #[] #[(.pointer (some ⟨n117, 0, none⟩))]), (.slice xa128 (keyL l2).length xc129), (.slice (some ⟨n135, 0, none⟩) 1 1), (.agg #[(.slice xa128 (keyL l2).length xc129), (.slice (some ⟨n135, 0, none⟩) 1 1)]), (.bool true), (.bool false), (u153 38), (u153 39), (u153 40), (u153 41), (u153 42), (u153 43), (u153 44), (u153 45), (u153 46), (u153 47), (u153 48), (u153 49), (u153 50), (u153 51), (u153 52), (u153 53), (u153 54), (u153 55), (u153 56), (u153 57), (u153 58), (u153 59), (u153 60), (u153 61), (u153 62), (u153 63), (u153 64), (u153 65), undef, undef, undef, undef, undef, undef, undef, undef, undef, undef, undef, undef, undef, undef, undef, undef, undef, undef, undef, undef, undef, undef, undef, undef, undef, undef, undef, undef, undef, undef, undef, undef, undef, undef, undef, undef, undef, undef, undef, undef, undef, undef, undef, undef, undef, undef, undef, undef, undef, undef], []⟩ ∧ St W (whole W) w154 F152 [⟨n117, [(.slice oa out.length oc)], 40⟩] [] ∧ Le F146 F152 ∧ (i ≤ 20) ∧ (Prs F152 (.slice oa out.length oc) out) ∧ (TreeOk (i + 1) out) ∧ (Mixed (keyL l2) (pairsN l0 16) 0 out)) _ ⟨0, (putT ([] : List Pr) (keyL l2) [9]), a143, c144, F146, _, rfl, rfl, rfl, S148, Le.refl _, (by omega), r149, (put_ok (TreeOk.nil 0) (by omega) ⟨(keyL_len l2).1, (keyL_len l2).2, by simp⟩ (p := ((keyL l2), [9]))).2.2, (Mixed.first _ _ _)⟩ ?_
 rintro m155 a156 w157 ⟨i, out, oa, oc, F152, u153, rfl, -, rfl, S158, le159, hi, hout, okx, hmx⟩ K160 hK160
 refine wp_seq_k (fun K161 hK161 => ?_)
 refine wp_seq_k (fun K162 hK162 => region_wl ?_)
 refine do_ rfl (.int .i64 ((i : Nat) : Int)) (ex_move _) ?_
 simp only [pS, pN, pA, pC, pZ]
 refine do_ rfl (.slice a1 l1.length c1) (ex_move _) ?_
 simp only [pS, pN, pA, pC, pZ]
 refine do_ rfl (.int .i64 ((l1.length : Nat) : Int)) (ex_len Tryd.underlying56 rfl) ?_
 simp only [pS, pN, pA, pC, pZ]
 by_cases hc41 : i < l1.length
 ·refine do_ rfl (.bool true) (ex_lss (m := ((i : Nat) : Int)) (n := ((l1.length : Nat) : Int)) (b := true) rfl rfl (decide_eq_true (by omega))) ?_
  simp only [pS, pN, pA, pC, pZ]
  refine do_ rfl (.bool true) (ex_move _) ?_
  simp only [pS, pN, pA, pC, pZ]
  refine do_ rfl (.int .i64 ((i : Nat) : Int)) (ex_move _) ?_
  simp only [pS, pN, pA, pC, pZ]
  by_cases hc44 : i < 20
  ·refine do_ rfl (.bool true) (ex_lss (m := ((i : Nat) : Int)) (n := (20 : Int)) (b := true) rfl rfl (decide_eq_true (by omega))) ?_
   simp only [pS, pN, pA, pC, pZ]
   refine do_ rfl (.bool true) (ex_pick (b := true) rfl) ?_
   simp only [pS, pN, pA, pC, pZ]
   refine do_ rfl (.bool true) (ex_move _) ?_
   simp only [pS, pN, pA, pC, pZ]
   refine do_ rfl (.slice a112 (pairsN l0 16).length c113) (ex_move _) ?_
   simp only [pS, pN, pA, pC, pZ]
   refine do_ rfl (.int .i64 (((pairsN l0 16).length : Nat) : Int)) (ex_len Tryd.underlying40 rfl) ?_
   simp only [pS, pN, pA, pC, pZ]
   by_cases hc49 : 0 < (pairsN l0 16).length
   ·refine do_ rfl (.bool true) (ex_gtr (m := (((pairsN l0 16).length : Nat) : Int)) (n := (0 : Int)) (b := true) rfl rfl (decide_eq_true (by omega))) ?_
    simp only [pS, pN, pA, pC, pZ]
    refine do_ rfl (.bool true) (ex_pick (b := true) rfl) ?_
    simp only [pS, pN, pA, pC, pZ]
    refine wl_nil (hK162 _ _ ?_)
    refine wp_cond_true rfl ?_
    refine wp_skip ?_
    refine hK161 _ _ ?_
    refine wp_seq_k (fun K163 hK163 => ?_)
    refine wp_block ?_
    refine wp_seq_k (fun K164 hK164 => ?_)
    obtain ⟨z, hz⟩ : ∃ z, l1[i]? = some z := ⟨l1[i]'(by omega), List.getElem?_eq_getElem (by omega)⟩
    obtain ⟨b165, o166, ha167, c168, hz1, hz2⟩ := Ints.get (z1.mono (((((le106.trans le110).trans le125).trans le139).trans le147).trans le159)) hz
    obtain ⟨hq0, hq1⟩ := pick_bd z (((pairsN l0 16).length : Nat) : Int) (by omega)
    obtain ⟨kn, hkn⟩ : ∃ kn : Nat, pick z (((pairsN l0 16).length : Nat) : Int) = (kn : Int) := ⟨(pick z (((pairsN l0 16).length : Nat) : Int)).toNat, (Int.toNat_of_nonneg hq0).symm⟩
    have hkb : kn < (pairsN l0 16).length := by omega
    obtain ⟨p, hp⟩ : ∃ p, (pairsN l0 16)[kn]? = some p := ⟨(pairsN l0 16)[kn], List.getElem?_eq_getElem hkb⟩
    have hpp := hps.ok p (List.mem_of_getElem? hp)
    obtain ⟨b169, o170, ha171, xa173, xc174, xa177, xc178, c172, c176, r175, r179⟩ := Prs.get (hv111.mono (((le125.trans le139).trans le147).trans le159)) hp
    refine region_wl ?_
    refine do_ rfl (.func (.func 28) #[] #[(.pointer (some ⟨n117, 0, none⟩))]) (ex_move _) ?_
    simp only [pS, pN, pA, pC, pZ]
    refine do_ rfl (.slice a112 (pairsN l0 16).length c113) (ex_move _) ?_
    simp only [pS, pN, pA, pC, pZ]
    refine do_ rfl (.slice a1 l1.length c1) (ex_move _) ?_
    simp only [pS, pN, pA, pC, pZ]
    refine do_ rfl (.int .i64 ((i : Nat) : Int)) (ex_move _) ?_
    simp only [pS, pN, pA, pC, pZ]
    refine do_ rfl (.pointer (some ⟨b165, o166 + i * 1, none⟩)) (ex_at (i := i) (sz := 1) Tryd.underlying56 (sizeof_3 _) rfl ha167 rfl (by omega) rfl) ?_
    simp only [pS, pN, pA, pC, pZ]
    refine do_ rfl (.int .i64 z) (ex_load rfl (load1 (nagg_3 _) (St.fz S158 c168))) ?_
    simp only [pS, pN, pA, pC, pZ]
    refine do_ rfl (.slice a112 (pairsN l0 16).length c113) (ex_move _) ?_
    simp only [pS, pN, pA, pC, pZ]
    refine do_ rfl (.int .i64 (((pairsN l0 16).length : Nat) : Int)) (ex_len Tryd.underlying40 rfl) ?_
    simp only [pS, pN, pA, pC, pZ]
    refine stTells (v := (.int .i64 ((kn : Nat) : Int))) S158 rfl (ex_fn (vs := #[(.int .i64 z), (.int .i64 (((pairsN l0 16).length : Nat) : Int))]) (map2 rfl rfl) rfl (ent_19 _ _)) (hkn ▸ tells_same (picked_spec z (((pairsN l0 16).length : Nat) : Int) _ hz1 hz2 (by omega) (by omega))) (fun w180 S181 => ?_)
    simp only [pS, pN, pA, pC, pZ]
    refine do_ rfl (.pointer (some ⟨b169, o170 + kn * 2, none⟩)) (ex_at (i := kn) (sz := 2) Tryd.underlying40 (sizeof_38 _) rfl ha171 rfl (by omega) rfl) ?_
    simp only [pS, pN, pA, pC, pZ]
    refine do_ rfl (.agg #[(.slice xa173 p.1.length xc174), (.slice xa177 p.2.length xc178)]) (ex_load rfl (loadN (cs := [(.slice xa173 p.1.length xc174), (.slice xa177 p.2.length xc178)]) Tryd.underlying38 rfl (size_38) (range2 (St.fz S181 c172) (St.fz S181 c176)))) ?_
    simp only [pS, pN, pA, pC, pZ]
    refine stPut rfl (ex_fv (fs := #[]) (cs := #[(.pointer (some ⟨n117, 0, none⟩))]) (vs := #[(.agg #[(.slice xa173 p.1.length xc174), (.slice xa177 p.2.length xc178)]), (.pointer (some ⟨n117, 0, none⟩))]) rfl (vmap (fs := #[]) (cs := #[(.pointer (some ⟨n117, 0, none⟩))]) (xs := #[(.agg #[(.slice xa173 p.1.length xc174), (.slice xa177 p.2.length xc178)])]) (map1 rfl) (by simp)) (ent_28 _ _)) (put1_spec S181 hout r175 r179 okx (by omega) hpp) ?_
    intro a182 c183 w184 F185 le186 S187 r188
    simp only [pS, pN, pA, pC, pZ]
    have S187 : St W (whole W) w184 F185 [⟨n117, [(.slice a182 (putT out p.1 p.2).length c183)], 40⟩] [] := S187
    refine do_ rfl (.bool false) (ex_not (b := true) rfl rfl) ?_
    simp only [pS, pN, pA, pC, pZ]
    refine wl_nil (hK164 _ _ ?_)
    refine wp_cond_false rfl ?_
    refine wp_skip ?_
    refine hK163 _ _ ?_
    refine region_wl ?_
    refine do_ rfl (.int .i64 ((i : Nat) : Int)) (ex_move _) ?_
    simp only [pS, pN, pA, pC, pZ]
    refine do_ rfl (.int .i64 (((i + 1) : Nat) : Int)) (ex_add (m := ((i : Nat) : Int)) (n := (1 : Int)) (r := (((i + 1) : Nat) : Int)) rfl rfl (by omega) (by omega) (by omega)) ?_
    simp only [pS, pN, pA, pC, pZ]
    refine do_ rfl (.int .i64 (((i + 1) : Nat) : Int)) (ex_assign _) ?_
    simp only [pS, pN, pA, pC, pZ]
    refine wl_nil ?_
    exact hK160 _ _ _ (by omega) ⟨(i + 1), (putT out p.1 p.2), a182, c183, F185, _, rfl, rfl, rfl, S187, (le159.trans le186), (by omega), r188, (put_ok okx (by omega) hpp).2.2, (hmx.put okx.rise hps.rise hp).1⟩
   ·refine do_ rfl (.bool false) (ex_gtr (m := (((pairsN l0 16).length : Nat) : Int)) (n := (0 : Int)) (b := false) rfl rfl (decide_eq_false (by omega))) ?_
    simp only [pS, pN, pA, pC, pZ]
    refine do_ rfl (.bool false) (ex_pick (b := true) rfl) ?_
    simp only [pS, pN, pA, pC, pZ]
    refine wl_nil (hK162 _ _ ?_)
    refine wp_cond_false rfl ?_
    refine wp_exit ?_
    refine hK150 _ _ ?_
    refine wp_seq_k (fun K189 hK189 => ?_)
    refine wp_seq_k (fun K190 hK190 => region_wl ?_)
    refine do_ rfl (.int .i64 0) (ex_assign _) ?_
    simp only [pS, pN, pA, pC, pZ]
    refine wl_nil (hK190 _ _ ?_)
    refine wp_block ?_
    refine wp_loop_g (fun mm aa w193 => ∃ (j : Nat) (out : List Pr) (oa : Option Addr) (oc : Nat) (F191 : Fz) (u192 : Nat → Value), mm = (pairsN l0 16).length - j ∧ u192 = slots aa ∧ aa = ⟨#[(.slice a0 l0.length c0), (.slice a1 l1.length c1), (.slice a2 l2.length c2), undef, undef, undef, (u192 6), (.slice a112 (pairsN l0 16).length c113), (.pointer (some ⟨n117, 0, none⟩)), (.func (.func 28) #[] #[(.pointer (some ⟨n117, 0, none⟩))]), (.slice xa128 (keyL l2).length xc129), (.int .i64 (((fndN (keyL l2) 0 (pairsN l0 16)).1 : Nat) : Int)), (.bool (fndN (keyL l2) 0 (pairsN l0 16)).2), (.int .i64 ((i : Nat) : Int)), (.int .i64 ((j : Nat) : Int)), undef, undef, undef, undef, undef, undef, (.slice a0 l0.length c0), (.slice a112 (pairsN l0 16).length c113), (.func (.func 28) #[] #[(.pointer (some ⟨n117, 0, none⟩))]), (.slice a2 l2.length c2), (.slice xa128 (keyL l2).length xc129), (.tuple #[(.int .i64 (((fndN (keyL l2) 0 (pairsN l0 16)).1 : Nat) : Int)), (.bool (fndN (keyL l2) 0 (pairsN l0 16)).2)]), (.slice a112 (pairsN l0 16).length c113), (.slice xa128 (keyL l2).length xc129), (.tuple #[(.int .i64 (((fndN (keyL l2) 0 (pairsN l0 16)).1 : Nat) : Int)), (.bool (fndN (keyL l2) 0 (pairsN l0 16)).2)]), (.int .i64 (((fndN (keyL l2) 0 (pairsN l0 16)).1 : Nat) : Int)), (.bool (fndN (keyL l2) 0 (pairsN l0 16)).2), (.func (.func 28) #[] #[(.pointer (some ⟨n117, 0, none⟩))]), (.slice xa128 (keyL l2).length xc129), (.slice (some ⟨n135, 0, none⟩) 1 1), (.agg #[(.slice xa128 (keyL l2).length xc129), (.slice (some ⟨n135, 0, none⟩) 1 1)]), (.bool true), (.bool false), (.int .i64 ((i : Nat) : Int)), (.slice a1 l1.length c1), (.int .i64 ((l1.length : Nat) : Int)), (.bool true), (.bool true), (.int .i64 ((i : Nat) : Int)), (.bool true), (.bool true), (.bool true), (.slice a112 (pairsN l0 16).length c113), (.int .i64 (((pairsN l0 16).length : Nat) : Int)), (.bool false), (.bool false), (u153 51), (u153 52), (u153 53), (u153 54), (u153 55), (u153 56), (u153 57), (u153 58), (u153 59), (u153 60), (u153 61), (u153 62), (u153 63), (u153 64), (u153 65), (u192 66), (u192 67), (u192 68), (u192 69), (u192 70), (u192 71), (u192 72), (u192 73), (u192 74), (u192 75), (u192 76), (u192 77), (u192 78), undef, undef, undef, undef, undef, undef, undef, undef, undef, undef, undef, undef, undef, undef, undef, undef, undef, undef, undef, undef, undef, undef, undef, undef, undef, undef, undef, undef, undef, undef, undef, undef, undef, undef, undef, undef, undef], []⟩ ∧ St W (whole W) w193 F191 [⟨n117, [(.slice oa out.length oc)], 40⟩] [] ∧ Le F152 F191 ∧ (j ≤ (pairsN l0 16).length) ∧ (Prs F191 (.slice oa out.length oc) out) ∧ (TreeOk (21 + j) out) ∧ (Mixed (keyL l2) (pairsN l0 16) j out)) _ ⟨0, out, oa, oc, F152, _, rfl, rfl, rfl, S158, Le.refl _, (by omega), hout, (okx.mono (by omega)), hmx⟩ ?_
    rintro m194 a195 w196 ⟨j, out, oa, oc, F191, u192, rfl, -, rfl, S197, le198, hj, hout, okx, hmx⟩ K199 hK199
    refine wp_seq_k (fun K200 hK200 => ?_)
    refine wp_seq_k (fun K201 hK201 => region_wl ?_)
    refine do_ rfl (.int .i64 ((j : Nat) : Int)) (ex_move _) ?_
    simp only [pS, pN, pA, pC, pZ]
    refine do_ rfl (.slice a112 (pairsN l0 16).length c113) (ex_move _) ?_
    simp only [pS, pN, pA, pC, pZ]
    refine do_ rfl (.int .i64 (((pairsN l0 16).length : Nat) : Int)) (ex_len Tryd.underlying40 rfl) ?_
    simp only [pS, pN, pA, pC, pZ]
    by_cases hc69 : j < (pairsN l0 16).length
    ·refine do_ rfl (.bool true) (ex_lss (m := ((j : Nat) : Int)) (n := (((pairsN l0 16).length : Nat) : Int)) (b := true) rfl rfl (decide_eq_true (by omega))) ?_
     simp only [pS, pN, pA, pC, pZ]
     refine wl_nil (hK201 _ _ ?_)
     refine wp_cond_true rfl ?_
     refine wp_skip ?_
     refine hK200 _ _ ?_
     refine wp_seq_k (fun K202 hK202 => ?_)
     refine wp_block ?_
     refine wp_seq_k (fun K203 hK203 => ?_)
     obtain ⟨p, hp⟩ : ∃ p, (pairsN l0 16)[j]? = some p := ⟨(pairsN l0 16)[j], List.getElem?_eq_getElem hc69⟩
     have hpp := hps.ok p (List.mem_of_getElem? hp)
     obtain ⟨b204, o205, ha206, xa208, xc209, xa212, xc213, c207, c211, r210, r214⟩ := Prs.get (hv111.mono ((((le125.trans le139).trans le147).trans le159).trans le198)) hp
     refine region_wl ?_
     refine do_ rfl (.func (.func 28) #[] #[(.pointer (some ⟨n117, 0, none⟩))]) (ex_move _) ?_
     simp only [pS, pN, pA, pC, pZ]
     refine do_ rfl (.slice a112 (pairsN l0 16).length c113) (ex_move _) ?_
     simp only [pS, pN, pA, pC, pZ]
     refine do_ rfl (.int .i64 ((j : Nat) : Int)) (ex_move _) ?_
     simp only [pS, pN, pA, pC, pZ]
     refine do_ rfl (.pointer (some ⟨b204, o205 + j * 2, none⟩)) (ex_at (i := j) (sz := 2) Tryd.underlying40 (sizeof_38 _) rfl ha206 rfl (by omega) rfl) ?_
     simp only [pS, pN, pA, pC, pZ]
     refine do_ rfl (.agg #[(.slice xa208 p.1.length xc209), (.slice xa212 p.2.length xc213)]) (ex_load rfl (loadN (cs := [(.slice xa208 p.1.length xc209), (.slice xa212 p.2.length xc213)]) Tryd.underlying38 rfl (size_38) (range2 (St.fz S197 c207) (St.fz S197 c211)))) ?_
     simp only [pS, pN, pA, pC, pZ]
     refine stPut rfl (ex_fv (fs := #[]) (cs := #[(.pointer (some ⟨n117, 0, none⟩))]) (vs := #[(.agg #[(.slice xa208 p.1.length xc209), (.slice xa212 p.2.length xc213)]), (.pointer (some ⟨n117, 0, none⟩))]) rfl (vmap (fs := #[]) (cs := #[(.pointer (some ⟨n117, 0, none⟩))]) (xs := #[(.agg #[(.slice xa208 p.1.length xc209), (.slice xa212 p.2.length xc213)])]) (map1 rfl) (by simp)) (ent_28 _ _)) (put1_spec S197 hout r210 r214 okx (by omega) hpp) ?_
     intro a215 c216 w217 F218 le219 S220 r221
     simp only [pS, pN, pA, pC, pZ]
     have S220 : St W (whole W) w217 F218 [⟨n117, [(.slice a215 (putT out p.1 p.2).length c216)], 40⟩] [] := S220
     refine do_ rfl (.bool false) (ex_not (b := true) rfl rfl) ?_
     simp only [pS, pN, pA, pC, pZ]
     refine wl_nil (hK203 _ _ ?_)
     refine wp_cond_false rfl ?_
     refine wp_skip ?_
     refine hK202 _ _ ?_
     refine region_wl ?_
     refine do_ rfl (.int .i64 ((j : Nat) : Int)) (ex_move _) ?_
     simp only [pS, pN, pA, pC, pZ]
     refine do_ rfl (.int .i64 (((j + 1) : Nat) : Int)) (ex_add (m := ((j : Nat) : Int)) (n := (1 : Int)) (r := (((j + 1) : Nat) : Int)) rfl rfl (by omega) (by omega) (by omega)) ?_
     simp only [pS, pN, pA, pC, pZ]
     refine do_ rfl (.int .i64 (((j + 1) : Nat) : Int)) (ex_assign _) ?_
     simp only [pS, pN, pA, pC, pZ]
     refine wl_nil ?_
     exact hK199 _ _ _ (by omega) ⟨(j + 1), (putT out p.1 p.2), a215, c216, F218, _, rfl, rfl, rfl, S220, (le198.trans le219), (by omega), r221, (put_ok okx (by omega) hpp).2.2, ((hmx.put okx.rise hps.rise hp).2 rfl)⟩
    ·refine do_ rfl (.bool false) (ex_lss (m := ((j : Nat) : Int)) (n := (((pairsN l0 16).length : Nat) : Int)) (b := false) rfl rfl (decide_eq_false (by omega))) ?_
     simp only [pS, pN, pA, pC, pZ]
     refine wl_nil (hK201 _ _ ?_)
     refine wp_cond_false rfl ?_
     refine wp_exit ?_
     refine hK189 _ _ ?_
     refine wp_seq_k (fun K222 hK222 => ?_)
     refine wp_seq_k (fun K223 hK223 => ?_)
     obtain rfl : j = (pairsN l0 16).length := by omega
     refine region_wl ?_
     refine do_ rfl (.bool (fndN (keyL l2) 0 (pairsN l0 16)).2) (ex_move _) ?_
     simp only [pS, pN, pA, pC, pZ]
     refine do_ rfl (.bool (!(fndN (keyL l2) 0 (pairsN l0 16)).2)) (ex_not rfl rfl) ?_
     simp only [pS, pN, pA, pC, pZ]
     refine wl_nil (hK223 _ _ ?_)
     refine wp_cond_split rfl (fun hc224 => ?_) (fun hc224 => ?_)
     ·refine wp_seq_k (fun K225 hK225 => ?_)
      have hno : (getT (pairsN l0 16) (keyL l2)).isSome = false := by rw [← fnd_get (i := 0)]; simpa using hc224
      refine region_wl ?_
      refine do_ rfl (.slice oa out.length oc) (ex_load rfl (load1 (nagg_40 _) (St.cell S197 (i := 0) rfl rfl))) ?_
      simp only [pS, pN, pA, pC, pZ]
      refine do_ rfl (.slice xa128 (keyL l2).length xc129) (ex_move _) ?_
      simp only [pS, pN, pA, pC, pZ]
      refine stGives S197 rfl (ex_fn (vs := #[(.slice oa out.length oc), (.slice xa128 (keyL l2).length xc129)]) (map2 rfl rfl) rfl (ent_31 _ _)) (delOk_spec _ _ _ _ out (keyL l2) (S197).sat hout (R126.mono (((le139.trans le147).trans le159).trans le198)) (TreeOk.mono (show TreeOk 60 out from okx.mono (by omega)) (by omega)) (keyL_len l2)) ?_
      intro v231 w226 F228 S227 le229 R230
      obtain ⟨_, rfl, r234⟩ := R230
      obtain ⟨a232, c233, rfl, h235, h236⟩ := Sl.shape r234
      unfold maxLen at h236
      have h235 : (delT out (keyL l2)).length ≤ c233 := h235
      have r234 : Prs _ (.slice a232 (delT out (keyL l2)).length c233) (delT out (keyL l2)) := r234
      simp only [pS, pN, pA, pC, pZ]
      refine do_ rfl (.tuple #[(.slice a232 (delT out (keyL l2)).length c233), (.int .i64 0)]) (ex_move _) ?_
      simp only [pS, pN, pA, pC, pZ]
      refine do_ rfl (.slice a232 (delT out (keyL l2)).length c233) (ex_extract rfl rfl) ?_
      simp only [pS, pN, pA, pC, pZ]
      refine do_ rfl (.int .i64 0) (ex_extract rfl rfl) ?_
      simp only [pS, pN, pA, pC, pZ]
      refine do_ rfl (.slice a232 (delT out (keyL l2)).length c233) (ex_assign _) ?_
      simp only [pS, pN, pA, pC, pZ]
      refine do_ rfl (.int .i64 0) (ex_assign _) ?_
      simp only [pS, pN, pA, pC, pZ]
      refine wl_nil (hK225 _ _ ?_)
      refine wp_seq_k (fun K237 hK237 => ?_)
      refine wp_seq_k (fun K238 hK238 => region_wl ?_)
      refine do_ rfl (.int .i64 0) (ex_move _) ?_
      simp only [pS, pN, pA, pC, pZ]
      refine do_ rfl (.bool false) (ex_neq (b := false) rfl rfl (by decide)) ?_
      simp only [pS, pN, pA, pC, pZ]
      refine wl_nil (hK238 _ _ ?_)
      refine wp_cond_false rfl ?_
      refine wp_skip ?_
      refine hK237 _ _ ?_
      refine region_wl ?_
      refine do_ rfl (.slice a232 (delT out (keyL l2)).length c233) (ex_move _) ?_
      simp only [pS, pN, pA, pC, pZ]
      refine stStore (i := 0) (v := (.slice a232 (delT out (keyL l2)).length c233)) S227 rfl rfl rfl rfl (size_40) (allc1 rfl) (Nat.le_of_ble_eq_true rfl) (fun w239 S240 => ?_)
      simp only [pS, pN, pA, pC, pZ]
      have S240 : St W (whole W) w239 F228 [⟨n117, [(.slice a232 (delT out (keyL l2)).length c233)], 40⟩] [] := S240
      refine wl_nil (hK222 _ _ ?_)
      refine wp_seq_k (fun K241 hK241 => ?_)
      have hend : delT out (keyL l2) = (pairsN l0 16) := hmx.not hps.rise okx.rise hno
      have r242 : Prs F228 (.slice a232 (pairsN l0 16).length c233) (pairsN l0 16) := by have h := r234; rwa [hend] at h
      have S243 : St W (whole W) w239 F228 [⟨n117, [(.slice a232 (pairsN l0 16).length c233)], 40⟩] [] := by have h := S240; rwa [hend] at h
      have S243 : St W (whole W) w239 F228 [⟨n117, [(.slice a232 (pairsN l0 16).length c233)], 40⟩] [] := S243
      refine region_wl ?_
      refine do_ rfl (.slice a232 (pairsN l0 16).length c233) (ex_load rfl (load1 (nagg_40 _) (St.cell S243 (i := 0) rfl rfl))) ?_
      simp only [pS, pN, pA, pC, pZ]
      refine stGives S243 rfl (ex_fn (vs := #[(.slice a232 (pairsN l0 16).length c233)]) (map1 rfl) rfl (ent_22 _ _)) (Root_spec _ _ _ (pairsN l0 16) (S243).sat (hT.at S243.gr.below) r242 (TreeOk.mono (show TreeOk 16 (pairsN l0 16) from pairsN_ok l0 16) (by omega))) ?_
      intro v249 w244 F246 S245 le247 R248
      obtain ⟨x250, rfl, r251⟩ := R248
      obtain ⟨xa252, xc253, rfl, _⟩ := r251.shape
      have r251 : Bs _ (.slice xa252 (rootT (pairsN l0 16)).length xc253) (rootT (pairsN l0 16)) := r251
      simp only [pS, pN, pA, pC, pZ]
      refine do_ rfl (.tuple #[(.slice xa252 (rootT (pairsN l0 16)).length xc253), (.int .i64 0)]) (ex_move _) ?_
      simp only [pS, pN, pA, pC, pZ]
      refine do_ rfl (.slice xa252 (rootT (pairsN l0 16)).length xc253) (ex_extract rfl rfl) ?_
      simp only [pS, pN, pA, pC, pZ]
      refine do_ rfl (.int .i64 0) (ex_extract rfl rfl) ?_
      simp only [pS, pN, pA, pC, pZ]
      refine do_ rfl (.slice xa252 (rootT (pairsN l0 16)).length xc253) (ex_assign _) ?_
      simp only [pS, pN, pA, pC, pZ]
      refine do_ rfl (.int .i64 0) (ex_assign _) ?_
      simp only [pS, pN, pA, pC, pZ]
      refine wl_nil (hK241 _ _ ?_)
      refine wp_seq_k (fun K254 hK254 => region_wl ?_)
      refine do_ rfl (.slice a112 (pairsN l0 16).length c113) (ex_move _) ?_
      simp only [pS, pN, pA, pC, pZ]
      refine stGives S245 rfl (ex_fn (vs := #[(.slice a112 (pairsN l0 16).length c113)]) (map1 rfl) rfl (ent_22 _ _)) (Root_spec _ _ _ (pairsN l0 16) (S245).sat (hT.at S245.gr.below) (hv111.mono ((((((le125.trans le139).trans le147).trans le159).trans le198).trans le229).trans le247)) (TreeOk.mono (show TreeOk 16 (pairsN l0 16) from pairsN_ok l0 16) (by omega))) ?_
      intro v260 w255 F257 S256 le258 R259
      obtain ⟨x261, rfl, r262⟩ := R259
      obtain ⟨xa263, xc264, rfl, _⟩ := r262.shape
      have r262 : Bs _ (.slice xa263 (rootT (pairsN l0 16)).length xc264) (rootT (pairsN l0 16)) := r262
      simp only [pS, pN, pA, pC, pZ]
      refine do_ rfl (.tuple #[(.slice xa263 (rootT (pairsN l0 16)).length xc264), (.int .i64 0)]) (ex_move _) ?_
      simp only [pS, pN, pA, pC, pZ]
      refine do_ rfl (.slice xa263 (rootT (pairsN l0 16)).length xc264) (ex_extract rfl rfl) ?_
      simp only [pS, pN, pA, pC, pZ]
      refine do_ rfl (.int .i64 0) (ex_extract rfl rfl) ?_
      simp only [pS, pN, pA, pC, pZ]
      refine do_ rfl (.slice xa263 (rootT (pairsN l0 16)).length xc264) (ex_assign _) ?_
      simp only [pS, pN, pA, pC, pZ]
      refine do_ rfl (.int .i64 0) (ex_assign _) ?_
      simp only [pS, pN, pA, pC, pZ]
      refine wl_nil (hK254 _ _ ?_)
      refine wp_seq_k (fun K265 hK265 => region_wl ?_)
      refine do_ rfl (.int .i64 0) (ex_move _) ?_
      simp only [pS, pN, pA, pC, pZ]
      refine do_ rfl (.bool true) (ex_eql (b := true) rfl rfl (by decide)) ?_
      simp only [pS, pN, pA, pC, pZ]
      refine do_ rfl (.bool true) (ex_move _) ?_
      simp only [pS, pN, pA, pC, pZ]
      refine do_ rfl (.int .i64 0) (ex_move _) ?_
      simp only [pS, pN, pA, pC, pZ]
      refine do_ rfl (.bool true) (ex_eql (b := true) rfl rfl (by decide)) ?_
      simp only [pS, pN, pA, pC, pZ]
      refine do_ rfl (.bool true) (ex_pick (b := true) rfl) ?_
      simp only [pS, pN, pA, pC, pZ]
      refine do_ rfl (.bool true) (ex_move _) ?_
      simp only [pS, pN, pA, pC, pZ]
      refine do_ rfl (.slice xa252 (rootT (pairsN l0 16)).length xc253) (ex_move _) ?_
      simp only [pS, pN, pA, pC, pZ]
      refine do_ rfl (.slice xa263 (rootT (pairsN l0 16)).length xc264) (ex_move _) ?_
      simp only [pS, pN, pA, pC, pZ]
      refine stTells (v := (.bool true)) S256 rfl (ex_fn (vs := #[(.slice xa252 (rootT (pairsN l0 16)).length xc253), (.slice xa263 (rootT (pairsN l0 16)).length xc264)]) (map2 rfl rfl) rfl (ent_16 _ _)) (tells_bool (tells_same (same_spec _ _ _ _ (rootT (pairsN l0 16)) (rootT (pairsN l0 16)) (S256).sat (r251.mono le258) r262)) (beq_iff_eq.2 (rfl))) (fun w266 S267 => ?_)
      simp only [pS, pN, pA, pC, pZ]
      refine do_ rfl (.bool true) (ex_pick (b := true) rfl) ?_
      simp only [pS, pN, pA, pC, pZ]
      refine do_ rfl (.bool true) (ex_move _) ?_
      simp only [pS, pN, pA, pC, pZ]
      refine do_ rfl (.slice xa252 (rootT (pairsN l0 16)).length xc253) (ex_move _) ?_
      simp only [pS, pN, pA, pC, pZ]
      refine do_ rfl (.int .i64 (((rootT (pairsN l0 16)).length : Nat) : Int)) (ex_len Tryd.underlying22 rfl) ?_
      simp only [pS, pN, pA, pC, pZ]
      refine do_ rfl (.bool true) (ex_eql (m := (((rootT (pairsN l0 16)).length : Nat) : Int)) (n := (32 : Int)) (b := true) rfl rfl (beq_iff_eq.2 (by rw [rootT_len]; rfl))) ?_
      simp only [pS, pN, pA, pC, pZ]
      refine do_ rfl (.bool true) (ex_pick (b := true) rfl) ?_
      simp only [pS, pN, pA, pC, pZ]
      refine do_ rfl (.bool true) (ex_assign _) ?_
      simp only [pS, pN, pA, pC, pZ]
      refine wl_nil (hK265 _ _ ?_)
      refine wp_ret ?_
      (try simp only [Exit.then, Exit.inBlock, ↓reduceIte, Nat.reduceEqDiff])
      refine bodyPost_ret (v := (.bool true)) ?_ rfl ?_
      ·exact res_t rfl rfl
      ·exact ⟨rfl, S267.gr.below⟩
     ·refine wp_skip ?_
      refine hK222 _ _ ?_
      refine wp_seq_k (fun K268 hK268 => ?_)
      have hyes : (getT (pairsN l0 16) (keyL l2)).isSome = true := by rw [← fnd_get (i := 0)]; simpa using hc224
      have hend : out = (pairsN l0 16) := hmx.had hps.rise okx.rise hyes
      have r269 : Prs F191 (.slice oa (pairsN l0 16).length oc) (pairsN l0 16) := by have h := hout; rwa [hend] at h
      have S270 : St W (whole W) w196 F191 [⟨n117, [(.slice oa (pairsN l0 16).length oc)], 40⟩] [] := by have h := S197; rwa [hend] at h
      have S270 : St W (whole W) w196 F191 [⟨n117, [(.slice oa (pairsN l0 16).length oc)], 40⟩] [] := S270
      refine region_wl ?_
      refine do_ rfl (.slice oa (pairsN l0 16).length oc) (ex_load rfl (load1 (nagg_40 _) (St.cell S270 (i := 0) rfl rfl))) ?_
      simp only [pS, pN, pA, pC, pZ]
      refine stGives S270 rfl (ex_fn (vs := #[(.slice oa (pairsN l0 16).length oc)]) (map1 rfl) rfl (ent_22 _ _)) (Root_spec _ _ _ (pairsN l0 16) (S270).sat (hT.at S270.gr.below) r269 (TreeOk.mono (show TreeOk 16 (pairsN l0 16) from pairsN_ok l0 16) (by omega))) ?_
      intro v276 w271 F273 S272 le274 R275
      obtain ⟨x277, rfl, r278⟩ := R275
      obtain ⟨xa279, xc280, rfl, _⟩ := r278.shape
      have r278 : Bs _ (.slice xa279 (rootT (pairsN l0 16)).length xc280) (rootT (pairsN l0 16)) := r278
      simp only [pS, pN, pA, pC, pZ]
      refine do_ rfl (.tuple #[(.slice xa279 (rootT (pairsN l0 16)).length xc280), (.int .i64 0)]) (ex_move _) ?_
      simp only [pS, pN, pA, pC, pZ]
      refine do_ rfl (.slice xa279 (rootT (pairsN l0 16)).length xc280) (ex_extract rfl rfl) ?_
      simp only [pS, pN, pA, pC, pZ]
      refine do_ rfl (.int .i64 0) (ex_extract rfl rfl) ?_
      simp only [pS, pN, pA, pC, pZ]
      refine do_ rfl (.slice xa279 (rootT (pairsN l0 16)).length xc280) (ex_assign _) ?_
      simp only [pS, pN, pA, pC, pZ]
      refine do_ rfl (.int .i64 0) (ex_assign _) ?_
      simp only [pS, pN, pA, pC, pZ]
      refine wl_nil (hK268 _ _ ?_)
      refine wp_seq_k (fun K281 hK281 => region_wl ?_)
      refine do_ rfl (.slice a112 (pairsN l0 16).length c113) (ex_move _) ?_
      simp only [pS, pN, pA, pC, pZ]
      refine stGives S272 rfl (ex_fn (vs := #[(.slice a112 (pairsN l0 16).length c113)]) (map1 rfl) rfl (ent_22 _ _)) (Root_spec _ _ _ (pairsN l0 16) (S272).sat (hT.at S272.gr.below) (hv111.mono (((((le125.trans le139).trans le147).trans le159).trans le198).trans le274)) (TreeOk.mono (show TreeOk 16 (pairsN l0 16) from pairsN_ok l0 16) (by omega))) ?_
      intro v287 w282 F284 S283 le285 R286
      obtain ⟨x288, rfl, r289⟩ := R286
      obtain ⟨xa290, xc291, rfl, _⟩ := r289.shape
      have r289 : Bs _ (.slice xa290 (rootT (pairsN l0 16)).length xc291) (rootT (pairsN l0 16)) := r289
      simp only [pS, pN, pA, pC, pZ]
      refine do_ rfl (.tuple #[(.slice xa290 (rootT (pairsN l0 16)).length xc291), (.int .i64 0)]) (ex_move _) ?_
      simp only [pS, pN, pA, pC, pZ]
      refine do_ rfl (.slice xa290 (rootT (pairsN l0 16)).length xc291) (ex_extract rfl rfl) ?_
      simp only [pS, pN, pA, pC, pZ]
      refine do_ rfl (.int .i64 0) (ex_extract rfl rfl) ?_
      simp only [pS, pN, pA, pC, pZ]
      refine do_ rfl (.slice xa290 (rootT (pairsN l0 16)).length xc291) (ex_assign _) ?_
      simp only [pS, pN, pA, pC, pZ]
      refine do_ rfl (.int .i64 0) (ex_assign _) ?_
      simp only [pS, pN, pA, pC, pZ]
      refine wl_nil (hK281 _ _ ?_)
      refine wp_seq_k (fun K292 hK292 => region_wl ?_)
      refine do_ rfl (.int .i64 0) (ex_move _) ?_
      simp only [pS, pN, pA, pC, pZ]
      refine do_ rfl (.bool true) (ex_eql (b := true) rfl rfl (by decide)) ?_
      simp only [pS, pN, pA, pC, pZ]
      refine do_ rfl (.bool true) (ex_move _) ?_
      simp only [pS, pN, pA, pC, pZ]
      refine do_ rfl (.int .i64 0) (ex_move _) ?_
      simp only [pS, pN, pA, pC, pZ]
      refine do_ rfl (.bool true) (ex_eql (b := true) rfl rfl (by decide)) ?_
      simp only [pS, pN, pA, pC, pZ]
      refine do_ rfl (.bool true) (ex_pick (b := true) rfl) ?_
      simp only [pS, pN, pA, pC, pZ]
      refine do_ rfl (.bool true) (ex_move _) ?_
      simp only [pS, pN, pA, pC, pZ]
      refine do_ rfl (.slice xa279 (rootT (pairsN l0 16)).length xc280) (ex_move _) ?_
      simp only [pS, pN, pA, pC, pZ]
      refine do_ rfl (.slice xa290 (rootT (pairsN l0 16)).length xc291) (ex_move _) ?_
      simp only [pS, pN, pA, pC, pZ]
      refine stTells (v := (.bool true)) S283 rfl (ex_fn (vs := #[(.slice xa279 (rootT (pairsN l0 16)).length xc280), (.slice xa290 (rootT (pairsN l0 16)).length xc291)]) (map2 rfl rfl) rfl (ent_16 _ _)) (tells_bool (tells_same (same_spec _ _ _ _ (rootT (pairsN l0 16)) (rootT (pairsN l0 16)) (S283).sat (r278.mono le285) r289)) (beq_iff_eq.2 (rfl))) (fun w293 S294 => ?_)
      simp only [pS, pN, pA, pC, pZ]
      refine do_ rfl (.bool true) (ex_pick (b := true) rfl) ?_
      simp only [pS, pN, pA, pC, pZ]
      refine do_ rfl (.bool true) (ex_move _) ?_
      simp only [pS, pN, pA, pC, pZ]
      refine do_ rfl (.slice xa279 (rootT (pairsN l0 16)).length xc280) (ex_move _) ?_
      simp only [pS, pN, pA, pC, pZ]
      refine do_ rfl (.int .i64 (((rootT (pairsN l0 16)).length : Nat) : Int)) (ex_len Tryd.underlying22 rfl) ?_
      simp only [pS, pN, pA, pC, pZ]
      refine do_ rfl (.bool true) (ex_eql (m := (((rootT (pairsN l0 16)).length : Nat) : Int)) (n := (32 : Int)) (b := true) rfl rfl (beq_iff_eq.2 (by rw [rootT_len]; rfl))) ?_
      simp only [pS, pN, pA, pC, pZ]
      refine do_ rfl (.bool true) (ex_pick (b := true) rfl) ?_
      simp only [pS, pN, pA, pC, pZ]
      refine do_ rfl (.bool true) (ex_assign _) ?_
      simp only [pS, pN, pA, pC, pZ]
      refine wl_nil (hK292 _ _ ?_)
      refine wp_ret ?_
      (try simp only [Exit.then, Exit.inBlock, ↓reduceIte, Nat.reduceEqDiff])
      refine bodyPost_ret (v := (.bool true)) ?_ rfl ?_
      ·exact res_t rfl rfl
      ·exact ⟨rfl, S294.gr.below⟩
  ·refine do_ rfl (.bool false) (ex_lss (m := ((i : Nat) : Int)) (n := (20 : Int)) (b := false) rfl rfl (decide_eq_false (by omega))) ?_
   simp only [pS, pN, pA, pC, pZ]
   refine do_ rfl (.bool false) (ex_pick (b := true) rfl) ?_
   simp only [pS, pN, pA, pC, pZ]
   refine do_ rfl (.bool false) (ex_move _) ?_
   simp only [pS, pN, pA, pC, pZ]
   refine doN (wanted_no rfl rfl rfl (c := false) rfl (by decide)) ?_
   simp only [pS, pN, pA, pC, pZ]
   refine doN (wanted_no rfl rfl rfl (c := false) rfl (by decide)) ?_
   simp only [pS, pN, pA, pC, pZ]
   refine doN (wanted_no rfl rfl rfl (c := false) rfl (by decide)) ?_
   simp only [pS, pN, pA, pC, pZ]
   refine do_ rfl (.bool false) (ex_pick (b := false) rfl) ?_
   simp only [pS, pN, pA, pC, pZ]
   refine wl_nil (hK162 _ _ ?_)
   refine wp_cond_false rfl ?_
   refine wp_exit ?_
   refine hK150 _ _ ?_
   refine wp_seq_k (fun K295 hK295 => ?_)
   refine wp_seq_k (fun K296 hK296 => region_wl ?_)
   refine do_ rfl (.int .i64 0) (ex_assign _) ?_
   simp only [pS, pN, pA, pC, pZ]
   refine wl_nil (hK296 _ _ ?_)
   refine wp_block ?_
   refine wp_loop_g (fun mm aa w299 => ∃ (j : Nat) (out : List Pr) (oa : Option Addr) (oc : Nat) (F297 : Fz) (u298 : Nat → Value), mm = (pairsN l0 16).length - j ∧ u298 = slots aa ∧ aa = ⟨#[(.slice a0 l0.length c0), (.slice a1 l1.length c1), (.slice a2 l2.length c2), undef, undef, undef, (u298 6), (.slice a112 (pairsN l0 16).length c113), (.pointer (some ⟨n117, 0, none⟩)), (.func (.func 28) #[] #[(.pointer (some ⟨n117, 0, none⟩))]), (.slice xa128 (keyL l2).length xc129), (.int .i64 (((fndN (keyL l2) 0 (pairsN l0 16)).1 : Nat) : Int)), (.bool (fndN (keyL l2) 0 (pairsN l0 16)).2), (.int .i64 ((i : Nat) : Int)), (.int .i64 ((j : Nat) : Int)), undef, undef, undef, undef, undef, undef, (.slice a0 l0.length c0), (.slice a112 (pairsN l0 16).length c113), (.func (.func 28) #[] #[(.pointer (some ⟨n117, 0, none⟩))]), (.slice a2 l2.length c2), (.slice xa128 (keyL l2).length xc129), (.tuple #[(.int .i64 (((fndN (keyL l2) 0 (pairsN l0 16)).1 : Nat) : Int)), (.bool (fndN (keyL l2) 0 (pairsN l0 16)).2)]), (.slice a112 (pairsN l0 16).length c113), (.slice xa128 (keyL l2).length xc129), (.tuple #[(.int .i64 (((fndN (keyL l2) 0 (pairsN l0 16)).1 : Nat) : Int)), (.bool (fndN (keyL l2) 0 (pairsN l0 16)).2)]), (.int .i64 (((fndN (keyL l2) 0 (pairsN l0 16)).1 : Nat) : Int)), (.bool (fndN (keyL l2) 0 (pairsN l0 16)).2), (.func (.func 28) #[] #[(.pointer (some ⟨n117, 0, none⟩))]), (.slice xa128 (keyL l2).length xc129), (.slice (some ⟨n135, 0, none⟩) 1 1), (.agg #[(.slice xa128 (keyL l2).length xc129), (.slice (some ⟨n135, 0, none⟩) 1 1)]), (.bool true), (.bool false), (.int .i64 ((i : Nat) : Int)), (.slice a1 l1.length c1), (.int .i64 ((l1.length : Nat) : Int)), (.bool true), (.bool true), (.int .i64 ((i : Nat) : Int)), (.bool false), (.bool false), (.bool false), undef, undef, undef, (.bool false), (u153 51), (u153 52), (u153 53), (u153 54), (u153 55), (u153 56), (u153 57), (u153 58), (u153 59), (u153 60), (u153 61), (u153 62), (u153 63), (u153 64), (u153 65), (u298 66), (u298 67), (u298 68), (u298 69), (u298 70), (u298 71), (u298 72), (u298 73), (u298 74), (u298 75), (u298 76), (u298 77), (u298 78), undef, undef, undef, undef, undef, undef, undef, undef, undef, undef, undef, undef, undef, undef, undef, undef, undef, undef, undef, undef, undef, undef, undef, undef, undef, undef, undef, undef, undef, undef, undef, undef, undef, undef, undef, undef, undef], []⟩ ∧ St W (whole W) w299 F297 [⟨n117, [(.slice oa out.length oc)], 40⟩] [] ∧ Le F152 F297 ∧ (j ≤ (pairsN l0 16).length) ∧ (Prs F297 (.slice oa out.length oc) out) ∧ (TreeOk (21 + j) out) ∧ (Mixed (keyL l2) (pairsN l0 16) j out)) _ ⟨0, out, oa, oc, F152, _, rfl, rfl, rfl, S158, Le.refl _, (by omega), hout, (okx.mono (by omega)), hmx⟩ ?_
   rintro m300 a301 w302 ⟨j, out, oa, oc, F297, u298, rfl, -, rfl, S303, le304, hj, hout, okx, hmx⟩ K305 hK305
   refine wp_seq_k (fun K306 hK306 => ?_)
   refine wp_seq_k (fun K307 hK307 => region_wl ?_)
   refine do_ rfl (.int .i64 ((j : Nat) : Int)) (ex_move _) ?_
   simp only [pS, pN, pA, pC, pZ]
   refine do_ rfl (.slice a112 (pairsN l0 16).length c113) (ex_move _) ?_
   simp only [pS, pN, pA, pC, pZ]
   refine do_ rfl (.int .i64 (((pairsN l0 16).length : Nat) : Int)) (ex_len Tryd.underlying40 rfl) ?_
   simp only [pS, pN, pA, pC, pZ]
   by_cases hc69 : j < (pairsN l0 16).length
   ·refine do_ rfl (.bool true) (ex_lss (m := ((j : Nat) : Int)) (n := (((pairsN l0 16).length : Nat) : Int)) (b := true) rfl rfl (decide_eq_true (by omega))) ?_
    simp only [pS, pN, pA, pC, pZ]
    refine wl_nil (hK307 _ _ ?_)
    refine wp_cond_true rfl ?_
    refine wp_skip ?_
    refine hK306 _ _ ?_
    refine wp_seq_k (fun K308 hK308 => ?_)
    refine wp_block ?_
    refine wp_seq_k (fun K309 hK309 => ?_)
    obtain ⟨p, hp⟩ : ∃ p, (pairsN l0 16)[j]? = some p := ⟨(pairsN l0 16)[j], List.getElem?_eq_getElem hc69⟩
    have hpp := hps.ok p (List.mem_of_getElem? hp)
    obtain ⟨b310, o311, ha312, xa314, xc315, xa318, xc319, c313, c317, r316, r320⟩ := Prs.get (hv111.mono ((((le125.trans le139).trans le147).trans le159).trans le304)) hp
    refine region_wl ?_
    refine do_ rfl (.func (.func 28) #[] #[(.pointer (some ⟨n117, 0, none⟩))]) (ex_move _) ?_
    simp only [pS, pN, pA, pC, pZ]
    refine do_ rfl (.slice a112 (pairsN l0 16).length c113) (ex_move _) ?_
    simp only [pS, pN, pA, pC, pZ]
    refine do_ rfl (.int .i64 ((j : Nat) : Int)) (ex_move _) ?_
    simp only [pS, pN, pA, pC, pZ]
    refine do_ rfl (.pointer (some ⟨b310, o311 + j * 2, none⟩)) (ex_at (i := j) (sz := 2) Tryd.underlying40 (sizeof_38 _) rfl ha312 rfl (by omega) rfl) ?_
    simp only [pS, pN, pA, pC, pZ]
    refine do_ rfl (.agg #[(.slice xa314 p.1.length xc315), (.slice xa318 p.2.length xc319)]) (ex_load rfl (loadN (cs := [(.slice xa314 p.1.length xc315), (.slice xa318 p.2.length xc319)]) Tryd.underlying38 rfl (size_38) (range2 (St.fz S303 c313) (St.fz S303 c317)))) ?_
    simp only [pS, pN, pA, pC, pZ]
    refine stPut rfl (ex_fv (fs := #[]) (cs := #[(.pointer (some ⟨n117, 0, none⟩))]) (vs := #[(.agg #[(.slice xa314 p.1.length xc315), (.slice xa318 p.2.length xc319)]), (.pointer (some ⟨n117, 0, none⟩))]) rfl (vmap (fs := #[]) (cs := #[(.pointer (some ⟨n117, 0, none⟩))]) (xs := #[(.agg #[(.slice xa314 p.1.length xc315), (.slice xa318 p.2.length xc319)])]) (map1 rfl) (by simp)) (ent_28 _ _)) (put1_spec S303 hout r316 r320 okx (by omega) hpp) ?_
    intro a321 c322 w323 F324 le325 S326 r327
    simp only [pS, pN, pA, pC, pZ]
    have S326 : St W (whole W) w323 F324 [⟨n117, [(.slice a321 (putT out p.1 p.2).length c322)], 40⟩] [] := S326
    refine do_ rfl (.bool false) (ex_not (b := true) rfl rfl) ?_
    simp only [pS, pN, pA, pC, pZ]
    refine wl_nil (hK309 _ _ ?_)
    refine wp_cond_false rfl ?_
    refine wp_skip ?_
    refine hK308 _ _ ?_
    refine region_wl ?_
    refine do_ rfl (.int .i64 ((j : Nat) : Int)) (ex_move _) ?_
    simp only [pS, pN, pA, pC, pZ]
    refine do_ rfl (.int .i64 (((j + 1) : Nat) : Int)) (ex_add (m := ((j : Nat) : Int)) (n := (1 : Int)) (r := (((j + 1) : Nat) : Int)) rfl rfl (by omega) (by omega) (by omega)) ?_
    simp only [pS, pN, pA, pC, pZ]
    refine do_ rfl (.int .i64 (((j + 1) : Nat) : Int)) (ex_assign _) ?_
    simp only [pS, pN, pA, pC, pZ]
    refine wl_nil ?_
    exact hK305 _ _ _ (by omega) ⟨(j + 1), (putT out p.1 p.2), a321, c322, F324, _, rfl, rfl, rfl, S326, (le304.trans le325), (by omega), r327, (put_ok okx (by omega) hpp).2.2, ((hmx.put okx.rise hps.rise hp).2 rfl)⟩
   ·refine do_ rfl (.bool false) (ex_lss (m := ((j : Nat) : Int)) (n := (((pairsN l0 16).length : Nat) : Int)) (b := false) rfl rfl (decide_eq_false (by omega))) ?_
    simp only [pS, pN, pA, pC, pZ]
    refine wl_nil (hK307 _ _ ?_)
    refine wp_cond_false rfl ?_
    refine wp_exit ?_
    refine hK295 _ _ ?_
    refine wp_seq_k (fun K328 hK328 => ?_)
    refine wp_seq_k (fun K329 hK329 => ?_)
    obtain rfl : j = (pairsN l0 16).length := by omega
    refine region_wl ?_
    refine do_ rfl (.bool (fndN (keyL l2) 0 (pairsN l0 16)).2) (ex_move _) ?_
    simp only [pS, pN, pA, pC, pZ]
    refine do_ rfl (.bool (!(fndN (keyL l2) 0 (pairsN l0 16)).2)) (ex_not rfl rfl) ?_
    simp only [pS, pN, pA, pC, pZ]
    refine wl_nil (hK329 _ _ ?_)
    refine wp_cond_split rfl (fun hc330 => ?_) (fun hc330 => ?_)
    ·refine wp_seq_k (fun K331 hK331 => ?_)
     have hno : (getT (pairsN l0 16) (keyL l2)).isSome = false := by rw [← fnd_get (i := 0)]; simpa using hc330
     refine region_wl ?_
     refine do_ rfl (.slice oa out.length oc) (ex_load rfl (load1 (nagg_40 _) (St.cell S303 (i := 0) rfl rfl))) ?_
     simp only [pS, pN, pA, pC, pZ]
     refine do_ rfl (.slice xa128 (keyL l2).length xc129) (ex_move _) ?_
     simp only [pS, pN, pA, pC, pZ]
     refine stGives S303 rfl (ex_fn (vs := #[(.slice oa out.length oc), (.slice xa128 (keyL l2).length xc129)]) (map2 rfl rfl) rfl (ent_31 _ _)) (delOk_spec _ _ _ _ out (keyL l2) (S303).sat hout (R126.mono (((le139.trans le147).trans le159).trans le304)) (TreeOk.mono (show TreeOk 60 out from okx.mono (by omega)) (by omega)) (keyL_len l2)) ?_
     intro v337 w332 F334 S333 le335 R336
     obtain ⟨_, rfl, r340⟩ := R336
     obtain ⟨a338, c339, rfl, h341, h342⟩ := Sl.shape r340
     unfold maxLen at h342
     have h341 : (delT out (keyL l2)).length ≤ c339 := h341
     have r340 : Prs _ (.slice a338 (delT out (keyL l2)).length c339) (delT out (keyL l2)) := r340
     simp only [pS, pN, pA, pC, pZ]
     refine do_ rfl (.tuple #[(.slice a338 (delT out (keyL l2)).length c339), (.int .i64 0)]) (ex_move _) ?_
     simp only [pS, pN, pA, pC, pZ]
     refine do_ rfl (.slice a338 (delT out (keyL l2)).length c339) (ex_extract rfl rfl) ?_
     simp only [pS, pN, pA, pC, pZ]
     refine do_ rfl (.int .i64 0) (ex_extract rfl rfl) ?_
     simp only [pS, pN, pA, pC, pZ]
     refine do_ rfl (.slice a338 (delT out (keyL l2)).length c339) (ex_assign _) ?_
     simp only [pS, pN, pA, pC, pZ]
     refine do_ rfl (.int .i64 0) (ex_assign _) ?_
     simp only [pS, pN, pA, pC, pZ]
     refine wl_nil (hK331 _ _ ?_)
     refine wp_seq_k (fun K343 hK343 => ?_)
     refine wp_seq_k (fun K344 hK344 => region_wl ?_)
     refine do_ rfl (.int .i64 0) (ex_move _) ?_
     simp only [pS, pN, pA, pC, pZ]
     refine do_ rfl (.bool false) (ex_neq (b := false) rfl rfl (by decide)) ?_
     simp only [pS, pN, pA, pC, pZ]
     refine wl_nil (hK344 _ _ ?_)
     refine wp_cond_false rfl ?_
     refine wp_skip ?_
     refine hK343 _ _ ?_
     refine region_wl ?_
     refine do_ rfl (.slice a338 (delT out (keyL l2)).length c339) (ex_move _) ?_
     simp only [pS, pN, pA, pC, pZ]
     refine stStore (i := 0) (v := (.slice a338 (delT out (keyL l2)).length c339)) S333 rfl rfl rfl rfl (size_40) (allc1 rfl) (Nat.le_of_ble_eq_true rfl) (fun w345 S346 => ?_)
     simp only [pS, pN, pA, pC, pZ]
     have S346 : St W (whole W) w345 F334 [⟨n117, [(.slice a338 (delT out (keyL l2)).length c339)], 40⟩] [] := S346
     refine wl_nil (hK328 _ _ ?_)
     refine wp_seq_k (fun K347 hK347 => ?_)
     have hend : delT out (keyL l2) = (pairsN l0 16) := hmx.not hps.rise okx.rise hno
     have r348 : Prs F334 (.slice a338 (pairsN l0 16).length c339) (pairsN l0 16) := by have h := r340; rwa [hend] at h
     have S349 : St W (whole W) w345 F334 [⟨n117, [(.slice a338 (pairsN l0 16).length c339)], 40⟩] [] := by have h := S346; rwa [hend] at h
     have S349 : St W (whole W) w345 F334 [⟨n117, [(.slice a338 (pairsN l0 16).length c339)], 40⟩] [] := S349
     refine region_wl ?_
     refine do_ rfl (.slice a338 (pairsN l0 16).length c339) (ex_load rfl (load1 (nagg_40 _) (St.cell S349 (i := 0) rfl rfl))) ?_
     simp only [pS, pN, pA, pC, pZ]
     refine stGives S349 rfl (ex_fn (vs := #[(.slice a338 (pairsN l0 16).length c339)]) (map1 rfl) rfl (ent_22 _ _)) (Root_spec _ _ _ (pairsN l0 16) (S349).sat (hT.at S349.gr.below) r348 (TreeOk.mono (show TreeOk 16 (pairsN l0 16) from pairsN_ok l0 16) (by omega))) ?_
     intro v355 w350 F352 S351 le353 R354
     obtain ⟨x356, rfl, r357⟩ := R354
     obtain ⟨xa358, xc359, rfl, _⟩ := r357.shape
     have r357 : Bs _ (.slice xa358 (rootT (pairsN l0 16)).length xc359) (rootT (pairsN l0 16)) := r357
     simp only [pS, pN, pA, pC, pZ]
     refine do_ rfl (.tuple #[(.slice xa358 (rootT (pairsN l0 16)).length xc359), (.int .i64 0)]) (ex_move _) ?_
     simp only [pS, pN, pA, pC, pZ]
     refine do_ rfl (.slice xa358 (rootT (pairsN l0 16)).length xc359) (ex_extract rfl rfl) ?_
     simp only [pS, pN, pA, pC, pZ]
     refine do_ rfl (.int .i64 0) (ex_extract rfl rfl) ?_
     simp only [pS, pN, pA, pC, pZ]
     refine do_ rfl (.slice xa358 (rootT (pairsN l0 16)).length xc359) (ex_assign _) ?_
     simp only [pS, pN, pA, pC, pZ]
     refine do_ rfl (.int .i64 0) (ex_assign _) ?_
     simp only [pS, pN, pA, pC, pZ]
     refine wl_nil (hK347 _ _ ?_)
     refine wp_seq_k (fun K360 hK360 => region_wl ?_)
     refine do_ rfl (.slice a112 (pairsN l0 16).length c113) (ex_move _) ?_
     simp only [pS, pN, pA, pC, pZ]
     refine stGives S351 rfl (ex_fn (vs := #[(.slice a112 (pairsN l0 16).length c113)]) (map1 rfl) rfl (ent_22 _ _)) (Root_spec _ _ _ (pairsN l0 16) (S351).sat (hT.at S351.gr.below) (hv111.mono ((((((le125.trans le139).trans le147).trans le159).trans le304).trans le335).trans le353)) (TreeOk.mono (show TreeOk 16 (pairsN l0 16) from pairsN_ok l0 16) (by omega))) ?_
     intro v366 w361 F363 S362 le364 R365
     obtain ⟨x367, rfl, r368⟩ := R365
     obtain ⟨xa369, xc370, rfl, _⟩ := r368.shape
     have r368 : Bs _ (.slice xa369 (rootT (pairsN l0 16)).length xc370) (rootT (pairsN l0 16)) := r368
     simp only [pS, pN, pA, pC, pZ]
     refine do_ rfl (.tuple #[(.slice xa369 (rootT (pairsN l0 16)).length xc370), (.int .i64 0)]) (ex_move _) ?_
     simp only [pS, pN, pA, pC, pZ]
     refine do_ rfl (.slice xa369 (rootT (pairsN l0 16)).length xc370) (ex_extract rfl rfl) ?_
     simp only [pS, pN, pA, pC, pZ]
     refine do_ rfl (.int .i64 0) (ex_extract rfl rfl) ?_
     simp only [pS, pN, pA, pC, pZ]
     refine do_ rfl (.slice xa369 (rootT (pairsN l0 16)).length xc370) (ex_assign _) ?_
     simp only [pS, pN, pA, pC, pZ]
     refine do_ rfl (.int .i64 0) (ex_assign _) ?_
     simp only [pS, pN, pA, pC, pZ]
     refine wl_nil (hK360 _ _ ?_)
     refine wp_seq_k (fun K371 hK371 => region_wl ?_)
     refine do_ rfl (.int .i64 0) (ex_move _) ?_
     simp only [pS, pN, pA, pC, pZ]
     refine do_ rfl (.bool true) (ex_eql (b := true) rfl rfl (by decide)) ?_
     simp only [pS, pN, pA, pC, pZ]
     refine do_ rfl (.bool true) (ex_move _) ?_
     simp only [pS, pN, pA, pC, pZ]
     refine do_ rfl (.int .i64 0) (ex_move _) ?_
     simp only [pS, pN, pA, pC, pZ]
     refine do_ rfl (.bool true) (ex_eql (b := true) rfl rfl (by decide)) ?_
     simp only [pS, pN, pA, pC, pZ]
     refine do_ rfl (.bool true) (ex_pick (b := true) rfl) ?_
     simp only [pS, pN, pA, pC, pZ]
     refine do_ rfl (.bool true) (ex_move _) ?_
     simp only [pS, pN, pA, pC, pZ]
     refine do_ rfl (.slice xa358 (rootT (pairsN l0 16)).length xc359) (ex_move _) ?_
     simp only [pS, pN, pA, pC, pZ]
     refine do_ rfl (.slice xa369 (rootT (pairsN l0 16)).length xc370) (ex_move _) ?_
     simp only [pS, pN, pA, pC, pZ]
     refine stTells (v := (.bool true)) S362 rfl (ex_fn (vs := #[(.slice xa358 (rootT (pairsN l0 16)).length xc359), (.slice xa369 (rootT (pairsN l0 16)).length xc370)]) (map2 rfl rfl) rfl (ent_16 _ _)) (tells_bool (tells_same (same_spec _ _ _ _ (rootT (pairsN l0 16)) (rootT (pairsN l0 16)) (S362).sat (r357.mono le364) r368)) (beq_iff_eq.2 (rfl))) (fun w372 S373 => ?_)
     simp only [pS, pN, pA, pC, pZ]
     refine do_ rfl (.bool true) (ex_pick (b := true) rfl) ?_
     simp only [pS, pN, pA, pC, pZ]
     refine do_ rfl (.bool true) (ex_move _) ?_
     simp only [pS, pN, pA, pC, pZ]
     refine do_ rfl (.slice xa358 (rootT (pairsN l0 16)).length xc359) (ex_move _) ?_
     simp only [pS, pN, pA, pC, pZ]
     refine do_ rfl (.int .i64 (((rootT (pairsN l0 16)).length : Nat) : Int)) (ex_len Tryd.underlying22 rfl) ?_
     simp only [pS, pN, pA, pC, pZ]
     refine do_ rfl (.bool true) (ex_eql (m := (((rootT (pairsN l0 16)).length : Nat) : Int)) (n := (32 : Int)) (b := true) rfl rfl (beq_iff_eq.2 (by rw [rootT_len]; rfl))) ?_
     simp only [pS, pN, pA, pC, pZ]
     refine do_ rfl (.bool true) (ex_pick (b := true) rfl) ?_
     simp only [pS, pN, pA, pC, pZ]
     refine do_ rfl (.bool true) (ex_assign _) ?_
     simp only [pS, pN, pA, pC, pZ]
     refine wl_nil (hK371 _ _ ?_)
     refine wp_ret ?_
     (try simp only [Exit.then, Exit.inBlock, ↓reduceIte, Nat.reduceEqDiff])
     refine bodyPost_ret (v := (.bool true)) ?_ rfl ?_
     ·exact res_t rfl rfl
     ·exact ⟨rfl, S373.gr.below⟩
    ·refine wp_skip ?_
     refine hK328 _ _ ?_
     refine wp_seq_k (fun K374 hK374 => ?_)
     have hyes : (getT (pairsN l0 16) (keyL l2)).isSome = true := by rw [← fnd_get (i := 0)]; simpa using hc330
     have hend : out = (pairsN l0 16) := hmx.had hps.rise okx.rise hyes
     have r375 : Prs F297 (.slice oa (pairsN l0 16).length oc) (pairsN l0 16) := by have h := hout; rwa [hend] at h
     have S376 : St W (whole W) w302 F297 [⟨n117, [(.slice oa (pairsN l0 16).length oc)], 40⟩] [] := by have h := S303; rwa [hend] at h
     have S376 : St W (whole W) w302 F297 [⟨n117, [(.slice oa (pairsN l0 16).length oc)], 40⟩] [] := S376
     refine region_wl ?_
     refine do_ rfl (.slice oa (pairsN l0 16).length oc) (ex_load rfl (load1 (nagg_40 _) (St.cell S376 (i := 0) rfl rfl))) ?_
     simp only [pS, pN, pA, pC, pZ]
     refine stGives S376 rfl (ex_fn (vs := #[(.slice oa (pairsN l0 16).length oc)]) (map1 rfl) rfl (ent_22 _ _)) (Root_spec _ _ _ (pairsN l0 16) (S376).sat (hT.at S376.gr.below) r375 (TreeOk.mono (show TreeOk 16 (pairsN l0 16) from pairsN_ok l0 16) (by omega))) ?_
     intro v382 w377 F379 S378 le380 R381
     obtain ⟨x383, rfl, r384⟩ := R381
     obtain ⟨xa385, xc386, rfl, _⟩ := r384.shape
     have r384 : Bs _ (.slice xa385 (rootT (pairsN l0 16)).length xc386) (rootT (pairsN l0 16)) := r384
     simp only [pS, pN, pA, pC, pZ]
     refine do_ rfl (.tuple #[(.slice xa385 (rootT (pairsN l0 16)).length xc386), (.int .i64 0)]) (ex_move _) ?_
     simp only [pS, pN, pA, pC, pZ]
     refine do_ rfl (.slice xa385 (rootT (pairsN l0 16)).length xc386) (ex_extract rfl rfl) ?_
     simp only [pS, pN, pA, pC, pZ]
     refine do_ rfl (.int .i64 0) (ex_extract rfl rfl) ?_
     simp only [pS, pN, pA, pC, pZ]
     refine do_ rfl (.slice xa385 (rootT (pairsN l0 16)).length xc386) (ex_assign _) ?_
     simp only [pS, pN, pA, pC, pZ]
     refine do_ rfl (.int .i64 0) (ex_assign _) ?_
     simp only [pS, pN, pA, pC, pZ]
     refine wl_nil (hK374 _ _ ?_)
     refine wp_seq_k (fun K387 hK387 => region_wl ?_)
     refine do_ rfl (.slice a112 (pairsN l0 16).length c113) (ex_move _) ?_
     simp only [pS, pN, pA, pC, pZ]
     refine stGives S378 rfl (ex_fn (vs := #[(.slice a112 (pairsN l0 16).length c113)]) (map1 rfl) rfl (ent_22 _ _)) (Root_spec _ _ _ (pairsN l0 16) (S378).sat (hT.at S378.gr.below) (hv111.mono (((((le125.trans le139).trans le147).trans le159).trans le304).trans le380)) (TreeOk.mono (show TreeOk 16 (pairsN l0 16) from pairsN_ok l0 16) (by omega))) ?_
     intro v393 w388 F390 S389 le391 R392
     obtain ⟨x394, rfl, r395⟩ := R392
     obtain ⟨xa396, xc397, rfl, _⟩ := r395.shape
     have r395 : Bs _ (.slice xa396 (rootT (pairsN l0 16)).length xc397) (rootT (pairsN l0 16)) := r395
     simp only [pS, pN, pA, pC, pZ]
     refine do_ rfl (.tuple #[(.slice xa396 (rootT (pairsN l0 16)).length xc397), (.int .i64 0)]) (ex_move _) ?_
     simp only [pS, pN, pA, pC, pZ]
     refine do_ rfl (.slice xa396 (rootT (pairsN l0 16)).length xc397) (ex_extract rfl rfl) ?_
     simp only [pS, pN, pA, pC, pZ]
     refine do_ rfl (.int .i64 0) (ex_extract rfl rfl) ?_
     simp only [pS, pN, pA, pC, pZ]
     refine do_ rfl (.slice xa396 (rootT (pairsN l0 16)).length xc397) (ex_assign _) ?_
     simp only [pS, pN, pA, pC, pZ]
     refine do_ rfl (.int .i64 0) (ex_assign _) ?_
     simp only [pS, pN, pA, pC, pZ]
     refine wl_nil (hK387 _ _ ?_)
     refine wp_seq_k (fun K398 hK398 => region_wl ?_)
     refine do_ rfl (.int .i64 0) (ex_move _) ?_
     simp only [pS, pN, pA, pC, pZ]
     refine do_ rfl (.bool true) (ex_eql (b := true) rfl rfl (by decide)) ?_
     simp only [pS, pN, pA, pC, pZ]
     refine do_ rfl (.bool true) (ex_move _) ?_
     simp only [pS, pN, pA, pC, pZ]
     refine do_ rfl (.int .i64 0) (ex_move _) ?_
     simp only [pS, pN, pA, pC, pZ]
     refine do_ rfl (.bool true) (ex_eql (b := true) rfl rfl (by decide)) ?_
     simp only [pS, pN, pA, pC, pZ]
     refine do_ rfl (.bool true) (ex_pick (b := true) rfl) ?_
     simp only [pS, pN, pA, pC, pZ]
     refine do_ rfl (.bool true) (ex_move _) ?_
     simp only [pS, pN, pA, pC, pZ]
     refine do_ rfl (.slice xa385 (rootT (pairsN l0 16)).length xc386) (ex_move _) ?_
     simp only [pS, pN, pA, pC, pZ]
     refine do_ rfl (.slice xa396 (rootT (pairsN l0 16)).length xc397) (ex_move _) ?_
     simp only [pS, pN, pA, pC, pZ]
     refine stTells (v := (.bool true)) S389 rfl (ex_fn (vs := #[(.slice xa385 (rootT (pairsN l0 16)).length xc386), (.slice xa396 (rootT (pairsN l0 16)).length xc397)]) (map2 rfl rfl) rfl (ent_16 _ _)) (tells_bool (tells_same (same_spec _ _ _ _ (rootT (pairsN l0 16)) (rootT (pairsN l0 16)) (S389).sat (r384.mono le391) r395)) (beq_iff_eq.2 (rfl))) (fun w399 S400 => ?_)
     simp only [pS, pN, pA, pC, pZ]
     refine do_ rfl (.bool true) (ex_pick (b := true) rfl) ?_
     simp only [pS, pN, pA, pC, pZ]
     refine do_ rfl (.bool true) (ex_move _) ?_
     simp only [pS, pN, pA, pC, pZ]
     refine do_ rfl (.slice xa385 (rootT (pairsN l0 16)).length xc386) (ex_move _) ?_
     simp only [pS, pN, pA, pC, pZ]
     refine do_ rfl (.int .i64 (((rootT (pairsN l0 16)).length : Nat) : Int)) (ex_len Tryd.underlying22 rfl) ?_
     simp only [pS, pN, pA, pC, pZ]
     refine do_ rfl (.bool true) (ex_eql (m := (((rootT (pairsN l0 16)).length : Nat) : Int)) (n := (32 : Int)) (b := true) rfl rfl (beq_iff_eq.2 (by rw [rootT_len]; rfl))) ?_
     simp only [pS, pN, pA, pC, pZ]
     refine do_ rfl (.bool true) (ex_pick (b := true) rfl) ?_
     simp only [pS, pN, pA, pC, pZ]
     refine do_ rfl (.bool true) (ex_assign _) ?_
     simp only [pS, pN, pA, pC, pZ]
     refine wl_nil (hK398 _ _ ?_)
     refine wp_ret ?_
     (try simp only [Exit.then, Exit.inBlock, ↓reduceIte, Nat.reduceEqDiff])
     refine bodyPost_ret (v := (.bool true)) ?_ rfl ?_
     ·exact res_t rfl rfl
     ·exact ⟨rfl, S400.gr.below⟩
 ·refine do_ rfl (.bool false) (ex_lss (m := ((i : Nat) : Int)) (n := ((l1.length : Nat) : Int)) (b := false) rfl rfl (decide_eq_false (by omega))) ?_
  simp only [pS, pN, pA, pC, pZ]
  refine do_ rfl (.bool false) (ex_move _) ?_
  simp only [pS, pN, pA, pC, pZ]
  refine doN (wanted_no rfl rfl rfl (c := false) rfl (by decide)) ?_
  simp only [pS, pN, pA, pC, pZ]
  refine doN (wanted_no rfl rfl rfl (c := false) rfl (by decide)) ?_
  simp only [pS, pN, pA, pC, pZ]
  refine do_ rfl (.bool false) (ex_pick (b := false) rfl) ?_
  simp only [pS, pN, pA, pC, pZ]
  refine do_ rfl (.bool false) (ex_move _) ?_
  simp only [pS, pN, pA, pC, pZ]
  refine doN (wanted_no rfl rfl rfl (c := false) rfl (by decide)) ?_
  simp only [pS, pN, pA, pC, pZ]
  refine doN (wanted_no rfl rfl rfl (c := false) rfl (by decide)) ?_
  simp only [pS, pN, pA, pC, pZ]
  refine doN (wanted_no rfl rfl rfl (c := false) rfl (by decide)) ?_
  simp only [pS, pN, pA, pC, pZ]
  refine do_ rfl (.bool false) (ex_pick (b := false) rfl) ?_
  simp only [pS, pN, pA, pC, pZ]
  refine wl_nil (hK162 _ _ ?_)
  refine wp_cond_false rfl ?_
  refine wp_exit ?_
  refine hK150 _ _ ?_
  refine wp_seq_k (fun K401 hK401 => ?_)
  refine wp_seq_k (fun K402 hK402 => region_wl ?_)
  refine do_ rfl (.int .i64 0) (ex_assign _) ?_
  simp only [pS, pN, pA, pC, pZ]
  refine wl_nil (hK402 _ _ ?_)
  refine wp_block ?_
  refine wp_loop_g (fun mm aa w405 => ∃ (j : Nat) (out : List Pr) (oa : Option Addr) (oc : Nat) (F403 : Fz) (u404 : Nat → Value), mm = (pairsN l0 16).length - j ∧ u404 = slots aa ∧ aa = ⟨#[(.slice a0 l0.length c0), (.slice a1 l1.length c1), (.slice a2 l2.length c2), undef, undef, undef, (u404 6), (.slice a112 (pairsN l0 16).length c113), (.pointer (some ⟨n117, 0, none⟩)), (.func (.func 28) #[] #[(.pointer (some ⟨n117, 0, none⟩))]), (.slice xa128 (keyL l2).length xc129), (.int .i64 (((fndN (keyL l2) 0 (pairsN l0 16)).1 : Nat) : Int)), (.bool (fndN (keyL l2) 0 (pairsN l0 16)).2), (.int .i64 ((i : Nat) : Int)), (.int .i64 ((j : Nat) : Int)), undef, undef, undef, undef, undef, undef, (.slice a0 l0.length c0), (.slice a112 (pairsN l0 16).length c113), (.func (.func 28) #[] #[(.pointer (some ⟨n117, 0, none⟩))]), (.slice a2 l2.length c2), (.slice xa128 (keyL l2).length xc129), (.tuple #[(.int .i64 (((fndN (keyL l2) 0 (pairsN l0 16)).1 : Nat) : Int)), (.bool (fndN (keyL l2) 0 (pairsN l0 16)).2)]), (.slice a112 (pairsN l0 16).length c113), (.slice xa128 (keyL l2).length xc129), (.tuple #[(.int .i64 (((fndN (keyL l2) 0 (pairsN l0 16)).1 : Nat) : Int)), (.bool (fndN (keyL l2) 0 (pairsN l0 16)).2)]), (.int .i64 (((fndN (keyL l2) 0 (pairsN l0 16)).1 : Nat) : Int)), (.bool (fndN (keyL l2) 0 (pairsN l0 16)).2), (.func (.func 28) #[] #[(.pointer (some ⟨n117, 0, none⟩))]), (.slice xa128 (keyL l2).length xc129), (.slice (some ⟨n135, 0, none⟩) 1 1), (.agg #[(.slice xa128 (keyL l2).length xc129), (.slice (some ⟨n135, 0, none⟩) 1 1)]), (.bool true), (.bool false), (.int .i64 ((i : Nat) : Int)), (.slice a1 l1.length c1), (.int .i64 ((l1.length : Nat) : Int)), (.bool false), (.bool false), undef, undef, (.bool false), (.bool false), undef, undef, undef, (.bool false), (u153 51), (u153 52), (u153 53), (u153 54), (u153 55), (u153 56), (u153 57), (u153 58), (u153 59), (u153 60), (u153 61), (u153 62), (u153 63), (u153 64), (u153 65), (u404 66), (u404 67), (u404 68), (u404 69), (u404 70), (u404 71), (u404 72), (u404 73), (u404 74), (u404 75), (u404 76), (u404 77), (u404 78), undef, undef, undef, undef, undef, undef, undef, undef, undef, undef, undef, undef, undef, undef, undef, undef, undef, undef, undef, undef, undef, undef, undef, undef, undef, undef, undef, undef, undef, undef, undef, undef, undef, undef, undef, undef, undef], []⟩ ∧ St W (whole W) w405 F403 [⟨n117, [(.slice oa out.length oc)], 40⟩] [] ∧ Le F152 F403 ∧ (j ≤ (pairsN l0 16).length) ∧ (Prs F403 (.slice oa out.length oc) out) ∧ (TreeOk (21 + j) out) ∧ (Mixed (keyL l2) (pairsN l0 16) j out)) _ ⟨0, out, oa, oc, F152, _, rfl, rfl, rfl, S158, Le.refl _, (by omega), hout, (okx.mono (by omega)), hmx⟩ ?_
  rintro m406 a407 w408 ⟨j, out, oa, oc, F403, u404, rfl, -, rfl, S409, le410, hj, hout, okx, hmx⟩ K411 hK411
  refine wp_seq_k (fun K412 hK412 => ?_)
  refine wp_seq_k (fun K413 hK413 => region_wl ?_)
  refine do_ rfl (.int .i64 ((j : Nat) : Int)) (ex_move _) ?_
  simp only [pS, pN, pA, pC, pZ]
  refine do_ rfl (.slice a112 (pairsN l0 16).length c113) (ex_move _) ?_
  simp only [pS, pN, pA, pC, pZ]
  refine do_ rfl (.int .i64 (((pairsN l0 16).length : Nat) : Int)) (ex_len Tryd.underlying40 rfl) ?_
  simp only [pS, pN, pA, pC, pZ]
  by_cases hc69 : j < (pairsN l0 16).length
  ·refine do_ rfl (.bool true) (ex_lss (m := ((j : Nat) : Int)) (n := (((pairsN l0 16).length : Nat) : Int)) (b := true) rfl rfl (decide_eq_true (by omega))) ?_
   simp only [pS, pN, pA, pC, pZ]
   refine wl_nil (hK413 _ _ ?_)
   refine wp_cond_true rfl ?_
   refine wp_skip ?_
   refine hK412 _ _ ?_
   refine wp_seq_k (fun K414 hK414 => ?_)
   refine wp_block ?_
   refine wp_seq_k (fun K415 hK415 => ?_)
   obtain ⟨p, hp⟩ : ∃ p, (pairsN l0 16)[j]? = some p := ⟨(pairsN l0 16)[j], List.getElem?_eq_getElem hc69⟩
   have hpp := hps.ok p (List.mem_of_getElem? hp)
   obtain ⟨b416, o417, ha418, xa420, xc421, xa424, xc425, c419, c423, r422, r426⟩ := Prs.get (hv111.mono ((((le125.trans le139).trans le147).trans le159).trans le410)) hp
   refine region_wl ?_
   refine do_ rfl (.func (.func 28) #[] #[(.pointer (some ⟨n117, 0, none⟩))]) (ex_move _) ?_
   simp only [pS, pN, pA, pC, pZ]
   refine do_ rfl (.slice a112 (pairsN l0 16).length c113) (ex_move _) ?_
   simp only [pS, pN, pA, pC, pZ]
   refine do_ rfl (.int .i64 ((j : Nat) : Int)) (ex_move _) ?_
   simp only [pS, pN, pA, pC, pZ]
   refine do_ rfl (.pointer (some ⟨b416, o417 + j * 2, none⟩)) (ex_at (i := j) (sz := 2) Tryd.underlying40 (sizeof_38 _) rfl ha418 rfl (by omega) rfl) ?_
   simp only [pS, pN, pA, pC, pZ]
   refine do_ rfl (.agg #[(.slice xa420 p.1.length xc421), (.slice xa424 p.2.length xc425)]) (ex_load rfl (loadN (cs := [(.slice xa420 p.1.length xc421), (.slice xa424 p.2.length xc425)]) Tryd.underlying38 rfl (size_38) (range2 (St.fz S409 c419) (St.fz S409 c423)))) ?_
   simp only [pS, pN, pA, pC, pZ]
   refine stPut rfl (ex_fv (fs := #[]) (cs := #[(.pointer (some ⟨n117, 0, none⟩))]) (vs := #[(.agg #[(.slice xa420 p.1.length xc421), (.slice xa424 p.2.length xc425)]), (.pointer (some ⟨n117, 0, none⟩))]) rfl (vmap (fs := #[]) (cs := #[(.pointer (some ⟨n117, 0, none⟩))]) (xs := #[(.agg #[(.slice xa420 p.1.length xc421), (.slice xa424 p.2.length xc425)])]) (map1 rfl) (by simp)) (ent_28 _ _)) (put1_spec S409 hout r422 r426 okx (by omega) hpp) ?_
   intro a427 c428 w429 F430 le431 S432 r433
   simp only [pS, pN, pA, pC, pZ]
   have S432 : St W (whole W) w429 F430 [⟨n117, [(.slice a427 (putT out p.1 p.2).length c428)], 40⟩] [] := S432
   refine do_ rfl (.bool false) (ex_not (b := true) rfl rfl) ?_
   simp only [pS, pN, pA, pC, pZ]
   refine wl_nil (hK415 _ _ ?_)
   refine wp_cond_false rfl ?_
   refine wp_skip ?_
   refine hK414 _ _ ?_
   refine region_wl ?_
   refine do_ rfl (.int .i64 ((j : Nat) : Int)) (ex_move _) ?_
   simp only [pS, pN, pA, pC, pZ]
   refine do_ rfl (.int .i64 (((j + 1) : Nat) : Int)) (ex_add (m := ((j : Nat) : Int)) (n := (1 : Int)) (r := (((j + 1) : Nat) : Int)) rfl rfl (by omega) (by omega) (by omega)) ?_
   simp only [pS, pN, pA, pC, pZ]
   refine do_ rfl (.int .i64 (((j + 1) : Nat) : Int)) (ex_assign _) ?_
   simp only [pS, pN, pA, pC, pZ]
   refine wl_nil ?_
   exact hK411 _ _ _ (by omega) ⟨(j + 1), (putT out p.1 p.2), a427, c428, F430, _, rfl, rfl, rfl, S432, (le410.trans le431), (by omega), r433, (put_ok okx (by omega) hpp).2.2, ((hmx.put okx.rise hps.rise hp).2 rfl)⟩
  ·refine do_ rfl (.bool false) (ex_lss (m := ((j : Nat) : Int)) (n := (((pairsN l0 16).length : Nat) : Int)) (b := false) rfl rfl (decide_eq_false (by omega))) ?_
   simp only [pS, pN, pA, pC, pZ]
   refine wl_nil (hK413 _ _ ?_)
   refine wp_cond_false rfl ?_
   refine wp_exit ?_
   refine hK401 _ _ ?_
   refine wp_seq_k (fun K434 hK434 => ?_)
   refine wp_seq_k (fun K435 hK435 => ?_)
   obtain rfl : j = (pairsN l0 16).length := by omega
   refine region_wl ?_
   refine do_ rfl (.bool (fndN (keyL l2) 0 (pairsN l0 16)).2) (ex_move _) ?_
   simp only [pS, pN, pA, pC, pZ]
   refine do_ rfl (.bool (!(fndN (keyL l2) 0 (pairsN l0 16)).2)) (ex_not rfl rfl) ?_
   simp only [pS, pN, pA, pC, pZ]
   refine wl_nil (hK435 _ _ ?_)
   refine wp_cond_split rfl (fun hc436 => ?_) (fun hc436 => ?_)
   ·refine wp_seq_k (fun K437 hK437 => ?_)
    have hno : (getT (pairsN l0 16) (keyL l2)).isSome = false := by rw [← fnd_get (i := 0)]; simpa using hc436
    refine region_wl ?_
    refine do_ rfl (.slice oa out.length oc) (ex_load rfl (load1 (nagg_40 _) (St.cell S409 (i := 0) rfl rfl))) ?_
    simp only [pS, pN, pA, pC, pZ]
    refine do_ rfl (.slice xa128 (keyL l2).length xc129) (ex_move _) ?_
    simp only [pS, pN, pA, pC, pZ]
    refine stGives S409 rfl (ex_fn (vs := #[(.slice oa out.length oc), (.slice xa128 (keyL l2).length xc129)]) (map2 rfl rfl) rfl (ent_31 _ _)) (delOk_spec _ _ _ _ out (keyL l2) (S409).sat hout (R126.mono (((le139.trans le147).trans le159).trans le410)) (TreeOk.mono (show TreeOk 60 out from okx.mono (by omega)) (by omega)) (keyL_len l2)) ?_
    intro v443 w438 F440 S439 le441 R442
    obtain ⟨_, rfl, r446⟩ := R442
    obtain ⟨a444, c445, rfl, h447, h448⟩ := Sl.shape r446
    unfold maxLen at h448
    have h447 : (delT out (keyL l2)).length ≤ c445 := h447
    have r446 : Prs _ (.slice a444 (delT out (keyL l2)).length c445) (delT out (keyL l2)) := r446
    simp only [pS, pN, pA, pC, pZ]
    refine do_ rfl (.tuple #[(.slice a444 (delT out (keyL l2)).length c445), (.int .i64 0)]) (ex_move _) ?_
    simp only [pS, pN, pA, pC, pZ]
    refine do_ rfl (.slice a444 (delT out (keyL l2)).length c445) (ex_extract rfl rfl) ?_
    simp only [pS, pN, pA, pC, pZ]
    refine do_ rfl (.int .i64 0) (ex_extract rfl rfl) ?_
    simp only [pS, pN, pA, pC, pZ]
    refine do_ rfl (.slice a444 (delT out (keyL l2)).length c445) (ex_assign _) ?_
    simp only [pS, pN, pA, pC, pZ]
    refine do_ rfl (.int .i64 0) (ex_assign _) ?_
    simp only [pS, pN, pA, pC, pZ]
    refine wl_nil (hK437 _ _ ?_)
    refine wp_seq_k (fun K449 hK449 => ?_)
    refine wp_seq_k (fun K450 hK450 => region_wl ?_)
    refine do_ rfl (.int .i64 0) (ex_move _) ?_
    simp only [pS, pN, pA, pC, pZ]
    refine do_ rfl (.bool false) (ex_neq (b := false) rfl rfl (by decide)) ?_
    simp only [pS, pN, pA, pC, pZ]
    refine wl_nil (hK450 _ _ ?_)
    refine wp_cond_false rfl ?_
    refine wp_skip ?_
    refine hK449 _ _ ?_
    refine region_wl ?_
    refine do_ rfl (.slice a444 (delT out (keyL l2)).length c445) (ex_move _) ?_
    simp only [pS, pN, pA, pC, pZ]
    refine stStore (i := 0) (v := (.slice a444 (delT out (keyL l2)).length c445)) S439 rfl rfl rfl rfl (size_40) (allc1 rfl) (Nat.le_of_ble_eq_true rfl) (fun w451 S452 => ?_)
    simp only [pS, pN, pA, pC, pZ]
    have S452 : St W (whole W) w451 F440 [⟨n117, [(.slice a444 (delT out (keyL l2)).length c445)], 40⟩] [] := S452
    refine wl_nil (hK434 _ _ ?_)
    refine wp_seq_k (fun K453 hK453 => ?_)
    have hend : delT out (keyL l2) = (pairsN l0 16) := hmx.not hps.rise okx.rise hno
    have r454 : Prs F440 (.slice a444 (pairsN l0 16).length c445) (pairsN l0 16) := by have h := r446; rwa [hend] at h
    have S455 : St W (whole W) w451 F440 [⟨n117, [(.slice a444 (pairsN l0 16).length c445)], 40⟩] [] := by have h := S452; rwa [hend] at h
    have S455 : St W (whole W) w451 F440 [⟨n117, [(.slice a444 (pairsN l0 16).length c445)], 40⟩] [] := S455
    refine region_wl ?_
    refine do_ rfl (.slice a444 (pairsN l0 16).length c445) (ex_load rfl (load1 (nagg_40 _) (St.cell S455 (i := 0) rfl rfl))) ?_
    simp only [pS, pN, pA, pC, pZ]
    refine stGives S455 rfl (ex_fn (vs := #[(.slice a444 (pairsN l0 16).length c445)]) (map1 rfl) rfl (ent_22 _ _)) (Root_spec _ _ _ (pairsN l0 16) (S455).sat (hT.at S455.gr.below) r454 (TreeOk.mono (show TreeOk 16 (pairsN l0 16) from pairsN_ok l0 16) (by omega))) ?_
    intro v461 w456 F458 S457 le459 R460
    obtain ⟨x462, rfl, r463⟩ := R460
    obtain ⟨xa464, xc465, rfl, _⟩ := r463.shape
    have r463 : Bs _ (.slice xa464 (rootT (pairsN l0 16)).length xc465) (rootT (pairsN l0 16)) := r463
    simp only [pS, pN, pA, pC, pZ]
    refine do_ rfl (.tuple #[(.slice xa464 (rootT (pairsN l0 16)).length xc465), (.int .i64 0)]) (ex_move _) ?_
    simp only [pS, pN, pA, pC, pZ]
    refine do_ rfl (.slice xa464 (rootT (pairsN l0 16)).length xc465) (ex_extract rfl rfl) ?_
    simp only [pS, pN, pA, pC, pZ]
    refine do_ rfl (.int .i64 0) (ex_extract rfl rfl) ?_
    simp only [pS, pN, pA, pC, pZ]
    refine do_ rfl (.slice xa464 (rootT (pairsN l0 16)).length xc465) (ex_assign _) ?_
    simp only [pS, pN, pA, pC, pZ]
    refine do_ rfl (.int .i64 0) (ex_assign _) ?_
    simp only [pS, pN, pA, pC, pZ]
    refine wl_nil (hK453 _ _ ?_)
    refine wp_seq_k (fun K466 hK466 => region_wl ?_)
    refine do_ rfl (.slice a112 (pairsN l0 16).length c113) (ex_move _) ?_
    simp only [pS, pN, pA, pC, pZ]
    refine stGives S457 rfl (ex_fn (vs := #[(.slice a112 (pairsN l0 16).length c113)]) (map1 rfl) rfl (ent_22 _ _)) (Root_spec _ _ _ (pairsN l0 16) (S457).sat (hT.at S457.gr.below) (hv111.mono ((((((le125.trans le139).trans le147).trans le159).trans le410).trans le441).trans le459)) (TreeOk.mono (show TreeOk 16 (pairsN l0 16) from pairsN_ok l0 16) (by omega))) ?_
    intro v472 w467 F469 S468 le470 R471
    obtain ⟨x473, rfl, r474⟩ := R471
    obtain ⟨xa475, xc476, rfl, _⟩ := r474.shape
    have r474 : Bs _ (.slice xa475 (rootT (pairsN l0 16)).length xc476) (rootT (pairsN l0 16)) := r474
    simp only [pS, pN, pA, pC, pZ]
    refine do_ rfl (.tuple #[(.slice xa475 (rootT (pairsN l0 16)).length xc476), (.int .i64 0)]) (ex_move _) ?_
    simp only [pS, pN, pA, pC, pZ]
    refine do_ rfl (.slice xa475 (rootT (pairsN l0 16)).length xc476) (ex_extract rfl rfl) ?_
    simp only [pS, pN, pA, pC, pZ]
    refine do_ rfl (.int .i64 0) (ex_extract rfl rfl) ?_
    simp only [pS, pN, pA, pC, pZ]
    refine do_ rfl (.slice xa475 (rootT (pairsN l0 16)).length xc476) (ex_assign _) ?_
    simp only [pS, pN, pA, pC, pZ]
    refine do_ rfl (.int .i64 0) (ex_assign _) ?_
    simp only [pS, pN, pA, pC, pZ]
    refine wl_nil (hK466 _ _ ?_)
    refine wp_seq_k (fun K477 hK477 => region_wl ?_)
    refine do_ rfl (.int .i64 0) (ex_move _) ?_
    simp only [pS, pN, pA, pC, pZ]
    refine do_ rfl (.bool true) (ex_eql (b := true) rfl rfl (by decide)) ?_
    simp only [pS, pN, pA, pC, pZ]
    refine do_ rfl (.bool true) (ex_move _) ?_
    simp only [pS, pN, pA, pC, pZ]
    refine do_ rfl (.int .i64 0) (ex_move _) ?_
    simp only [pS, pN, pA, pC, pZ]
    refine do_ rfl (.bool true) (ex_eql (b := true) rfl rfl (by decide)) ?_
    simp only [pS, pN, pA, pC, pZ]
    refine do_ rfl (.bool true) (ex_pick (b := true) rfl) ?_
    simp only [pS, pN, pA, pC, pZ]
    refine do_ rfl (.bool true) (ex_move _) ?_
    simp only [pS, pN, pA, pC, pZ]
    refine do_ rfl (.slice xa464 (rootT (pairsN l0 16)).length xc465) (ex_move _) ?_
    simp only [pS, pN, pA, pC, pZ]
    refine do_ rfl (.slice xa475 (rootT (pairsN l0 16)).length xc476) (ex_move _) ?_
    simp only [pS, pN, pA, pC, pZ]
    refine stTells (v := (.bool true)) S468 rfl (ex_fn (vs := #[(.slice xa464 (rootT (pairsN l0 16)).length xc465), (.slice xa475 (rootT (pairsN l0 16)).length xc476)]) (map2 rfl rfl) rfl (ent_16 _ _)) (tells_bool (tells_same (same_spec _ _ _ _ (rootT (pairsN l0 16)) (rootT (pairsN l0 16)) (S468).sat (r463.mono le470) r474)) (beq_iff_eq.2 (rfl))) (fun w478 S479 => ?_)
    simp only [pS, pN, pA, pC, pZ]
    refine do_ rfl (.bool true) (ex_pick (b := true) rfl) ?_
    simp only [pS, pN, pA, pC, pZ]
    refine do_ rfl (.bool true) (ex_move _) ?_
    simp only [pS, pN, pA, pC, pZ]
    refine do_ rfl (.slice xa464 (rootT (pairsN l0 16)).length xc465) (ex_move _) ?_
    simp only [pS, pN, pA, pC, pZ]
    refine do_ rfl (.int .i64 (((rootT (pairsN l0 16)).length : Nat) : Int)) (ex_len Tryd.underlying22 rfl) ?_
    simp only [pS, pN, pA, pC, pZ]
    refine do_ rfl (.bool true) (ex_eql (m := (((rootT (pairsN l0 16)).length : Nat) : Int)) (n := (32 : Int)) (b := true) rfl rfl (beq_iff_eq.2 (by rw [rootT_len]; rfl))) ?_
    simp only [pS, pN, pA, pC, pZ]
    refine do_ rfl (.bool true) (ex_pick (b := true) rfl) ?_
    simp only [pS, pN, pA, pC, pZ]
    refine do_ rfl (.bool true) (ex_assign _) ?_
    simp only [pS, pN, pA, pC, pZ]
    refine wl_nil (hK477 _ _ ?_)
    refine wp_ret ?_
    (try simp only [Exit.then, Exit.inBlock, ↓reduceIte, Nat.reduceEqDiff])
    refine bodyPost_ret (v := (.bool true)) ?_ rfl ?_
    ·exact res_t rfl rfl
    ·exact ⟨rfl, S479.gr.below⟩
   ·refine wp_skip ?_
    refine hK434 _ _ ?_
    refine wp_seq_k (fun K480 hK480 => ?_)
    have hyes : (getT (pairsN l0 16) (keyL l2)).isSome = true := by rw [← fnd_get (i := 0)]; simpa using hc436
    have hend : out = (pairsN l0 16) := hmx.had hps.rise okx.rise hyes
    have r481 : Prs F403 (.slice oa (pairsN l0 16).length oc) (pairsN l0 16) := by have h := hout; rwa [hend] at h
    have S482 : St W (whole W) w408 F403 [⟨n117, [(.slice oa (pairsN l0 16).length oc)], 40⟩] [] := by have h := S409; rwa [hend] at h
    have S482 : St W (whole W) w408 F403 [⟨n117, [(.slice oa (pairsN l0 16).length oc)], 40⟩] [] := S482
    refine region_wl ?_
    refine do_ rfl (.slice oa (pairsN l0 16).length oc) (ex_load rfl (load1 (nagg_40 _) (St.cell S482 (i := 0) rfl rfl))) ?_
    simp only [pS, pN, pA, pC, pZ]
    refine stGives S482 rfl (ex_fn (vs := #[(.slice oa (pairsN l0 16).length oc)]) (map1 rfl) rfl (ent_22 _ _)) (Root_spec _ _ _ (pairsN l0 16) (S482).sat (hT.at S482.gr.below) r481 (TreeOk.mono (show TreeOk 16 (pairsN l0 16) from pairsN_ok l0 16) (by omega))) ?_
    intro v488 w483 F485 S484 le486 R487
    obtain ⟨x489, rfl, r490⟩ := R487
    obtain ⟨xa491, xc492, rfl, _⟩ := r490.shape
    have r490 : Bs _ (.slice xa491 (rootT (pairsN l0 16)).length xc492) (rootT (pairsN l0 16)) := r490
    simp only [pS, pN, pA, pC, pZ]
    refine do_ rfl (.tuple #[(.slice xa491 (rootT (pairsN l0 16)).length xc492), (.int .i64 0)]) (ex_move _) ?_
    simp only [pS, pN, pA, pC, pZ]
    refine do_ rfl (.slice xa491 (rootT (pairsN l0 16)).length xc492) (ex_extract rfl rfl) ?_
    simp only [pS, pN, pA, pC, pZ]
    refine do_ rfl (.int .i64 0) (ex_extract rfl rfl) ?_
    simp only [pS, pN, pA, pC, pZ]
    refine do_ rfl (.slice xa491 (rootT (pairsN l0 16)).length xc492) (ex_assign _) ?_
    simp only [pS, pN, pA, pC, pZ]
    refine do_ rfl (.int .i64 0) (ex_assign _) ?_
    simp only [pS, pN, pA, pC, pZ]
    refine wl_nil (hK480 _ _ ?_)
    refine wp_seq_k (fun K493 hK493 => region_wl ?_)
    refine do_ rfl (.slice a112 (pairsN l0 16).length c113) (ex_move _) ?_
    simp only [pS, pN, pA, pC, pZ]
    refine stGives S484 rfl (ex_fn (vs := #[(.slice a112 (pairsN l0 16).length c113)]) (map1 rfl) rfl (ent_22 _ _)) (Root_spec _ _ _ (pairsN l0 16) (S484).sat (hT.at S484.gr.below) (hv111.mono (((((le125.trans le139).trans le147).trans le159).trans le410).trans le486)) (TreeOk.mono (show TreeOk 16 (pairsN l0 16) from pairsN_ok l0 16) (by omega))) ?_
    intro v499 w494 F496 S495 le497 R498
    obtain ⟨x500, rfl, r501⟩ := R498
    obtain ⟨xa502, xc503, rfl, _⟩ := r501.shape
    have r501 : Bs _ (.slice xa502 (rootT (pairsN l0 16)).length xc503) (rootT (pairsN l0 16)) := r501
    simp only [pS, pN, pA, pC, pZ]
    refine do_ rfl (.tuple #[(.slice xa502 (rootT (pairsN l0 16)).length xc503), (.int .i64 0)]) (ex_move _) ?_
    simp only [pS, pN, pA, pC, pZ]
    refine do_ rfl (.slice xa502 (rootT (pairsN l0 16)).length xc503) (ex_extract rfl rfl) ?_
    simp only [pS, pN, pA, pC, pZ]
    refine do_ rfl (.int .i64 0) (ex_extract rfl rfl) ?_
    simp only [pS, pN, pA, pC, pZ]
    refine do_ rfl (.slice xa502 (rootT (pairsN l0 16)).length xc503) (ex_assign _) ?_
    simp only [pS, pN, pA, pC, pZ]
    refine do_ rfl (.int .i64 0) (ex_assign _) ?_
    simp only [pS, pN, pA, pC, pZ]
    refine wl_nil (hK493 _ _ ?_)
    refine wp_seq_k (fun K504 hK504 => region_wl ?_)
    refine do_ rfl (.int .i64 0) (ex_move _) ?_
    simp only [pS, pN, pA, pC, pZ]
    refine do_ rfl (.bool true) (ex_eql (b := true) rfl rfl (by decide)) ?_
    simp only [pS, pN, pA, pC, pZ]
    refine do_ rfl (.bool true) (ex_move _) ?_
    simp only [pS, pN, pA, pC, pZ]
    refine do_ rfl (.int .i64 0) (ex_move _) ?_
    simp only [pS, pN, pA, pC, pZ]
    refine do_ rfl (.bool true) (ex_eql (b := true) rfl rfl (by decide)) ?_
    simp only [pS, pN, pA, pC, pZ]
    refine do_ rfl (.bool true) (ex_pick (b := true) rfl) ?_
    simp only [pS, pN, pA, pC, pZ]
    refine do_ rfl (.bool true) (ex_move _) ?_
    simp only [pS, pN, pA, pC, pZ]
    refine do_ rfl (.slice xa491 (rootT (pairsN l0 16)).length xc492) (ex_move _) ?_
    simp only [pS, pN, pA, pC, pZ]
    refine do_ rfl (.slice xa502 (rootT (pairsN l0 16)).length xc503) (ex_move _) ?_
    simp only [pS, pN, pA, pC, pZ]
    refine stTells (v := (.bool true)) S495 rfl (ex_fn (vs := #[(.slice xa491 (rootT (pairsN l0 16)).length xc492), (.slice xa502 (rootT (pairsN l0 16)).length xc503)]) (map2 rfl rfl) rfl (ent_16 _ _)) (tells_bool (tells_same (same_spec _ _ _ _ (rootT (pairsN l0 16)) (rootT (pairsN l0 16)) (S495).sat (r490.mono le497) r501)) (beq_iff_eq.2 (rfl))) (fun w505 S506 => ?_)
    simp only [pS, pN, pA, pC, pZ]
    refine do_ rfl (.bool true) (ex_pick (b := true) rfl) ?_
    simp only [pS, pN, pA, pC, pZ]
    refine do_ rfl (.bool true) (ex_move _) ?_
    simp only [pS, pN, pA, pC, pZ]
    refine do_ rfl (.slice xa491 (rootT (pairsN l0 16)).length xc492) (ex_move _) ?_
    simp only [pS, pN, pA, pC, pZ]
    refine do_ rfl (.int .i64 (((rootT (pairsN l0 16)).length : Nat) : Int)) (ex_len Tryd.underlying22 rfl) ?_
    simp only [pS, pN, pA, pC, pZ]
    refine do_ rfl (.bool true) (ex_eql (m := (((rootT (pairsN l0 16)).length : Nat) : Int)) (n := (32 : Int)) (b := true) rfl rfl (beq_iff_eq.2 (by rw [rootT_len]; rfl))) ?_
    simp only [pS, pN, pA, pC, pZ]
    refine do_ rfl (.bool true) (ex_pick (b := true) rfl) ?_
    simp only [pS, pN, pA, pC, pZ]
    refine do_ rfl (.bool true) (ex_assign _) ?_
    simp only [pS, pN, pA, pC, pZ]
    refine wl_nil (hK504 _ _ ?_)
    refine wp_ret ?_
    (try simp only [Exit.then, Exit.inBlock, ↓reduceIte, Nat.reduceEqDiff])
    refine bodyPost_ret (v := (.bool true)) ?_ rfl ?_
    ·exact res_t rfl rfl
    ·exact ⟨rfl, S506.gr.below⟩
end Go.Proofs.YtcanckliggcllaaDoor
