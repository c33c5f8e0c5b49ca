/- Rules, plain laws and walks: S9 X1 -/
import Derived.Test.YticbfdhdipfjmaaDoorBX7
namespace Go.Proofs.YticbfdhdipfjmaaDoor
open Go.RowKit
set_option linter.unusedVariables false
section
variable {P : Program} {ops : Array Oper} {md : Region.Mode} {C : World → Prop} {Sp : Nat → OpSpec}
theorem wpAnyG_firstP (hC : ∃ w, C w) {i : Nat} {oi : Oper} {T : List Nat} {L : Array Bool → Act → Vals → Prop} (hi : ops[i]? = some oi) (hsel : ∀ (j : Nat) (o : Oper) cs b, ops[j]? = some o → o.op ≠ .select cs b)
    (hdone : ∀ listed a Vs, L listed a Vs → ∀ j ∈ Region.ready md ops listed, j ∈ T) (hT : ∀ t ∈ T, ancB md ops ops.size t i = true) :
    ∀ (f : Nat) (listed : Array Bool) (a : Act) (Vs : Vals), HeadInv md ops ops.size listed →
      (∀ j oj, ops[j]? = some oj → j ≠ i → listed.getD j true = false → (∀ e ∈ oj.after, Region.binds md e = true → e.on ≠ i) → oi.apart ops oj = true) →
      i ∈ Region.ready md ops listed →
      gOp P md ops C Sp i (wpAnyG P md ops C Sp ops.size L f (listed.setIfInBounds i true)) a Vs → wpAnyG P md ops C Sp ops.size L (f + 1) listed a Vs := by
  intro f
  induction f with
  | zero =>
    intro listed a Vs inv _ hr H
    have hun := (mem_ready.1 hr).1
    refine ⟨fun h => (by rw [h] at hr; cases hr), fun j hj => ?_⟩
    obtain ⟨_, oj, hoj, _⟩ := mem_ready.1 hj
    have hjn : j < ops.size := (Array.getElem?_eq_some_iff.1 hoj).1
    refine ⟨hjn, ?_⟩
    by_cases hji : j = i
    · subst hji; exact H
    · obtain ⟨a', Vs', hL⟩ := gOp_some H
      have h1 := hdone _ _ _ hL j (ready_mono hj hji)
      have h2 := anc_ready inv hj _ _ (hT j h1)
      rw [getD_both hun] at h2
      cases h2
  | succ f ih =>
    intro listed a Vs inv hfree hr H
    have hun := (mem_ready.1 hr).1
    refine ⟨fun h => (by rw [h] at hr; cases hr), fun j hj => ?_⟩
    obtain ⟨hjun, oj, hoj, hall⟩ := mem_ready.1 hj
    have hjn : j < ops.size := (Array.getElem?_eq_some_iff.1 hoj).1
    refine ⟨hjn, ?_⟩
    by_cases hji : j = i
    · subst hji; exact H
    · have hnot : ∀ e ∈ oj.after, Region.binds md e = true → e.on ≠ i := fun e he hb heq => by
        have h1 := hall e he hb
        rw [heq, getD_both hun] at h1
        cases h1
      have a1 : ancB md ops ops.size j i = false := by
        cases hx : ancB md ops ops.size j i with
        | false => rfl
        | true => have := anc_ready inv hj _ _ hx; rw [getD_both hun] at this; cases this
      have a2 : ancB md ops ops.size i j = false := by
        cases hx : ancB md ops ops.size i j with
        | false => rfl
        | true => have := anc_ready inv hr _ _ hx; rw [getD_both hjun] at this; cases this
      have H1 : gOp P md ops C Sp i (gOp P md ops C Sp j (wpAnyG P md ops C Sp ops.size L f ((listed.setIfInBounds i true).setIfInBounds j true))) a Vs :=
        gOp_mono (fun a' Vs' h => (h.2 j (ready_mono hj hji)).2) H
      have H2 := gOp_swap hC hi hoj (Ne.symm hji) (hfree j oj hoj hji hjun hnot) (fun cs b => hsel i oi cs b hi) (fun cs b => hsel j oj cs b hoj) a1 a2 H1
      have hfree' : ∀ k ok, ops[k]? = some ok → k ≠ i → (listed.setIfInBounds j true).getD k true = false →
          (∀ e ∈ ok.after, Region.binds md e = true → e.on ≠ i) → oi.apart ops ok = true := fun k ok hk hki hun' hno => by
        refine hfree k ok hk hki ?_ hno
        by_cases hjk : j = k
        · subst hjk; exact hjun
        · rw [getD_set_ne true hjk] at hun'; exact hun'
      refine gOp_mono (fun a' Vs' h3 => ih (listed.setIfInBounds j true) a' Vs' (inv.set hj hjn) hfree' (ready_mono hr (Ne.symm hji)) ?_) H2
      rw [Array.setIfInBounds_comm _ _ hji]
      exact h3
/-- The walk in an order of our own. -/
def wpGP (P : Program) (md : Region.Mode) (ops : Array Oper) (C : World → Prop) (Sp : Nat → OpSpec) (Lq : Act → Vals → Prop) : List (Nat × Oper) → Act → Vals → Prop
  | [], a, Vs => Lq a Vs
  | (k, o) :: l, a, Vs => if Region.wanted o (yielded ops a.tmps) = true then ∃ S, Ob P md ops C Sp k o a Vs S ∧ ∀ v, S v → wpGP P md ops C Sp Lq l (a.put o.dst v) (next (Sp k) Vs k v) else wpGP P md ops C Sp Lq l (a.put o.dst undef) Vs
def seqL (md : Region.Mode) (ops : Array Oper) : List Nat → Array Bool → Bool
  | [], listed => (Region.ready md ops listed).isEmpty
  | k :: ks, listed => decide (Region.ready md ops listed = [k]) && seqL md ops ks (listed.setIfInBounds k true)
def headL (md : Region.Mode) (ops : Array Oper) (T : List Nat) : List Nat → Array Bool → Bool
  | [], listed => seqL md ops T listed
  | k :: ks, listed => (Region.ready md ops listed).contains k && Region.free md ops listed k && headL md ops T ks (listed.setIfInBounds k true)
theorem seqL_ready {T : List Nat} {listed : Array Bool} (h : seqL md ops T listed = true) : ∀ j ∈ Region.ready md ops listed, j ∈ T := by
  cases T with
  | nil => intro j hj; simp only [seqL, List.isEmpty_iff] at h; rw [h] at hj; cases hj
  | cons t T =>
    intro j hj
    simp only [seqL, Bool.and_eq_true, decide_eq_true_eq] at h
    rw [h.1] at hj
    have : j = t := by simpa using hj
    subst this
    exact List.mem_cons_self ..
theorem wpAny_of_seqL {Q' : Exit → Act → World → Prop} : ∀ (l : List (Nat × Oper)) (listed : Array Bool) (a : Act) (w : World), (∀ p ∈ l, ops[p.1]? = some p.2) →
    seqL md ops (l.map (·.1)) listed = true → wpList P ops Q' (l.map (·.2)) a w → wpAny P md ops Q' l.length listed a w
  | [], _, _, _, _, hB, h => ⟨by simpa [seqL] using hB, h⟩
  | (k, o) :: l, listed, a, w, hl, hB, h => by
    have h0 : ops[k]? = some o := hl (k, o) (List.mem_cons_self ..)
    simp only [List.map_cons, seqL, Bool.and_eq_true, decide_eq_true_eq] at hB
    refine ⟨fun h1 => (by rw [hB.1] at h1; cases h1), fun i hi => ?_⟩
    rw [hB.1] at hi
    have hik : i = k := by simpa using hi
    subst hik
    have hw : wpOp P ops Q' i (wpList P ops Q' (l.map (·.2))) a w := by unfold wpOp; simp only [h0]; exact h
    exact wpOp_mono (fun a' w' h' => wpAny_of_seqL l _ a' w' (fun p hp => hl p (List.mem_cons_of_mem _ hp)) hB.2 h') hw
theorem wpAnyG_list (hC : ∃ w, C w) {T : List Nat} {Lq : Act → Vals → Prop} (hsel : Region.noSelect ops = true) :
    ∀ (l : List (Nat × Oper)) (listed : Array Bool) (a : Act) (Vs : Vals), (∀ p ∈ l, ops[p.1]? = some p.2) → (∀ t ∈ T, ∀ p ∈ l, ancB md ops ops.size t p.1 = true) → HeadInv md ops ops.size listed →
    headL md ops T (l.map (·.1)) listed = true → wpGP P md ops C Sp Lq l a Vs →
    wpAnyG P md ops C Sp ops.size (fun listed' a' Vs' => seqL md ops T listed' = true ∧ Lq a' Vs') l.length listed a Vs
  | [], listed, a, Vs, _, _, _, hB, h => ⟨by simpa [headL] using hB, h⟩
  | (k, o) :: l, listed, a, Vs, hl, hT, inv, hB, h => by
    have h0 : ops[k]? = some o := hl (k, o) (List.mem_cons_self ..)
    have hkn : k < ops.size := (Array.getElem?_eq_some_iff.1 h0).1
    simp only [List.map_cons, headL, Bool.and_eq_true] at hB
    obtain ⟨⟨hr, hf⟩, hB'⟩ := hB
    have hr' : k ∈ Region.ready md ops listed := by simpa using hr
    have hg : gOp P md ops C Sp k (wpGP P md ops C Sp Lq l) a Vs := by unfold gOp; simp only [h0]; exact h
    exact wpAnyG_firstP hC h0 (Region.noSelect_spec hsel) (fun listed' a' Vs' hL => seqL_ready hL.1) (fun t ht => hT t ht (k, o) (List.mem_cons_self ..)) l.length listed a Vs inv (Region.free_spec h0 hf) hr'
      (gOp_mono (fun a' Vs' h' => wpAnyG_list hC hsel l _ a' Vs' (fun p hp => hl p (List.mem_cons_of_mem _ hp)) (fun t ht p hp => hT t ht p (List.mem_cons_of_mem _ hp)) (inv.set hr' hkn) hB' h') hg)
end
def opsAt (l : List Oper) : List Nat → List (Nat × Oper)
  | [] => []
  | k :: ks => match l[k]? with
    | some o => (k, o) :: opsAt l ks
    | none => opsAt l ks
theorem opsAt_at {l : List Oper} : ∀ {ks : List Nat} {p : Nat × Oper}, p ∈ opsAt l ks → l.toArray[p.1]? = some p.2
  | [], p, h => by cases h
  | k :: ks, p, h => by
    unfold opsAt at h
    split at h
    · rename_i o ho
      rcases List.mem_cons.1 h with rfl | h
      · simpa using ho
      · exact opsAt_at h
    · exact opsAt_at h
/-- Is this an order of our own? -/
def permB (md : Region.Mode) (ops : Array Oper) (hd tl : List Nat) : Bool :=
  Region.noSelect ops && decide (hd.length + tl.length = ops.size) && headL md ops tl hd (Array.replicate ops.size false) && tl.all fun t => hd.all fun i => ancB md ops ops.size t i
theorem wp_region_perm {P : Program} {id : Nat} {Q : Exit → Act → World → Prop} {a : Act} {w : World} {l : List Oper} (hd tl : List Nat) (Sp : Nat → OpSpec) (hm : P.follows .mixedOrders = true) (hB : permB .any l.toArray hd tl = true)
    (e1 : (opsAt l hd).map (·.1) = hd) (e2 : (opsAt l tl).map (·.1) = tl)
    (hst : ∀ i v w w', factOf (Sp i) v w → Below w.heap.size w w' → factOf (Sp i) v w')
    (h : wpGP P .any l.toArray (fun w' => Below w.heap.size w w') Sp (fun a' Vs => ∀ w', Below w.heap.size w w' → Facts Sp Vs w' → wpList P l.toArray Q ((opsAt l tl).map (·.2)) a' w') (opsAt l hd) a (fun _ => none)) : (Code.region id l.toArray true).wp P Q a w := by
  simp only [permB, Bool.and_eq_true, decide_eq_true_eq] at hB
  obtain ⟨⟨⟨hsel, hn⟩, hlex⟩, hanc⟩ := hB
  have inv0 : HeadInv .any l.toArray l.toArray.size (Array.replicate l.toArray.size false) :=
    ⟨by simp, fun j oj _ hl => (by rw [getD_replicate_false] at hl; cases hl), fun t h1 h2 => by omega⟩
  have H := wpAnyG_list (md := .any) (T := tl) ⟨w, Below.refl _ _⟩ hsel (opsAt l hd) _ a _ (fun p hp => opsAt_at hp) (fun t ht p hp => by
    have h1 := List.all_eq_true.1 hanc t ht
    exact List.all_eq_true.1 h1 p.1 (by rw [← e1]; exact List.mem_map.2 ⟨p, hp, rfl⟩)) inv0 (by rw [e1]; exact hlex) h
  refine wp_region_any hm ?_
  have hlh : (opsAt l hd).length = hd.length := by have := congrArg List.length e1; simpa using this
  have hlt : (opsAt l tl).length = tl.length := by have := congrArg List.length e2; simpa using this
  have := wpAny_of_G (Q' := Q) (g := (opsAt l tl).length) hst (fun w1 w2 h1 h2 => h1.trans (h2.mono h1.size)) (fun listed a' Vs w' hC hF hL =>
    wpAny_of_seqL (md := .any) (Q' := Q) (opsAt l tl) listed a' w' (fun p hp => opsAt_at hp) (by rw [e2]; exact hL.1) (hL.2 w' hC hF)) _ _ _ _ ({ w with drawn := w.drawn + 1 } : World) (Below.refl w.heap.size w).drew (fun i v h => by cases h) H
  rw [hlh, hlt, hn] at this
  exact this
structure GP (P : Program) (md : Region.Mode) (ops : Array Oper) (C : World → Prop) (Sp : Nat → OpSpec) (Lq : Act → Vals → Prop) (l : List (Nat × Oper)) (a : Act) (Vs : Vals) : Prop where
  out : wpGP P md ops C Sp Lq l a Vs
section
variable {P : Program} {ops : Array Oper} {md : Region.Mode} {C : World → Prop} {Sp : Nat → OpSpec} {Lq : Act → Vals → Prop} {o : Oper} {l : List (Nat × Oper)} {k : Nat} {a : Act} {Vs : Vals}
theorem gp_nil (h : Lq a Vs) : GP P md ops C Sp Lq [] a Vs := ⟨h⟩
theorem gp_pure (hw : Region.wanted o (yielded ops a.tmps) = true) (hs : Sp k = .pure) (v : Value) (h : ∀ w, C w → PureAt P o a w v) (hn : GP P md ops C Sp Lq l (a.put o.dst v) Vs) : GP P md ops C Sp Lq ((k, o) :: l) a Vs := by
  refine ⟨?_⟩
  unfold wpGP
  rw [if_pos hw]
  refine ⟨fun u => u = v, by unfold Ob; rw [hs]; exact ⟨v, rfl, h⟩, fun u hu => ?_⟩
  subst hu
  rw [hs]
  exact hn.out
theorem gp_const (hw : Region.wanted o (yielded ops a.tmps) = true) {v : Value} (hs : Sp k = .const v) (h : ∀ w, C w → FactsAt md ops Sp k Vs w → Does P o a w (IsPost v w)) (hn : GP P md ops C Sp Lq l (a.put o.dst v) Vs) : GP P md ops C Sp Lq ((k, o) :: l) a Vs := by
  refine ⟨?_⟩
  unfold wpGP
  rw [if_pos hw]
  refine ⟨fun u => u = v, by unfold Ob; rw [hs]; exact ⟨rfl, h⟩, fun u hu => ?_⟩
  subst hu
  rw [hs]
  exact hn.out
theorem gp_rel (hw : Region.wanted o (yielded ops a.tmps) = true) {R : Value → World → Prop} (hs : Sp k = .rel R) (h : ∀ w, C w → FactsAt md ops Sp k Vs w → Does P o a w (RelPost R w)) (hn : ∀ v, GP P md ops C Sp Lq l (a.put o.dst v) (upd Vs k v)) : GP P md ops C Sp Lq ((k, o) :: l) a Vs := by
  refine ⟨?_⟩
  unfold wpGP
  rw [if_pos hw]
  refine ⟨fun _ => True, by unfold Ob; rw [hs]; exact ⟨rfl, h⟩, fun u _ => ?_⟩
  rw [hs]
  exact (hn u).out
theorem gp_skip (hw : Region.wanted o (yielded ops a.tmps) = false) (hn : GP P md ops C Sp Lq l (a.put o.dst undef) Vs) : GP P md ops C Sp Lq ((k, o) :: l) a Vs := by
  refine ⟨?_⟩
  unfold wpGP
  rw [if_neg (by rw [hw]; exact Bool.false_ne_true)]
  exact hn.out
theorem region_gp {id : Nat} {Q : Exit → Act → World → Prop} {a : Act} {W : World} {l : List Oper} (F : Fz) (hd tl : List Nat) (L : List (Nat × Mark)) (hm : P.follows .mixedOrders = true) (hB : permB .any l.toArray hd tl = true) (e1 : (opsAt l hd).map (·.1) = hd) (e2 : (opsAt l tl).map (·.1) = tl)
    (h : GP P .any l.toArray (fun w' => Below W.heap.size W w') (specOf W F L) (fun a' Vs => ∀ w', Below W.heap.size W w' → Facts (specOf W F L) Vs w' → WL P l.toArray Q ((opsAt l tl).map (·.2)) a' w') (opsAt l hd) a (fun _ => none)) : (Code.region id l.toArray true).wp P Q a W :=
  wp_region_perm hd tl (specOf W F L) hm hB e1 e2 specOf_stable (by
    have key : ∀ (ls : List (Nat × Oper)) (a : Act) (Vs : Vals), wpGP P .any l.toArray (fun w' => Below W.heap.size W w') (specOf W F L) (fun a' Vs => ∀ w', Below W.heap.size W w' → Facts (specOf W F L) Vs w' → WL P l.toArray Q ((opsAt l tl).map (·.2)) a' w') ls a Vs →
        wpGP P .any l.toArray (fun w' => Below W.heap.size W w') (specOf W F L) (fun a' Vs => ∀ w', Below W.heap.size W w' → Facts (specOf W F L) Vs w' → wpList P l.toArray Q ((opsAt l tl).map (·.2)) a' w') ls a Vs := by
      intro ls
      induction ls with
      | nil => intro a Vs h w' h1 h2; exact (h w' h1 h2).out
      | cons p ls ih =>
        obtain ⟨k, o⟩ := p
        intro a Vs h
        unfold wpGP at h ⊢
        split
        · rename_i hw
          rw [if_pos hw] at h
          obtain ⟨S, hS, hv⟩ := h
          exact ⟨S, hS, fun v hv' => ih _ _ (hv v hv')⟩
        · rename_i hw
          rw [if_neg hw] at h
          exact ih _ _ h
    exact key _ _ _ h.out)
end
/-! Late. -/
/-- The store, behind which nothing of the region is left to look at the memory. -/
structure LT (P : Program) (ops : Array Oper) (Q : Exit → Act → World → Prop) (os : Oper) (rest : List Oper) (a : Act) (w : World) : Prop where
  out : ∃ w', os.guard = none ∧ os.dst = none ∧ (execOp a.eval os).run P w = .ok .skip w' ∧ wpList P ops Q rest a w'
section
variable {P : Program} {ops : Array Oper} {md : Region.Mode} {C : World → Prop} {Sp : Nat → OpSpec}
def wpAnyH (P : Program) (md : Region.Mode) (ops : Array Oper) (C : World → Prop) (Sp : Nat → OpSpec) (s : Nat) (L E : Array Bool → Act → Vals → Prop) : Nat → Array Bool → Act → Vals → Prop
  | 0, listed, a, Vs => L listed a Vs
  | f + 1, listed, a, Vs => Region.ready md ops listed ≠ [] ∧ ∀ i ∈ Region.ready md ops listed, (i ≠ s → gOp P md ops C Sp i (wpAnyH P md ops C Sp s L E f (listed.setIfInBounds i true)) a Vs) ∧ (i = s → f = 0 ∧ E listed a Vs)
theorem wpAnyH_first (hC : ∃ w, C w) {i s : Nat} {oi : Oper} {T : List Nat} {L E : Array Bool → Act → Vals → Prop} (hi : ops[i]? = some oi) (hsel : ∀ (j : Nat) (o : Oper) cs b, ops[j]? = some o → o.op ≠ .select cs b)
    (hdone : ∀ listed a Vs, L listed a Vs → ∀ j ∈ Region.ready md ops listed, j ∈ T) (hT : ∀ t ∈ T, ancB md ops ops.size t i = true) (hsT : s ∈ T) (his : i ≠ s) :
    ∀ (f : Nat) (listed : Array Bool) (a : Act) (Vs : Vals), HeadInv md ops ops.size listed →
      (∀ j oj, ops[j]? = some oj → j ≠ i → listed.getD j true = false → (∀ e ∈ oj.after, Region.binds md e = true → e.on ≠ i) → oi.apart ops oj = true) →
      i ∈ Region.ready md ops listed →
      gOp P md ops C Sp i (wpAnyH P md ops C Sp s L E f (listed.setIfInBounds i true)) a Vs → wpAnyH P md ops C Sp s L E (f + 1) listed a Vs := by
  intro f
  induction f with
  | zero =>
    intro listed a Vs inv _ hr H
    have hun := (mem_ready.1 hr).1
    refine ⟨fun h => (by rw [h] at hr; cases hr), fun j hj => ?_⟩
    by_cases hji : j = i
    · subst hji; exact ⟨fun _ => H, fun e => absurd e his⟩
    · obtain ⟨a', Vs', hL⟩ := gOp_some H
      have h1 := hdone _ _ _ hL j (ready_mono hj hji)
      have h2 := anc_ready inv hj _ _ (hT j h1)
      rw [getD_both hun] at h2
      cases h2
  | succ f ih =>
    intro listed a Vs inv hfree hr H
    have hun := (mem_ready.1 hr).1
    refine ⟨fun h => (by rw [h] at hr; cases hr), fun j hj => ?_⟩
    obtain ⟨hjun, oj, hoj, hall⟩ := mem_ready.1 hj
    have hjn : j < ops.size := (Array.getElem?_eq_some_iff.1 hoj).1
    by_cases hji : j = i
    · subst hji; exact ⟨fun _ => H, fun e => absurd e his⟩
    · by_cases hjs : j = s
      · subst hjs
        have h2 := anc_ready inv hj _ _ (hT j hsT)
        rw [getD_both hun] at h2
        cases h2
      · refine ⟨fun _ => ?_, fun e => absurd e hjs⟩
        have hnot : ∀ e ∈ oj.after, Region.binds md e = true → e.on ≠ i := fun e he hb heq => by
          have h1 := hall e he hb
          rw [heq, getD_both hun] at h1
          cases h1
        have a1 : ancB md ops ops.size j i = false := by
          cases hx : ancB md ops ops.size j i with
          | false => rfl
          | true => have := anc_ready inv hj _ _ hx; rw [getD_both hun] at this; cases this
        have a2 : ancB md ops ops.size i j = false := by
          cases hx : ancB md ops ops.size i j with
          | false => rfl
          | true => have := anc_ready inv hr _ _ hx; rw [getD_both hjun] at this; cases this
        have H1 : gOp P md ops C Sp i (gOp P md ops C Sp j (wpAnyH P md ops C Sp s L E f ((listed.setIfInBounds i true).setIfInBounds j true))) a Vs :=
          gOp_mono (fun a' Vs' h => (h.2 j (ready_mono hj hji)).1 hjs) H
        have H2 := gOp_swap hC hi hoj (Ne.symm hji) (hfree j oj hoj hji hjun hnot) (fun cs b => hsel i oi cs b hi) (fun cs b => hsel j oj cs b hoj) a1 a2 H1
        have hfree' : ∀ k ok, ops[k]? = some ok → k ≠ i → (listed.setIfInBounds j true).getD k true = false →
            (∀ e ∈ ok.after, Region.binds md e = true → e.on ≠ i) → oi.apart ops ok = true := fun k ok hk hki hun' hno => by
          refine hfree k ok hk hki ?_ hno
          by_cases hjk : j = k
          · subst hjk; exact hjun
          · rw [getD_set_ne true hjk] at hun'; exact hun'
        refine gOp_mono (fun a' Vs' h3 => ih (listed.setIfInBounds j true) a' Vs' (inv.set hj hjn) hfree' (ready_mono hr (Ne.symm hji)) ?_) H2
        rw [Array.setIfInBounds_comm _ _ hji]
        exact h3
/-- What is left when only the pure operation p, the store s and the tail are. -/
def LateD (P : Program) (md : Region.Mode) (ops : Array Oper) (Q : Exit → Act → World → Prop) (C : World → Prop) (Sp : Nat → OpSpec) (p : Nat) (op os : Oper) (tail : List Oper) (a : Act) (Vs : Vals) : Prop :=
  op.guard = none ∧ ∃ v, Sp p = .const v ∧ (∀ w, C w → FactsAt md ops Sp p Vs w → ∀ w1, PureAt P op a w1 v) ∧ ∀ w, C w → Facts Sp Vs w → LT P ops Q os tail (a.put op.dst v) w
def lateL (md : Region.Mode) (ops : Array Oper) (p s : Nat) (T : List Nat) (listed : Array Bool) : Bool :=
  ((Region.ready md ops listed).all fun j => j == p || j == s) && (Region.ready md ops listed).contains p && Region.free md ops listed p && seqL md ops (s :: T) (listed.setIfInBounds p true) && seqL md ops (p :: T) (listed.setIfInBounds s true)
def headH (md : Region.Mode) (ops : Array Oper) (p s : Nat) (T : List Nat) : List Nat → Array Bool → Bool
  | [], listed => lateL md ops p s T listed
  | k :: ks, listed => (Region.ready md ops listed).contains k && Region.free md ops listed k && headH md ops p s T ks (listed.setIfInBounds k true)
theorem does_of_pure {o : Oper} {a : Act} {w : World} {v : Value} (h : PureAt P o a w v) : Does P o a w (IsPost v w) := by
  unfold Does PureAt at *
  generalize (execOp a.eval o).run P w = r at *
  cases r with
  | ok n w' =>
    cases n <;> simp only [PureR] at h <;> simp only [DoesR]
    · obtain ⟨rfl, rfl⟩ := h; exact ⟨rfl, Below.refl _ _⟩
    · obtain ⟨rfl, rfl⟩ := h; exact ⟨rfl, Below.refl _ _⟩
  | halt x w' => simp only [PureR] at h
theorem wanted_free {o : Oper} {t : Array Value} (h : o.guard = none) : Region.wanted o (yielded ops t) = true := by unfold Region.wanted; rw [h]
theorem wpAnyH_list (hC : ∃ w, C w) {p s : Nat} {T : List Nat} {op os : Oper} {tail : List Oper} {Q : Exit → Act → World → Prop} (hp : ops[p]? = some op) (hps : p ≠ s) (hsel : Region.noSelect ops = true) :
    ∀ (l : List (Nat × Oper)) (listed : Array Bool) (a : Act) (Vs : Vals), (∀ q ∈ l, ops[q.1]? = some q.2) → (∀ t ∈ s :: T, ∀ q ∈ l, ancB md ops ops.size t q.1 = true) → (∀ q ∈ l, q.1 ≠ s) → HeadInv md ops ops.size listed →
    headH md ops p s T (l.map (·.1)) listed = true → wpGP P md ops C Sp (LateD P md ops Q C Sp p op os tail) l a Vs →
    wpAnyH P md ops C Sp s (fun listed' a' Vs' => seqL md ops (s :: T) listed' = true ∧ ∀ w, C w → Facts Sp Vs' w → LT P ops Q os tail a' w) (fun listed' a' Vs' => lateL md ops p s T listed' = true ∧ LateD P md ops Q C Sp p op os tail a' Vs') (l.length + 1) listed a Vs
  | [], listed, a, Vs, _, _, _, _, hB, h => by
    have hB0 := hB
    simp only [List.map_nil, headH, lateL, Bool.and_eq_true] at hB
    obtain ⟨⟨⟨⟨h1, h2⟩, h3⟩, h4⟩, h5⟩ := hB
    have hr : p ∈ Region.ready md ops listed := by simpa using h2
    refine ⟨fun e => (by rw [e] at hr; cases hr), fun j hj => ⟨fun hjs => ?_, fun e => ⟨rfl, hB0, h⟩⟩⟩
    have hj2 := List.all_eq_true.1 h1 j hj
    simp only [Bool.or_eq_true, beq_iff_eq] at hj2
    have hjp : j = p := hj2.resolve_right hjs
    subst hjp
    obtain ⟨hg, v, hs, hpu, hn⟩ := h
    unfold gOp
    simp only [hp]
    rw [if_pos (wanted_free hg)]
    refine ⟨fun u => u = v, ?_, fun u hu => ?_⟩
    · unfold Ob; rw [hs]; exact ⟨rfl, fun w hc hF => does_of_pure (hpu w hc hF w)⟩
    · subst hu
      rw [hs]
      exact ⟨h4, hn⟩
  | (k, o) :: l, listed, a, Vs, hl, hT, hns, inv, hB, h => by
    have h0 : ops[k]? = some o := hl (k, o) (List.mem_cons_self ..)
    have hkn : k < ops.size := (Array.getElem?_eq_some_iff.1 h0).1
    simp only [List.map_cons, headH, Bool.and_eq_true] at hB
    obtain ⟨⟨hr, hf⟩, hB'⟩ := hB
    have hr' : k ∈ Region.ready md ops listed := by simpa using hr
    have hg : gOp P md ops C Sp k (wpGP P md ops C Sp (LateD P md ops Q C Sp p op os tail) l) a Vs := by unfold gOp; simp only [h0]; exact h
    exact wpAnyH_first hC h0 (Region.noSelect_spec hsel) (fun listed' a' Vs' hL => seqL_ready hL.1) (fun t ht => hT t ht (k, o) (List.mem_cons_self ..)) (List.mem_cons_self ..) (hns (k, o) (List.mem_cons_self ..)) (l.length + 1) listed a Vs inv (Region.free_spec h0 hf) hr'
      (gOp_mono (fun a' Vs' h' => wpAnyH_list hC hp hps hsel l _ a' Vs' (fun p hp => hl p (List.mem_cons_of_mem _ hp)) (fun t ht p hp => hT t ht p (List.mem_cons_of_mem _ hp)) (fun q hq => hns q (List.mem_cons_of_mem _ hq)) (inv.set hr' hkn) hB' h') hg)
theorem wpAny_of_H (hst : ∀ i v w w', factOf (Sp i) v w → Below w.heap.size w w' → factOf (Sp i) v w') (hCE : ∀ w w', C w → Below w.heap.size w w' → C w') {s g : Nat} {L E : Array Bool → Act → Vals → Prop} {Q' : Exit → Act → World → Prop}
    (hL : ∀ listed a Vs w, C w → Facts Sp Vs w → L listed a Vs → wpAny P md ops Q' g listed a w)
    (hE : ∀ listed a Vs w, C w → Facts Sp Vs w → s ∈ Region.ready md ops listed → E listed a Vs → wpOp P ops Q' s (wpAny P md ops Q' g (listed.setIfInBounds s true)) a w) :
    ∀ (f : Nat) (listed : Array Bool) (a : Act) (Vs : Vals) (w : World), C w → Facts Sp Vs w → wpAnyH P md ops C Sp s L E f listed a Vs → wpAny P md ops Q' (f + g) listed a w
  | 0, listed, a, Vs, w, hc, hF, h => by rw [Nat.zero_add]; exact hL _ _ _ _ hc hF h
  | f + 1, listed, a, Vs, w, hc, hF, h => by
    rw [show f + 1 + g = (f + g) + 1 by omega]
    refine ⟨fun h0 => absurd h0 h.1, fun i hi => ?_⟩
    by_cases his : i = s
    · subst his
      obtain ⟨hf0, he⟩ := (h.2 i hi).2 rfl
      subst hf0
      rw [Nat.zero_add]
      exact hE listed a Vs w hc hF hi he
    have hg := (h.2 i hi).1 his
    unfold gOp at hg
    unfold wpOp
    split
    · rename_i e
      simp only [e] at hg
      exact wpAny_of_H hst hCE hL hE f _ a Vs w hc hF hg
    · rename_i o e
      simp only [e] at hg
      split
      · rename_i hw
        rw [if_pos hw] at hg
        obtain ⟨S, hS, hall⟩ := hg
        left
        unfold Ob at hS
        split at hS
        · rename_i es
          obtain ⟨v, rfl, hp⟩ := hS
          have hn := hall v rfl
          simp only [es, next] at hn
          exact Oper.wp_of_pure (hp w hc) (wpAny_of_H hst hCE hL hE f _ _ Vs w hc hF hn)
        · rename_i v es
          obtain ⟨rfl, hp⟩ := hS
          have hn := hall v rfl
          simp only [es, next] at hn
          refine Oper.wp_of_does (hp w hc fun i' v' _ hv => hF i' v' hv) fun u w' ⟨hu, hb⟩ => ?_
          subst hu
          exact wpAny_of_H hst hCE hL hE f _ _ Vs w' (hCE w w' hc hb) (fun i' v' hv => hst i' v' w w' (hF i' v' hv) hb) hn
        · rename_i R es
          obtain ⟨rfl, hp⟩ := hS
          refine Oper.wp_of_does (hp w hc fun i' v' _ hv => hF i' v' hv) fun u w' ⟨hu, hb⟩ => ?_
          have hn := hall u trivial
          refine wpAny_of_H hst hCE hL hE f _ _ _ w' (hCE w w' hc hb) (fun i' v' hv => ?_) hn
          simp only [es, next] at hv
          unfold upd at hv
          split at hv
          · rename_i e'
            subst e'
            cases hv
            simp only [es, factOf]
            exact hu
          · exact hst i' v' w w' (hF i' v' hv) hb
      · rename_i hw
        rw [if_neg hw] at hg
        exact wpAny_of_H hst hCE hL hE f _ _ Vs w hc hF hg
theorem wpList_of_LT {Q : Exit → Act → World → Prop} {os : Oper} {tail : List Oper} {a : Act} {w : World} (h : LT P ops Q os tail a w) : wpList P ops Q (os :: tail) a w := by
  obtain ⟨w', hg, hd, hr, hk⟩ := h.out
  unfold wpList
  rw [if_pos (wanted_free hg)]
  left
  refine Oper.wp_of_does (Φ := fun u w1 => u = undef ∧ w1 = w') (by unfold Does; rw [hr]; exact ⟨rfl, rfl⟩) fun u w1 ⟨hu, hw⟩ => ?_
  subst hu; subst hw
  rw [hd]
  exact hk
end
/-- Is this an order of our own, with the pure operation p that may come behind the store s? -/
def lateB (md : Region.Mode) (ops : Array Oper) (hd : List Nat) (p s : Nat) (tl : List Nat) : Bool :=
  Region.noSelect ops && decide (hd.length + 2 + tl.length = ops.size) && headH md ops p s tl hd (Array.replicate ops.size false) && ((s :: tl).all fun t => hd.all fun i => ancB md ops ops.size t i) && (hd.all fun i => i != s) && (p != s)
theorem wp_region_late {P : Program} {id : Nat} {Q : Exit → Act → World → Prop} {a : Act} {w : World} {l : List Oper} (hd : List Nat) (p s : Nat) (tl : List Nat) (op os : Oper) (Sp : Nat → OpSpec) (hm : P.follows .mixedOrders = true) (hB : lateB .any l.toArray hd p s tl = true)
    (e1 : (opsAt l hd).map (·.1) = hd) (e2 : (opsAt l tl).map (·.1) = tl) (e3 : l[p]? = some op) (e4 : l[s]? = some os)
    (hst : ∀ i v w w', factOf (Sp i) v w → Below w.heap.size w w' → factOf (Sp i) v w')
    (h : wpGP P .any l.toArray (fun w' => Below w.heap.size w w') Sp (LateD P .any l.toArray Q (fun w' => Below w.heap.size w w') Sp p op os ((opsAt l tl).map (·.2))) (opsAt l hd) a (fun _ => none)) : (Code.region id l.toArray true).wp P Q a w := by
  simp only [lateB, Bool.and_eq_true, decide_eq_true_eq] at hB
  obtain ⟨⟨⟨⟨⟨hsel, hn⟩, hlex⟩, hanc⟩, hns⟩, hps⟩ := hB
  have hps : p ≠ s := by simpa using hps
  have hp : l.toArray[p]? = some op := by simpa using e3
  have hs : l.toArray[s]? = some os := by simpa using e4
  have inv0 : HeadInv .any l.toArray l.toArray.size (Array.replicate l.toArray.size false) :=
    ⟨by simp, fun j oj _ hl => (by rw [getD_replicate_false] at hl; cases hl), fun t h1 h2 => by omega⟩
  have mem : ∀ q ∈ opsAt l hd, q.1 ∈ hd := fun q hq => by rw [← e1]; exact List.mem_map.2 ⟨q, hq, rfl⟩
  have H := wpAnyH_list (md := .any) (T := tl) (Q := Q) ⟨w, Below.refl _ _⟩ hp hps hsel (opsAt l hd) _ a _ (fun p hp => opsAt_at hp) (fun t ht p hp => by
    have h1 := List.all_eq_true.1 hanc t ht
    exact List.all_eq_true.1 h1 p.1 (mem p hp)) (fun q hq => by have := List.all_eq_true.1 hns q.1 (mem q hq); simpa using this) inv0 (by rw [e1]; exact hlex) h
  refine wp_region_any hm ?_
  have hlh : (opsAt l hd).length = hd.length := by have := congrArg List.length e1; simpa using this
  have hlt : (opsAt l tl).length = tl.length := by have := congrArg List.length e2; simpa using this
  have := wpAny_of_H (Q' := Q) (g := (opsAt l tl).length + 1) hst (fun w1 w2 h1 h2 => h1.trans (h2.mono h1.size)) (fun listed a' Vs w' hC hF hL => by
      have := wpAny_of_seqL (md := .any) (Q' := Q) ((s, os) :: opsAt l tl) listed a' w' (fun p hp => by rcases List.mem_cons.1 hp with rfl | hp; exact hs; exact opsAt_at hp) (by rw [List.map_cons, e2]; exact hL.1) (wpList_of_LT (hL.2 w' hC hF))
      simpa using this) (fun listed a' Vs w' hC hF hsr hE => by
      obtain ⟨hB, hg, v, hsp, hpu, hn'⟩ := hE
      simp only [lateL, Bool.and_eq_true] at hB
      obtain ⟨⟨⟨⟨h1, h2⟩, h3⟩, h4⟩, h5⟩ := hB
      have hrp : p ∈ Region.ready .any l.toArray listed := by simpa using h2
      have hunp := (mem_ready.1 hrp).1
      obtain ⟨hsun, os', hos', hall⟩ := mem_ready.1 hsr
      have hoe : os' = os := Option.some.inj (hos'.symm.trans hs)
      subst hoe
      have hap := Region.free_spec hp h3 s os' hos' (Ne.symm hps) hsun (fun e he hb heq => by
        have h1 := hall e he hb
        rw [heq, getD_both hunp] at h1
        cases h1)
      obtain ⟨w1, q1, q2, q3, q4⟩ := (hn' w' hC hF).out
      rw [execOp_put os' (fun cs b => Region.noSelect_spec hsel s os' cs b hos') a' op.dst v (Oper.apart_spec hap).1] at q3
      unfold wpOp
      simp only [hos']
      rw [if_pos (wanted_free q1)]
      left
      refine Oper.wp_of_does (Φ := fun u w2 => u = undef ∧ w2 = w1) (by unfold Does; rw [q3]; exact ⟨rfl, rfl⟩) fun u w2 ⟨hu, hw⟩ => ?_
      subst hu; subst hw
      rw [q2]
      have h5' := h5
      simp only [seqL, Bool.and_eq_true, decide_eq_true_eq] at h5'
      refine ⟨fun e => (by rw [h5'.1] at e; cases e), fun i hi => ?_⟩
      rw [h5'.1] at hi
      have hip : i = p := by simpa using hi
      subst hip
      unfold wpOp
      simp only [hp]
      rw [if_pos (wanted_free hg)]
      left
      exact Oper.wp_of_pure (hpu w' hC (fun i' v' _ hv => hF i' v' hv) w2) (wpAny_of_seqL (md := .any) (Q' := Q) (opsAt l tl) _ _ _ (fun p hp => opsAt_at hp) (by rw [e2]; exact h5'.2) q4)) _ _ _ _ ({ w with drawn := w.drawn + 1 } : World) (Below.refl w.heap.size w).drew (fun i v h => by cases h) H
  rw [hlh, hlt, show hd.length + 1 + (tl.length + 1) = hd.length + 2 + tl.length by omega, hn] at this
  exact this
section
variable {P : Program} {ops : Array Oper} {md : Region.Mode} {C : World → Prop} {Sp : Nat → OpSpec}
/-- As LateD, of what is written 'WL'. -/
def LateW (P : Program) (md : Region.Mode) (ops : Array Oper) (Q : Exit → Act → World → Prop) (C : World → Prop) (Sp : Nat → OpSpec) (p : Nat) (op os : Oper) (tail : List Oper) (a : Act) (Vs : Vals) : Prop := LateD P md ops Q C Sp p op os tail a Vs
theorem late_ {p : Nat} {op os : Oper} {tail : List Oper} {Q : Exit → Act → World → Prop} {a : Act} {Vs : Vals} (hg : op.guard = none) {v : Value} (hs : Sp p = .const v) (h : ∀ w, C w → FactsAt md ops Sp p Vs w → ∀ w1, PureAt P op a w1 v)
    (hn : ∀ w, C w → Facts Sp Vs w → LT P ops Q os tail (a.put op.dst v) w) : LateW P md ops Q C Sp p op os tail a Vs := ⟨hg, v, hs, h, hn⟩
end
theorem region_late {P : Program} {id : Nat} {Q : Exit → Act → World → Prop} {a : Act} {W : World} {l : List Oper} (F : Fz) (hd : List Nat) (p s : Nat) (tl : List Nat) (L : List (Nat × Mark)) (hm : P.follows .mixedOrders = true) (hB : lateB .any l.toArray hd p s tl = true) (e1 : (opsAt l hd).map (·.1) = hd) (e2 : (opsAt l tl).map (·.1) = tl)
    {op os : Oper} (e3 : l[p]? = some op) (e4 : l[s]? = some os)
    (h : GP P .any l.toArray (fun w' => Below W.heap.size W w') (specOf W F L) (LateW P .any l.toArray Q (fun w' => Below W.heap.size W w') (specOf W F L) p op os ((opsAt l tl).map (·.2))) (opsAt l hd) a (fun _ => none)) : (Code.region id l.toArray true).wp P Q a W :=
  wp_region_late hd p s tl op os (specOf W F L) hm hB e1 e2 e3 e4 specOf_stable h.out
theorem stLate {P : Program} {w0 w : World} {F0 F : Fz} {L : List Blk} {M : List RowP} {ops : Array Oper} {Q : Exit → Act → World → Prop} {a : Act} {rest : List Oper} {t T T' : TypeId} {x y : Operand} {pos : String} {after : Array Edge} {i n j : Nat} {c : List Value} {v : Value} (S : St w0 F0 w F L M)
    (hx : a.eval x = .pointer (some ⟨n, j, none⟩)) (hy : a.eval y = v) (hL : L[i]? = some ⟨n, c, T'⟩)
    (hi : (P.info? T).map (·.size) = some v.cells.size) (h1 : v.cells.all (·.oneCell') = true) (hl : j + v.cells.size ≤ c.length)
    (h : ∀ w', St w0 F0 w' F (L.set i ⟨n, splice c j v.cells.toList, T'⟩) M → WL P ops Q rest a w') : LT P ops Q ⟨none, .store T x y, t, pos, after, none⟩ rest a w := by
  have hs := storeV (P := P) (T := T) (v := v) hi (S.there hL j v.cells.size hl) h1
  exact ⟨⟨_, rfl, rfl, ex_store hx (by rw [hy]; exact hs), (h _ (S.store hL j v.cells.toList (by simpa using hl))).out⟩⟩
/-- A call that makes something out of what was made. -/
theorem call_made2 {P : Program} {f : FuncId} {args : Array Value} {W w : World} {F Fa : Fz} {R : Fz → Value → Prop} (ga : Gr W F w Fa) (h : Calls P f args w (Gives w Fa R)) : Calls P f args w (CallPost (RelPost (Made W F R) w)) :=
  h.mono fun e w' ⟨v, F', he, g, r⟩ => ⟨v, he, ⟨F', ga.trans g, r⟩, g.below⟩
theorem Sl.dropF {α : Type} {k : Nat} {R : Fz → List Value → α → Prop} {w : World} {F : Fz} {n : Nat} {cs : List Value} {T : TypeId} (hs : Sat w F) (hb : w.heap[n]? = some (.cells cs.toArray T (0, 0))) (hR : ∀ c p, R F c p → R (Proofs.YticbfdhdipfjmaaDoor.dropF F n) c p) (hx : ∀ (c : List Value) p, R F c p → ∃ (j : Nat) (u : Value), c[j]? = some u ∧ u ∉ cs) {v : Value} {l : List α} (h : Sl k R F v l) : Sl k R (Proofs.YticbfdhdipfjmaaDoor.dropF F n) v l := by
  obtain ⟨xs, ⟨a, c, h1, h2, h3, h4, h5⟩, hr, hk⟩ := h
  refine ⟨xs, ⟨a, c, h1, h2, h3, h4, ?_⟩, hr.imp hR, hk⟩
  rcases h5 with h5 | ⟨b, o, e, h6⟩
  · exact .inl h5
  · by_cases hbn : b = n
    · cases xs with
      | nil => exact .inl rfl
      | cons x xs =>
        exfalso
        cases l with
        | nil => exact hr
        | cons p l =>
          obtain ⟨j, u, hj, hu⟩ := hx _ _ hr.1
          have h0 := h6 j u (by
            rw [List.flatten_cons, List.getElem?_append_left (List.getElem?_eq_some_iff.1 hj).1]
            exact hj)
          subst hbn
          unfold cellF at h0
          split at h0
          · rename_i c0 t0 fr0 hF
            have := hs _ _ hF
            rw [hb] at this
            cases this
            have hm : u ∈ cs := by
              have : cs[o + j]? = some u := by simpa using h0
              exact List.mem_of_getElem? this
            exact hu hm
          · cases h0
    · refine .inr ⟨b, o, e, fun j u hu => ?_⟩
      have h0 := h6 j u hu
      unfold cellF Proofs.YticbfdhdipfjmaaDoor.dropF at *
      rw [if_neg hbn]
      exact h0
section
variable {w : World} {F : Fz} {n : Nat} {cs : List Value} {T : TypeId}
theorem Rds.dropF (hs : Sat w F) (hb : w.heap[n]? = some (.cells cs.toArray T (0, 0))) (hc : ∀ u ∈ cs, ∀ x, u ≠ bv x) (hc2 : ∀ b, Value.bool b ∉ cs) {v : Value} {l : List Rd} (h : Rds F v l) : Rds (Proofs.YticbfdhdipfjmaaDoor.dropF F n) v l :=
  Sl.dropF hs hb (RdC.dropF hs hb hc) (fun c p ⟨a0, a1, a2, a3, e, _, _, e2, _⟩ => ⟨2, a2, by rw [e]; rfl, by rw [e2]; exact hc2 _⟩) h
theorem Wrs.dropF (hs : Sat w F) (hb : w.heap[n]? = some (.cells cs.toArray T (0, 0))) (hc : ∀ u ∈ cs, ∀ x, u ≠ bv x) (hc2 : ∀ b, Value.bool b ∉ cs) {v : Value} {l : List Wr} (h : Wrs F v l) : Wrs (Proofs.YticbfdhdipfjmaaDoor.dropF F n) v l :=
  Sl.dropF hs hb (WrC.dropF hs hb hc) (fun c p ⟨a0, a1, a2, a3, e, _, _, e2, _⟩ => ⟨2, a2, by rw [e]; rfl, by rw [e2]; exact hc2 _⟩) h
end
end Go.Proofs.YticbfdhdipfjmaaDoor
namespace Go.Proofs.YticbfdhdipfjmaaDoor
open Go.RowKit
set_option maxRecDepth 100000
set_option linter.unusedVariables false
set_option linter.unusedSimpArgs false
set_option maxHeartbeats 8000000 in
theorem bytesEqual_spec (F : Fz) (w : World) (v u : Value) (l m : By) (hs : Sat w F) (hv : Bs F v l) (hu : Bs F u m) :
    Calls Tryd.prog 47 #[v, u] w (Tells w (.bool (l == m))) := by
 obtain ⟨a, c, rfl, _⟩ := hv.shape
 obtain ⟨a2, c2, rfl, _⟩ := hu.shape
 have S := St.start hs
 go_enter Tryd.func47, Tryd.ntmps47
 refine wp_seq_k (fun K1 hK1 => region_wl ?_)
 refine do_ rfl (.bool false) (ex_assign _) ?_
 simp only [pS, pN, pA, pC, pZ]
 refine wl_nil (hK1 _ _ ?_)
 refine wp_seq_k (fun K2 hK2 => region_wl ?_)
 refine do_ rfl (.slice a l.length c) (ex_move _) ?_
 simp only [pS, pN, pA, pC, pZ]
 refine do_ rfl (.string ⟨l.toArray⟩) (ex_convert (v := (.slice a l.length c)) rfl (run_string Tryd.underlying22 Tryd.underlying5 Tryd.underlying9 (S).sat hv)) ?_
 simp only [pS, pN, pA, pC, pZ]
 refine do_ rfl (.slice a2 m.length c2) (ex_move _) ?_
 simp only [pS, pN, pA, pC, pZ]
 refine do_ rfl (.string ⟨m.toArray⟩) (ex_convert (v := (.slice a2 m.length c2)) rfl (run_string Tryd.underlying22 Tryd.underlying5 Tryd.underlying9 (S).sat hu)) ?_
 simp only [pS, pN, pA, pC, pZ]
 refine do_ rfl (.bool (l == m)) (ex_strop (op := .eql) (l := l) (m := m) (b := (l == m)) (by simp) rfl rfl (rfl)) ?_
 simp only [pS, pN, pA, pC, pZ]
 refine do_ rfl (.bool (l == m)) (ex_assign _) ?_
 simp only [pS, pN, pA, pC, pZ]
 refine wl_nil (hK2 _ _ ?_)
 refine wp_ret ?_
 (try simp only [Exit.then, Exit.inBlock, ↓reduceIte, Nat.reduceEqDiff])
 refine bodyPost_ret (v := (.bool (l == m))) ?_ rfl ?_
 ·exact res_t rfl rfl
 ·exact ⟨rfl, S.gr.below⟩
set_option maxHeartbeats 8000000 in
theorem samePlace_spec (F : Fz) (w : World) (v u : Value) (p q : Wr) (hs : Sat w F) (hv : WrV F v p) (hu : WrV F u q) :
    Calls Tryd.prog 41 #[v, u] w (Tells w (.bool (samePl p q))) := by
 obtain ⟨x0, x1, x2, x3, x4, x5, rfl, h0, h1, h3⟩ := hv
 obtain ⟨y0, y1, y2, y3, y4, y5, rfl, k0, k1, k3⟩ := hu
 have S := St.start hs
 go_enter Tryd.func41, Tryd.ntmps41
 refine wp_seq_k (fun K1 hK1 => region_wl ?_)
 refine stNew S (v := fun n => .pointer (some ⟨n, 0, none⟩)) rfl (ex_box (v := (.agg #[(.slice x0 p.name.length x1), (.slice x2 p.key.length x3), (.bool p.gone), (.slice x4 p.value.length x5)])) rfl) (fun n2 w3 S4 => ?_)
 simp only [pS, pN, pA, pC, pZ]
 have S4 : St w F w3 F [⟨n2, [(.slice x0 p.name.length x1), (.slice x2 p.key.length x3), (.bool p.gone), (.slice x4 p.value.length x5)], 42⟩] [] := S4
 refine stNew S4 (v := fun n => .pointer (some ⟨n, 0, none⟩)) rfl (ex_box (v := (.agg #[(.slice y0 q.name.length y1), (.slice y2 q.key.length y3), (.bool q.gone), (.slice y4 q.value.length y5)])) rfl) (fun n5 w6 S7 => ?_)
 simp only [pS, pN, pA, pC, pZ]
 have S7 : St w F w6 F [⟨n5, [(.slice y0 q.name.length y1), (.slice y2 q.key.length y3), (.bool q.gone), (.slice y4 q.value.length y5)], 42⟩, ⟨n2, [(.slice x0 p.name.length x1), (.slice x2 p.key.length x3), (.bool p.gone), (.slice x4 p.value.length x5)], 42⟩] [] := S7
 refine do_ rfl (.bool false) (ex_assign _) ?_
 simp only [pS, pN, pA, pC, pZ]
 refine wl_nil (hK1 _ _ ?_)
 refine wp_seq_k (fun K8 hK8 => ?_)
 by_cases e1 : p.name = q.name
 ·refine region_wl ?_
  refine do_ rfl (.pointer (some ⟨n2, 0, none⟩)) (ex_field (q := ⟨n2, 0, none⟩) rfl (fa_42_0 _ _)) ?_
  simp only [pS, pN, pA, pC, pZ]
  refine do_ rfl (.slice x0 p.name.length x1) (ex_load rfl (load1 (nagg_22 _) (St.cell S7 (i := 1) rfl rfl))) ?_
  simp only [pS, pN, pA, pC, pZ]
  refine do_ rfl (.pointer (some ⟨n5, 0, none⟩)) (ex_field (q := ⟨n5, 0, none⟩) rfl (fa_42_0 _ _)) ?_
  simp only [pS, pN, pA, pC, pZ]
  refine do_ rfl (.slice y0 q.name.length y1) (ex_load rfl (load1 (nagg_22 _) (St.cell S7 (i := 0) rfl rfl))) ?_
  simp only [pS, pN, pA, pC, pZ]
  refine stTells (v := (.bool true)) S7 rfl (ex_fn (vs := #[(.slice x0 p.name.length x1), (.slice y0 q.name.length y1)]) (map2 rfl rfl) rfl (ent_47 _ _)) (tells_bool (bytesEqual_spec _ _ _ _ p.name q.name (S7).sat h0 k0) (beq_iff_eq.2 (e1))) (fun w9 S10 => ?_)
  simp only [pS, pN, pA, pC, pZ]
  refine do_ rfl (.bool true) (ex_move _) ?_
  simp only [pS, pN, pA, pC, pZ]
  refine do_ rfl (.pointer (some ⟨n2, 1, none⟩)) (ex_field (q := ⟨n2, 1, none⟩) rfl (fa_42_1 _ _)) ?_
  simp only [pS, pN, pA, pC, pZ]
  refine do_ rfl (.slice x2 p.key.length x3) (ex_load rfl (load1 (nagg_22 _) (St.cell S10 (i := 1) rfl rfl))) ?_
  simp only [pS, pN, pA, pC, pZ]
  refine do_ rfl (.pointer (some ⟨n5, 1, none⟩)) (ex_field (q := ⟨n5, 1, none⟩) rfl (fa_42_1 _ _)) ?_
  simp only [pS, pN, pA, pC, pZ]
  refine do_ rfl (.slice y2 q.key.length y3) (ex_load rfl (load1 (nagg_22 _) (St.cell S10 (i := 0) rfl rfl))) ?_
  simp only [pS, pN, pA, pC, pZ]
  refine stTells (v := (.bool (p.key == q.key))) S10 rfl (ex_fn (vs := #[(.slice x2 p.key.length x3), (.slice y2 q.key.length y3)]) (map2 rfl rfl) rfl (ent_47 _ _)) (bytesEqual_spec _ _ _ _ p.key q.key (S10).sat h1 k1) (fun w11 S12 => ?_)
  simp only [pS, pN, pA, pC, pZ]
  refine do_ rfl (.bool (p.key == q.key)) (ex_pick (b := true) rfl) ?_
  simp only [pS, pN, pA, pC, pZ]
  refine do_ rfl (.bool (p.key == q.key)) (ex_assign _) ?_
  simp only [pS, pN, pA, pC, pZ]
  refine wl_nil (hK8 _ _ ?_)
  refine wp_ret ?_
  (try simp only [Exit.then, Exit.inBlock, ↓reduceIte, Nat.reduceEqDiff])
  refine bodyPost_ret (v := (.bool (p.key == q.key))) ?_ rfl ?_
  ·exact res_t rfl rfl
  ·exact ⟨by unfold samePl; rw [beq_iff_eq.2 e1]; rfl, S12.gr.below⟩
 ·refine region_wl ?_
  refine do_ rfl (.pointer (some ⟨n2, 0, none⟩)) (ex_field (q := ⟨n2, 0, none⟩) rfl (fa_42_0 _ _)) ?_
  simp only [pS, pN, pA, pC, pZ]
  refine do_ rfl (.slice x0 p.name.length x1) (ex_load rfl (load1 (nagg_22 _) (St.cell S7 (i := 1) rfl rfl))) ?_
  simp only [pS, pN, pA, pC, pZ]
  refine do_ rfl (.pointer (some ⟨n5, 0, none⟩)) (ex_field (q := ⟨n5, 0, none⟩) rfl (fa_42_0 _ _)) ?_
  simp only [pS, pN, pA, pC, pZ]
  refine do_ rfl (.slice y0 q.name.length y1) (ex_load rfl (load1 (nagg_22 _) (St.cell S7 (i := 0) rfl rfl))) ?_
  simp only [pS, pN, pA, pC, pZ]
  refine stTells (v := (.bool false)) S7 rfl (ex_fn (vs := #[(.slice x0 p.name.length x1), (.slice y0 q.name.length y1)]) (map2 rfl rfl) rfl (ent_47 _ _)) (tells_bool (bytesEqual_spec _ _ _ _ p.name q.name (S7).sat h0 k0) (beq_eq_false_iff_ne.2 (e1))) (fun w13 S14 => ?_)
  simp only [pS, pN, pA, pC, pZ]
  refine do_ rfl (.bool false) (ex_move _) ?_
  simp only [pS, pN, pA, pC, pZ]
  refine doN (wanted_no rfl rfl rfl (c := false) rfl (by decide)) ?_
  simp only [pS, pN, pA, pC, pZ]
  refine doN (wanted_no rfl rfl rfl (c := false) rfl (by decide)) ?_
  simp only [pS, pN, pA, pC, pZ]
  refine doN (wanted_no rfl rfl rfl (c := false) rfl (by decide)) ?_
  simp only [pS, pN, pA, pC, pZ]
  refine doN (wanted_no rfl rfl rfl (c := false) rfl (by decide)) ?_
  simp only [pS, pN, pA, pC, pZ]
  refine doN (wanted_no rfl rfl rfl (c := false) rfl (by decide)) ?_
  simp only [pS, pN, pA, pC, pZ]
  refine do_ rfl (.bool false) (ex_pick (b := false) rfl) ?_
  simp only [pS, pN, pA, pC, pZ]
  refine do_ rfl (.bool false) (ex_assign _) ?_
  simp only [pS, pN, pA, pC, pZ]
  refine wl_nil (hK8 _ _ ?_)
  refine wp_ret ?_
  (try simp only [Exit.then, Exit.inBlock, ↓reduceIte, Nat.reduceEqDiff])
  refine bodyPost_ret (v := (.bool false)) ?_ rfl ?_
  ·exact res_t rfl rfl
  ·exact ⟨by unfold samePl; rw [beq_eq_false_iff_ne.2 e1]; rfl, S14.gr.below⟩
set_option maxHeartbeats 8000000 in
theorem sameRead_spec (F : Fz) (w : World) (v u : Value) (p q : Rd) (hs : Sat w F) (hv : RdV F v p) (hu : RdV F u q) :
    Calls Tryd.prog 35 #[v, u] w (Tells w (.bool (decide (p = q)))) := by
 obtain ⟨x0, x1, x2, x3, x4, x5, rfl, h0, h1, h3⟩ := hv
 obtain ⟨y0, y1, y2, y3, y4, y5, rfl, k0, k1, k3⟩ := hu
 have S := St.start hs
 go_enter Tryd.func35, Tryd.ntmps35
 refine wp_seq_k (fun K1 hK1 => region_wl ?_)
 refine stNew S (v := fun n => .pointer (some ⟨n, 0, none⟩)) rfl (ex_box (v := (.agg #[(.slice x0 p.name.length x1), (.slice x2 p.key.length x3), (.bool p.wide), (.slice x4 p.last.length x5)])) rfl) (fun n2 w3 S4 => ?_)
 simp only [pS, pN, pA, pC, pZ]
 have S4 : St w F w3 F [⟨n2, [(.slice x0 p.name.length x1), (.slice x2 p.key.length x3), (.bool p.wide), (.slice x4 p.last.length x5)], 38⟩] [] := S4
 refine stNew S4 (v := fun n => .pointer (some ⟨n, 0, none⟩)) rfl (ex_box (v := (.agg #[(.slice y0 q.name.length y1), (.slice y2 q.key.length y3), (.bool q.wide), (.slice y4 q.last.length y5)])) rfl) (fun n5 w6 S7 => ?_)
 simp only [pS, pN, pA, pC, pZ]
 have S7 : St w F w6 F [⟨n5, [(.slice y0 q.name.length y1), (.slice y2 q.key.length y3), (.bool q.wide), (.slice y4 q.last.length y5)], 38⟩, ⟨n2, [(.slice x0 p.name.length x1), (.slice x2 p.key.length x3), (.bool p.wide), (.slice x4 p.last.length x5)], 38⟩] [] := S7
 refine do_ rfl (.bool false) (ex_assign _) ?_
 simp only [pS, pN, pA, pC, pZ]
 refine wl_nil (hK1 _ _ ?_)
 refine wp_seq_k (fun K8 hK8 => ?_)
 by_cases e0 : p.wide = q.wide
 ·by_cases e1 : p.name = q.name
  ·by_cases e2 : p.key = q.key
   ·refine region_wl ?_
    refine do_ rfl (.pointer (some ⟨n2, 2, none⟩)) (ex_field (q := ⟨n2, 2, none⟩) rfl (fa_38_2 _ _)) ?_
    simp only [pS, pN, pA, pC, pZ]
    refine do_ rfl (.bool p.wide) (ex_load rfl (load1 (nagg_4 _) (St.cell S7 (i := 1) rfl rfl))) ?_
    simp only [pS, pN, pA, pC, pZ]
    refine do_ rfl (.pointer (some ⟨n5, 2, none⟩)) (ex_field (q := ⟨n5, 2, none⟩) rfl (fa_38_2 _ _)) ?_
    simp only [pS, pN, pA, pC, pZ]
    refine do_ rfl (.bool q.wide) (ex_load rfl (load1 (nagg_4 _) (St.cell S7 (i := 0) rfl rfl))) ?_
    simp only [pS, pN, pA, pC, pZ]
    refine do_ rfl (.bool true) (ex_eqlB Tryd.underlying4 rfl rfl (beq_iff_eq.2 e0)) ?_
    simp only [pS, pN, pA, pC, pZ]
    refine do_ rfl (.bool true) (ex_move _) ?_
    simp only [pS, pN, pA, pC, pZ]
    refine do_ rfl (.pointer (some ⟨n2, 0, none⟩)) (ex_field (q := ⟨n2, 0, none⟩) rfl (fa_38_0 _ _)) ?_
    simp only [pS, pN, pA, pC, pZ]
    refine do_ rfl (.slice x0 p.name.length x1) (ex_load rfl (load1 (nagg_22 _) (St.cell S7 (i := 1) rfl rfl))) ?_
    simp only [pS, pN, pA, pC, pZ]
    refine do_ rfl (.pointer (some ⟨n5, 0, none⟩)) (ex_field (q := ⟨n5, 0, none⟩) rfl (fa_38_0 _ _)) ?_
    simp only [pS, pN, pA, pC, pZ]
    refine do_ rfl (.slice y0 q.name.length y1) (ex_load rfl (load1 (nagg_22 _) (St.cell S7 (i := 0) rfl rfl))) ?_
    simp only [pS, pN, pA, pC, pZ]
    refine stTells (v := (.bool true)) S7 rfl (ex_fn (vs := #[(.slice x0 p.name.length x1), (.slice y0 q.name.length y1)]) (map2 rfl rfl) rfl (ent_47 _ _)) (tells_bool (bytesEqual_spec _ _ _ _ p.name q.name (S7).sat h0 k0) (beq_iff_eq.2 (e1))) (fun w9 S10 => ?_)
    simp only [pS, pN, pA, pC, pZ]
    refine do_ rfl (.bool true) (ex_pick (b := true) rfl) ?_
    simp only [pS, pN, pA, pC, pZ]
    refine do_ rfl (.bool true) (ex_move _) ?_
    simp only [pS, pN, pA, pC, pZ]
    refine do_ rfl (.pointer (some ⟨n2, 1, none⟩)) (ex_field (q := ⟨n2, 1, none⟩) rfl (fa_38_1 _ _)) ?_
    simp only [pS, pN, pA, pC, pZ]
    refine do_ rfl (.slice x2 p.key.length x3) (ex_load rfl (load1 (nagg_22 _) (St.cell S10 (i := 1) rfl rfl))) ?_
    simp only [pS, pN, pA, pC, pZ]
    refine do_ rfl (.pointer (some ⟨n5, 1, none⟩)) (ex_field (q := ⟨n5, 1, none⟩) rfl (fa_38_1 _ _)) ?_
    simp only [pS, pN, pA, pC, pZ]
    refine do_ rfl (.slice y2 q.key.length y3) (ex_load rfl (load1 (nagg_22 _) (St.cell S10 (i := 0) rfl rfl))) ?_
    simp only [pS, pN, pA, pC, pZ]
    refine stTells (v := (.bool true)) S10 rfl (ex_fn (vs := #[(.slice x2 p.key.length x3), (.slice y2 q.key.length y3)]) (map2 rfl rfl) rfl (ent_47 _ _)) (tells_bool (bytesEqual_spec _ _ _ _ p.key q.key (S10).sat h1 k1) (beq_iff_eq.2 (e2))) (fun w11 S12 => ?_)
    simp only [pS, pN, pA, pC, pZ]
    refine do_ rfl (.bool true) (ex_pick (b := true) rfl) ?_
    simp only [pS, pN, pA, pC, pZ]
    refine do_ rfl (.bool true) (ex_move _) ?_
    simp only [pS, pN, pA, pC, pZ]
    refine do_ rfl (.pointer (some ⟨n2, 3, none⟩)) (ex_field (q := ⟨n2, 3, none⟩) rfl (fa_38_3 _ _)) ?_
    simp only [pS, pN, pA, pC, pZ]
    refine do_ rfl (.slice x4 p.last.length x5) (ex_load rfl (load1 (nagg_22 _) (St.cell S12 (i := 1) rfl rfl))) ?_
    simp only [pS, pN, pA, pC, pZ]
    refine do_ rfl (.pointer (some ⟨n5, 3, none⟩)) (ex_field (q := ⟨n5, 3, none⟩) rfl (fa_38_3 _ _)) ?_
    simp only [pS, pN, pA, pC, pZ]
    refine do_ rfl (.slice y4 q.last.length y5) (ex_load rfl (load1 (nagg_22 _) (St.cell S12 (i := 0) rfl rfl))) ?_
    simp only [pS, pN, pA, pC, pZ]
    refine stTells (v := (.bool (p.last == q.last))) S12 rfl (ex_fn (vs := #[(.slice x4 p.last.length x5), (.slice y4 q.last.length y5)]) (map2 rfl rfl) rfl (ent_47 _ _)) (bytesEqual_spec _ _ _ _ p.last q.last (S12).sat h3 k3) (fun w13 S14 => ?_)
    simp only [pS, pN, pA, pC, pZ]
    refine do_ rfl (.bool (p.last == q.last)) (ex_pick (b := true) rfl) ?_
    simp only [pS, pN, pA, pC, pZ]
    refine do_ rfl (.bool (p.last == q.last)) (ex_assign _) ?_
    simp only [pS, pN, pA, pC, pZ]
    refine wl_nil (hK8 _ _ ?_)
    refine wp_ret ?_
    (try simp only [Exit.then, Exit.inBlock, ↓reduceIte, Nat.reduceEqDiff])
    refine bodyPost_ret (v := (.bool (p.last == q.last))) ?_ rfl ?_
    ·exact res_t rfl rfl
    ·exact ⟨by rw [show decide (p = q) = (p.last == q.last) from by rw [Bool.eq_iff_iff, decide_eq_true_iff, beq_iff_eq]; exact ⟨fun e => by rw [e], fun e => by cases p; cases q; simp_all⟩], S14.gr.below⟩
   ·refine region_wl ?_
    refine do_ rfl (.pointer (some ⟨n2, 2, none⟩)) (ex_field (q := ⟨n2, 2, none⟩) rfl (fa_38_2 _ _)) ?_
    simp only [pS, pN, pA, pC, pZ]
    refine do_ rfl (.bool p.wide) (ex_load rfl (load1 (nagg_4 _) (St.cell S7 (i := 1) rfl rfl))) ?_
    simp only [pS, pN, pA, pC, pZ]
    refine do_ rfl (.pointer (some ⟨n5, 2, none⟩)) (ex_field (q := ⟨n5, 2, none⟩) rfl (fa_38_2 _ _)) ?_
    simp only [pS, pN, pA, pC, pZ]
    refine do_ rfl (.bool q.wide) (ex_load rfl (load1 (nagg_4 _) (St.cell S7 (i := 0) rfl rfl))) ?_
    simp only [pS, pN, pA, pC, pZ]
    refine do_ rfl (.bool true) (ex_eqlB Tryd.underlying4 rfl rfl (beq_iff_eq.2 e0)) ?_
    simp only [pS, pN, pA, pC, pZ]
    refine do_ rfl (.bool true) (ex_move _) ?_
    simp only [pS, pN, pA, pC, pZ]
    refine do_ rfl (.pointer (some ⟨n2, 0, none⟩)) (ex_field (q := ⟨n2, 0, none⟩) rfl (fa_38_0 _ _)) ?_
    simp only [pS, pN, pA, pC, pZ]
    refine do_ rfl (.slice x0 p.name.length x1) (ex_load rfl (load1 (nagg_22 _) (St.cell S7 (i := 1) rfl rfl))) ?_
    simp only [pS, pN, pA, pC, pZ]
    refine do_ rfl (.pointer (some ⟨n5, 0, none⟩)) (ex_field (q := ⟨n5, 0, none⟩) rfl (fa_38_0 _ _)) ?_
    simp only [pS, pN, pA, pC, pZ]
    refine do_ rfl (.slice y0 q.name.length y1) (ex_load rfl (load1 (nagg_22 _) (St.cell S7 (i := 0) rfl rfl))) ?_
    simp only [pS, pN, pA, pC, pZ]
    refine stTells (v := (.bool true)) S7 rfl (ex_fn (vs := #[(.slice x0 p.name.length x1), (.slice y0 q.name.length y1)]) (map2 rfl rfl) rfl (ent_47 _ _)) (tells_bool (bytesEqual_spec _ _ _ _ p.name q.name (S7).sat h0 k0) (beq_iff_eq.2 (e1))) (fun w15 S16 => ?_)
    simp only [pS, pN, pA, pC, pZ]
    refine do_ rfl (.bool true) (ex_pick (b := true) rfl) ?_
    simp only [pS, pN, pA, pC, pZ]
    refine do_ rfl (.bool true) (ex_move _) ?_
    simp only [pS, pN, pA, pC, pZ]
    refine do_ rfl (.pointer (some ⟨n2, 1, none⟩)) (ex_field (q := ⟨n2, 1, none⟩) rfl (fa_38_1 _ _)) ?_
    simp only [pS, pN, pA, pC, pZ]
    refine do_ rfl (.slice x2 p.key.length x3) (ex_load rfl (load1 (nagg_22 _) (St.cell S16 (i := 1) rfl rfl))) ?_
    simp only [pS, pN, pA, pC, pZ]
    refine do_ rfl (.pointer (some ⟨n5, 1, none⟩)) (ex_field (q := ⟨n5, 1, none⟩) rfl (fa_38_1 _ _)) ?_
    simp only [pS, pN, pA, pC, pZ]
    refine do_ rfl (.slice y2 q.key.length y3) (ex_load rfl (load1 (nagg_22 _) (St.cell S16 (i := 0) rfl rfl))) ?_
    simp only [pS, pN, pA, pC, pZ]
    refine stTells (v := (.bool false)) S16 rfl (ex_fn (vs := #[(.slice x2 p.key.length x3), (.slice y2 q.key.length y3)]) (map2 rfl rfl) rfl (ent_47 _ _)) (tells_bool (bytesEqual_spec _ _ _ _ p.key q.key (S16).sat h1 k1) (beq_eq_false_iff_ne.2 (e2))) (fun w17 S18 => ?_)
    simp only [pS, pN, pA, pC, pZ]
    refine do_ rfl (.bool false) (ex_pick (b := true) rfl) ?_
    simp only [pS, pN, pA, pC, pZ]
    refine do_ rfl (.bool false) (ex_move _) ?_
    simp only [pS, pN, pA, pC, pZ]
    refine doN (wanted_no rfl rfl rfl (c := false) rfl (by decide)) ?_
    simp only [pS, pN, pA, pC, pZ]
    refine doN (wanted_no rfl rfl rfl (c := false) rfl (by decide)) ?_
    simp only [pS, pN, pA, pC, pZ]
    refine doN (wanted_no rfl rfl rfl (c := false) rfl (by decide)) ?_
    simp only [pS, pN, pA, pC, pZ]
    refine doN (wanted_no rfl rfl rfl (c := false) rfl (by decide)) ?_
    simp only [pS, pN, pA, pC, pZ]
    refine doN (wanted_no rfl rfl rfl (c := false) rfl (by decide)) ?_
    simp only [pS, pN, pA, pC, pZ]
    refine do_ rfl (.bool false) (ex_pick (b := false) rfl) ?_
    simp only [pS, pN, pA, pC, pZ]
    refine do_ rfl (.bool false) (ex_assign _) ?_
    simp only [pS, pN, pA, pC, pZ]
    refine wl_nil (hK8 _ _ ?_)
    refine wp_ret ?_
    (try simp only [Exit.then, Exit.inBlock, ↓reduceIte, Nat.reduceEqDiff])
    refine bodyPost_ret (v := (.bool false)) ?_ rfl ?_
    ·exact res_t rfl rfl
    ·exact ⟨by rw [decide_eq_false (fun e => e2 (by rw [e]))], S18.gr.below⟩
  ·refine region_wl ?_
   refine do_ rfl (.pointer (some ⟨n2, 2, none⟩)) (ex_field (q := ⟨n2, 2, none⟩) rfl (fa_38_2 _ _)) ?_
   simp only [pS, pN, pA, pC, pZ]
   refine do_ rfl (.bool p.wide) (ex_load rfl (load1 (nagg_4 _) (St.cell S7 (i := 1) rfl rfl))) ?_
   simp only [pS, pN, pA, pC, pZ]
   refine do_ rfl (.pointer (some ⟨n5, 2, none⟩)) (ex_field (q := ⟨n5, 2, none⟩) rfl (fa_38_2 _ _)) ?_
   simp only [pS, pN, pA, pC, pZ]
   refine do_ rfl (.bool q.wide) (ex_load rfl (load1 (nagg_4 _) (St.cell S7 (i := 0) rfl rfl))) ?_
   simp only [pS, pN, pA, pC, pZ]
   refine do_ rfl (.bool true) (ex_eqlB Tryd.underlying4 rfl rfl (beq_iff_eq.2 e0)) ?_
   simp only [pS, pN, pA, pC, pZ]
   refine do_ rfl (.bool true) (ex_move _) ?_
   simp only [pS, pN, pA, pC, pZ]
   refine do_ rfl (.pointer (some ⟨n2, 0, none⟩)) (ex_field (q := ⟨n2, 0, none⟩) rfl (fa_38_0 _ _)) ?_
   simp only [pS, pN, pA, pC, pZ]
   refine do_ rfl (.slice x0 p.name.length x1) (ex_load rfl (load1 (nagg_22 _) (St.cell S7 (i := 1) rfl rfl))) ?_
   simp only [pS, pN, pA, pC, pZ]
   refine do_ rfl (.pointer (some ⟨n5, 0, none⟩)) (ex_field (q := ⟨n5, 0, none⟩) rfl (fa_38_0 _ _)) ?_
   simp only [pS, pN, pA, pC, pZ]
   refine do_ rfl (.slice y0 q.name.length y1) (ex_load rfl (load1 (nagg_22 _) (St.cell S7 (i := 0) rfl rfl))) ?_
   simp only [pS, pN, pA, pC, pZ]
   refine stTells (v := (.bool false)) S7 rfl (ex_fn (vs := #[(.slice x0 p.name.length x1), (.slice y0 q.name.length y1)]) (map2 rfl rfl) rfl (ent_47 _ _)) (tells_bool (bytesEqual_spec _ _ _ _ p.name q.name (S7).sat h0 k0) (beq_eq_false_iff_ne.2 (e1))) (fun w19 S20 => ?_)
   simp only [pS, pN, pA, pC, pZ]
   refine do_ rfl (.bool false) (ex_pick (b := true) rfl) ?_
   simp only [pS, pN, pA, pC, pZ]
   refine do_ rfl (.bool false) (ex_move _) ?_
   simp only [pS, pN, pA, pC, pZ]
   refine doN (wanted_no rfl rfl rfl (c := false) rfl (by decide)) ?_
   simp only [pS, pN, pA, pC, pZ]
   refine doN (wanted_no rfl rfl rfl (c := false) rfl (by decide)) ?_
   simp only [pS, pN, pA, pC, pZ]
   refine doN (wanted_no rfl rfl rfl (c := false) rfl (by decide)) ?_
   simp only [pS, pN, pA, pC, pZ]
   refine doN (wanted_no rfl rfl rfl (c := false) rfl (by decide)) ?_
   simp only [pS, pN, pA, pC, pZ]
   refine doN (wanted_no rfl rfl rfl (c := false) rfl (by decide)) ?_
   simp only [pS, pN, pA, pC, pZ]
   refine do_ rfl (.bool false) (ex_pick (b := false) rfl) ?_
   simp only [pS, pN, pA, pC, pZ]
   refine do_ rfl (.bool false) (ex_move _) ?_
   simp only [pS, pN, pA, pC, pZ]
   refine doN (wanted_no rfl rfl rfl (c := false) rfl (by decide)) ?_
   simp only [pS, pN, pA, pC, pZ]
   refine doN (wanted_no rfl rfl rfl (c := false) rfl (by decide)) ?_
   simp only [pS, pN, pA, pC, pZ]
   refine doN (wanted_no rfl rfl rfl (c := false) rfl (by decide)) ?_
   simp only [pS, pN, pA, pC, pZ]
   refine doN (wanted_no rfl rfl rfl (c := false) rfl (by decide)) ?_
   simp only [pS, pN, pA, pC, pZ]
   refine doN (wanted_no rfl rfl rfl (c := false) rfl (by decide)) ?_
   simp only [pS, pN, pA, pC, pZ]
   refine do_ rfl (.bool false) (ex_pick (b := false) rfl) ?_
   simp only [pS, pN, pA, pC, pZ]
   refine do_ rfl (.bool false) (ex_assign _) ?_
   simp only [pS, pN, pA, pC, pZ]
   refine wl_nil (hK8 _ _ ?_)
   refine wp_ret ?_
   (try simp only [Exit.then, Exit.inBlock, ↓reduceIte, Nat.reduceEqDiff])
   refine bodyPost_ret (v := (.bool false)) ?_ rfl ?_
   ·exact res_t rfl rfl
   ·exact ⟨by rw [decide_eq_false (fun e => e1 (by rw [e]))], S20.gr.below⟩
 ·refine region_wl ?_
  refine do_ rfl (.pointer (some ⟨n2, 2, none⟩)) (ex_field (q := ⟨n2, 2, none⟩) rfl (fa_38_2 _ _)) ?_
  simp only [pS, pN, pA, pC, pZ]
  refine do_ rfl (.bool p.wide) (ex_load rfl (load1 (nagg_4 _) (St.cell S7 (i := 1) rfl rfl))) ?_
  simp only [pS, pN, pA, pC, pZ]
  refine do_ rfl (.pointer (some ⟨n5, 2, none⟩)) (ex_field (q := ⟨n5, 2, none⟩) rfl (fa_38_2 _ _)) ?_
  simp only [pS, pN, pA, pC, pZ]
  refine do_ rfl (.bool q.wide) (ex_load rfl (load1 (nagg_4 _) (St.cell S7 (i := 0) rfl rfl))) ?_
  simp only [pS, pN, pA, pC, pZ]
  refine do_ rfl (.bool false) (ex_eqlB Tryd.underlying4 rfl rfl (beq_eq_false_iff_ne.2 e0)) ?_
  simp only [pS, pN, pA, pC, pZ]
  refine do_ rfl (.bool false) (ex_move _) ?_
  simp only [pS, pN, pA, pC, pZ]
  refine doN (wanted_no rfl rfl rfl (c := false) rfl (by decide)) ?_
  simp only [pS, pN, pA, pC, pZ]
  refine doN (wanted_no rfl rfl rfl (c := false) rfl (by decide)) ?_
  simp only [pS, pN, pA, pC, pZ]
  refine doN (wanted_no rfl rfl rfl (c := false) rfl (by decide)) ?_
  simp only [pS, pN, pA, pC, pZ]
  refine doN (wanted_no rfl rfl rfl (c := false) rfl (by decide)) ?_
  simp only [pS, pN, pA, pC, pZ]
  refine doN (wanted_no rfl rfl rfl (c := false) rfl (by decide)) ?_
  simp only [pS, pN, pA, pC, pZ]
  refine do_ rfl (.bool false) (ex_pick (b := false) rfl) ?_
  simp only [pS, pN, pA, pC, pZ]
  refine do_ rfl (.bool false) (ex_move _) ?_
  simp only [pS, pN, pA, pC, pZ]
  refine doN (wanted_no rfl rfl rfl (c := false) rfl (by decide)) ?_
  simp only [pS, pN, pA, pC, pZ]
  refine doN (wanted_no rfl rfl rfl (c := false) rfl (by decide)) ?_
  simp only [pS, pN, pA, pC, pZ]
  refine doN (wanted_no rfl rfl rfl (c := false) rfl (by decide)) ?_
  simp only [pS, pN, pA, pC, pZ]
  refine doN (wanted_no rfl rfl rfl (c := false) rfl (by decide)) ?_
  simp only [pS, pN, pA, pC, pZ]
  refine doN (wanted_no rfl rfl rfl (c := false) rfl (by decide)) ?_
  simp only [pS, pN, pA, pC, pZ]
  refine do_ rfl (.bool false) (ex_pick (b := false) rfl) ?_
  simp only [pS, pN, pA, pC, pZ]
  refine do_ rfl (.bool false) (ex_move _) ?_
  simp only [pS, pN, pA, pC, pZ]
  refine doN (wanted_no rfl rfl rfl (c := false) rfl (by decide)) ?_
  simp only [pS, pN, pA, pC, pZ]
  refine doN (wanted_no rfl rfl rfl (c := false) rfl (by decide)) ?_
  simp only [pS, pN, pA, pC, pZ]
  refine doN (wanted_no rfl rfl rfl (c := false) rfl (by decide)) ?_
  simp only [pS, pN, pA, pC, pZ]
  refine doN (wanted_no rfl rfl rfl (c := false) rfl (by decide)) ?_
  simp only [pS, pN, pA, pC, pZ]
  refine doN (wanted_no rfl rfl rfl (c := false) rfl (by decide)) ?_
  simp only [pS, pN, pA, pC, pZ]
  refine do_ rfl (.bool false) (ex_pick (b := false) rfl) ?_
  simp only [pS, pN, pA, pC, pZ]
  refine do_ rfl (.bool false) (ex_assign _) ?_
  simp only [pS, pN, pA, pC, pZ]
  refine wl_nil (hK8 _ _ ?_)
  refine wp_ret ?_
  (try simp only [Exit.then, Exit.inBlock, ↓reduceIte, Nat.reduceEqDiff])
  refine bodyPost_ret (v := (.bool false)) ?_ rfl ?_
  ·exact res_t rfl rfl
  ·exact ⟨by rw [decide_eq_false (fun e => e0 (by rw [e]))], S7.gr.below⟩
/-- What is wrong with a read. -/
def rdE (r : Rd) : Int := if nameN r.name.length ≠ 0 then nameN r.name.length else if checkN r.key.length ≠ 0 then checkN r.key.length else if r.wide = true then checkN r.last.length else if 0 < r.last.length then 4 else 0
set_option maxHeartbeats 8000000 in
theorem shape_spec (F : Fz) (w : World) (v : Value) (r : Rd) (hs : Sat w F) (hv : RdV F v r) :
    Calls Tryd.prog 31 #[v] w (Tells w (.int .i64 (rdE r))) := by
 obtain ⟨x0, x1, x2, x3, x4, x5, rfl, h0, h1, h3⟩ := hv
 have S := St.start hs
 go_enter Tryd.func31, Tryd.ntmps31
 refine wp_seq_k (fun K1 hK1 => region_wl ?_)
 refine stNew S (v := fun n => .pointer (some ⟨n, 0, none⟩)) rfl (ex_box (v := (.agg #[(.slice x0 r.name.length x1), (.slice x2 r.key.length x3), (.bool r.wide), (.slice x4 r.last.length x5)])) rfl) (fun n2 w3 S4 => ?_)
 simp only [pS, pN, pA, pC, pZ]
 have S4 : St w F w3 F [⟨n2, [(.slice x0 r.name.length x1), (.slice x2 r.key.length x3), (.bool r.wide), (.slice x4 r.last.length x5)], 38⟩] [] := S4
 refine do_ rfl (.int .i64 0) (ex_assign _) ?_
 simp only [pS, pN, pA, pC, pZ]
 refine wl_nil (hK1 _ _ ?_)
 refine wp_seq_k (fun K5 hK5 => ?_)
 refine wp_seq_k (fun K6 hK6 => region_wl ?_)
 refine do_ rfl (.pointer (some ⟨n2, 0, none⟩)) (ex_field (q := ⟨n2, 0, none⟩) rfl (fa_38_0 _ _)) ?_
 simp only [pS, pN, pA, pC, pZ]
 refine do_ rfl (.slice x0 r.name.length x1) (ex_load rfl (load1 (nagg_22 _) (St.cell S4 (i := 0) rfl rfl))) ?_
 simp only [pS, pN, pA, pC, pZ]
 refine stTells (v := (.int .i64 (nameN r.name.length))) S4 rfl (ex_fn (vs := #[(.slice x0 r.name.length x1)]) (map1 rfl) rfl (ent_28 _ _)) (tells_same (name_len _ _ _ _)) (fun w7 S8 => ?_)
 simp only [pS, pN, pA, pC, pZ]
 refine do_ rfl (.int .i64 (nameN r.name.length)) (ex_assign _) ?_
 simp only [pS, pN, pA, pC, pZ]
 refine wl_nil (hK6 _ _ ?_)
 refine wp_seq_k (fun K9 hK9 => region_wl ?_)
 refine do_ rfl (.int .i64 (nameN r.name.length)) (ex_move _) ?_
 simp only [pS, pN, pA, pC, pZ]
 by_cases hc9 : (nameN r.name.length) = (0 : Int)
 ·refine do_ rfl (.bool false) (ex_neq (m := (nameN r.name.length)) (n := (0 : Int)) (b := false) rfl rfl (bne_eq_false_iff_eq.2 (by omega))) ?_
  simp only [pS, pN, pA, pC, pZ]
  refine wl_nil (hK9 _ _ ?_)
  refine wp_cond_false rfl ?_
  refine wp_skip ?_
  refine hK5 _ _ ?_
  refine wp_seq_k (fun K10 hK10 => ?_)
  refine wp_seq_k (fun K11 hK11 => region_wl ?_)
  refine do_ rfl (.pointer (some ⟨n2, 1, none⟩)) (ex_field (q := ⟨n2, 1, none⟩) rfl (fa_38_1 _ _)) ?_
  simp only [pS, pN, pA, pC, pZ]
  refine do_ rfl (.slice x2 r.key.length x3) (ex_load rfl (load1 (nagg_22 _) (St.cell S8 (i := 0) rfl rfl))) ?_
  simp only [pS, pN, pA, pC, pZ]
  refine stTells (v := (.int .i64 (checkN r.key.length))) S8 rfl (ex_fn (vs := #[(.slice x2 r.key.length x3)]) (map1 rfl) rfl (ent_29 _ _)) (tells_same (check_spec _ _ _ r.key h1)) (fun w12 S13 => ?_)
  simp only [pS, pN, pA, pC, pZ]
  refine do_ rfl (.int .i64 (checkN r.key.length)) (ex_assign _) ?_
  simp only [pS, pN, pA, pC, pZ]
  refine wl_nil (hK11 _ _ ?_)
  refine wp_seq_k (fun K14 hK14 => region_wl ?_)
  refine do_ rfl (.int .i64 (checkN r.key.length)) (ex_move _) ?_
  simp only [pS, pN, pA, pC, pZ]
  by_cases hc15 : (checkN r.key.length) = (0 : Int)
  ·refine do_ rfl (.bool false) (ex_neq (m := (checkN r.key.length)) (n := (0 : Int)) (b := false) rfl rfl (bne_eq_false_iff_eq.2 (by omega))) ?_
   simp only [pS, pN, pA, pC, pZ]
   refine wl_nil (hK14 _ _ ?_)
   refine wp_cond_false rfl ?_
   refine wp_skip ?_
   refine hK10 _ _ ?_
   refine wp_seq_k (fun K15 hK15 => ?_)
   refine wp_seq_k (fun K16 hK16 => region_wl ?_)
   refine do_ rfl (.pointer (some ⟨n2, 2, none⟩)) (ex_field (q := ⟨n2, 2, none⟩) rfl (fa_38_2 _ _)) ?_
   simp only [pS, pN, pA, pC, pZ]
   refine do_ rfl (.bool r.wide) (ex_load rfl (load1 (nagg_4 _) (St.cell S13 (i := 0) rfl rfl))) ?_
   simp only [pS, pN, pA, pC, pZ]
   refine do_ rfl (.bool (!r.wide)) (ex_not rfl rfl) ?_
   simp only [pS, pN, pA, pC, pZ]
   refine wl_nil (hK16 _ _ ?_)
   refine wp_cond_split rfl (fun hwd => ?_) (fun hwd => ?_)
   ·refine wp_seq_k (fun K17 hK17 => ?_)
    refine wp_seq_k (fun K18 hK18 => region_wl ?_)
    refine do_ rfl (.pointer (some ⟨n2, 3, none⟩)) (ex_field (q := ⟨n2, 3, none⟩) rfl (fa_38_3 _ _)) ?_
    simp only [pS, pN, pA, pC, pZ]
    refine do_ rfl (.slice x4 r.last.length x5) (ex_load rfl (load1 (nagg_22 _) (St.cell S13 (i := 0) rfl rfl))) ?_
    simp only [pS, pN, pA, pC, pZ]
    refine do_ rfl (.int .i64 ((r.last.length : Nat) : Int)) (ex_len Tryd.underlying22 rfl) ?_
    simp only [pS, pN, pA, pC, pZ]
    by_cases hc23 : 0 < r.last.length
    ·refine do_ rfl (.bool true) (ex_gtr (m := ((r.last.length : Nat) : Int)) (n := (0 : Int)) (b := true) rfl rfl (decide_eq_true (by omega))) ?_
     simp only [pS, pN, pA, pC, pZ]
     refine wl_nil (hK18 _ _ ?_)
     refine wp_cond_true rfl ?_
     refine wp_seq_k (fun K19 hK19 => region_wl ?_)
     refine do_ rfl (.int .i64 4) (ex_assign _) ?_
     simp only [pS, pN, pA, pC, pZ]
     refine wl_nil (hK19 _ _ ?_)
     refine wp_ret ?_
     (try simp only [Exit.then, Exit.inBlock, ↓reduceIte, Nat.reduceEqDiff])
     refine bodyPost_ret (v := (.int .i64 4)) ?_ rfl ?_
     ·exact res_t rfl rfl
     ·exact ⟨by unfold rdE; rw [if_neg (by omega), if_neg (by omega), if_neg (by simpa using hwd), if_pos (by omega)], S13.gr.below⟩
    ·refine do_ rfl (.bool false) (ex_gtr (m := ((r.last.length : Nat) : Int)) (n := (0 : Int)) (b := false) rfl rfl (decide_eq_false (by omega))) ?_
     simp only [pS, pN, pA, pC, pZ]
     refine wl_nil (hK18 _ _ ?_)
     refine wp_cond_false rfl ?_
     refine wp_skip ?_
     refine hK17 _ _ ?_
     refine wp_seq_k (fun K20 hK20 => region_wl ?_)
     refine do_ rfl (.int .i64 0) (ex_assign _) ?_
     simp only [pS, pN, pA, pC, pZ]
     refine wl_nil (hK20 _ _ ?_)
     refine wp_ret ?_
     (try simp only [Exit.then, Exit.inBlock, ↓reduceIte, Nat.reduceEqDiff])
     refine bodyPost_ret (v := (.int .i64 0)) ?_ rfl ?_
     ·exact res_t rfl rfl
     ·exact ⟨by unfold rdE; rw [if_neg (by omega), if_neg (by omega), if_neg (by simpa using hwd), if_neg (by omega)], S13.gr.below⟩
   ·refine wp_skip ?_
    refine hK15 _ _ ?_
    refine wp_seq_k (fun K21 hK21 => region_wl ?_)
    refine do_ rfl (.pointer (some ⟨n2, 3, none⟩)) (ex_field (q := ⟨n2, 3, none⟩) rfl (fa_38_3 _ _)) ?_
    simp only [pS, pN, pA, pC, pZ]
    refine do_ rfl (.slice x4 r.last.length x5) (ex_load rfl (load1 (nagg_22 _) (St.cell S13 (i := 0) rfl rfl))) ?_
    simp only [pS, pN, pA, pC, pZ]
    refine stTells (v := (.int .i64 (checkN r.last.length))) S13 rfl (ex_fn (vs := #[(.slice x4 r.last.length x5)]) (map1 rfl) rfl (ent_29 _ _)) (tells_same (check_spec _ _ _ r.last h3)) (fun w22 S23 => ?_)
    simp only [pS, pN, pA, pC, pZ]
    refine do_ rfl (.int .i64 (checkN r.last.length)) (ex_assign _) ?_
    simp only [pS, pN, pA, pC, pZ]
    refine wl_nil (hK21 _ _ ?_)
    refine wp_ret ?_
    (try simp only [Exit.then, Exit.inBlock, ↓reduceIte, Nat.reduceEqDiff])
    refine bodyPost_ret (v := (.int .i64 (checkN r.last.length))) ?_ rfl ?_
    ·exact res_t rfl rfl
    ·exact ⟨by unfold rdE; rw [if_neg (by omega), if_neg (by omega), if_pos (by simpa using hwd)], S23.gr.below⟩
  ·refine do_ rfl (.bool true) (ex_neq (m := (checkN r.key.length)) (n := (0 : Int)) (b := true) rfl rfl (bne_iff_ne.2 (by omega))) ?_
   simp only [pS, pN, pA, pC, pZ]
   refine wl_nil (hK14 _ _ ?_)
   refine wp_cond_true rfl ?_
   refine wp_seq_k (fun K24 hK24 => region_wl ?_)
   refine do_ rfl (.int .i64 (checkN r.key.length)) (ex_move _) ?_
   simp only [pS, pN, pA, pC, pZ]
   refine do_ rfl (.int .i64 (checkN r.key.length)) (ex_assign _) ?_
   simp only [pS, pN, pA, pC, pZ]
   refine wl_nil (hK24 _ _ ?_)
   refine wp_ret ?_
   (try simp only [Exit.then, Exit.inBlock, ↓reduceIte, Nat.reduceEqDiff])
   refine bodyPost_ret (v := (.int .i64 (checkN r.key.length))) ?_ rfl ?_
   ·exact res_t rfl rfl
   ·exact ⟨by unfold rdE; rw [if_neg (by omega), if_pos hc15], S13.gr.below⟩
 ·refine do_ rfl (.bool true) (ex_neq (m := (nameN r.name.length)) (n := (0 : Int)) (b := true) rfl rfl (bne_iff_ne.2 (by omega))) ?_
  simp only [pS, pN, pA, pC, pZ]
  refine wl_nil (hK9 _ _ ?_)
  refine wp_cond_true rfl ?_
  refine wp_seq_k (fun K25 hK25 => region_wl ?_)
  refine do_ rfl (.int .i64 (nameN r.name.length)) (ex_move _) ?_
  simp only [pS, pN, pA, pC, pZ]
  refine do_ rfl (.int .i64 (nameN r.name.length)) (ex_assign _) ?_
  simp only [pS, pN, pA, pC, pZ]
  refine wl_nil (hK25 _ _ ?_)
  refine wp_ret ?_
  (try simp only [Exit.then, Exit.inBlock, ↓reduceIte, Nat.reduceEqDiff])
  refine bodyPost_ret (v := (.int .i64 (nameN r.name.length))) ?_ rfl ?_
  ·exact res_t rfl rfl
  ·exact ⟨by unfold rdE; rw [if_pos hc9], S8.gr.below⟩
set_option maxHeartbeats 8000000 in
theorem read_spec (F : Fz) (w : World) (v : Value) (r : Rd) (hs : Sat w F) (hv : RdV F v r) (hb0 : r.name.length ≤ 100000) (hb1 : r.key.length ≤ 100000) (hb2 : r.last.length ≤ 100000) :
    Calls Tryd.prog 36 #[v] w (Gives w F fun F' u => RdV F' u r) := by
 obtain ⟨x0, x1, x2, x3, x4, x5, rfl, h0, h1, h3⟩ := hv
 have S := St.start hs
 go_enter Tryd.func36, Tryd.ntmps36
 refine wp_seq_k (fun K1 hK1 => region_wl ?_)
 refine stNew S (v := fun n => .pointer (some ⟨n, 0, none⟩)) rfl (ex_box (v := (.agg #[(.slice x0 r.name.length x1), (.slice x2 r.key.length x3), (.bool r.wide), (.slice x4 r.last.length x5)])) rfl) (fun n2 w3 S4 => ?_)
 simp only [pS, pN, pA, pC, pZ]
 have S4 : St w F w3 F [⟨n2, [(.slice x0 r.name.length x1), (.slice x2 r.key.length x3), (.bool r.wide), (.slice x4 r.last.length x5)], 38⟩] [] := S4
 refine stNew S4 (v := fun n => .pointer (some ⟨n, 0, none⟩)) rfl (ex_alloc (zero_38 _)) (fun n5 w6 S7 => ?_)
 simp only [pS, pN, pA, pC, pZ]
 have S7 : St w F w6 F [⟨n5, [(.slice none 0 0), (.slice none 0 0), (.bool false), (.slice none 0 0)], 38⟩, ⟨n2, [(.slice x0 r.name.length x1), (.slice x2 r.key.length x3), (.bool r.wide), (.slice x4 r.last.length x5)], 38⟩] [] := S7
 refine wl_nil (hK1 _ _ ?_)
 refine wp_seq_k (fun K8 hK8 => ?_)
 refine region_gw F 11 [(2, .made (fun F' u => Bs F' u r.name)), (5, .made (fun F' u => Bs F' u r.key)), (10, .made (fun F' u => Bs F' u r.last))] (by kernel_rfl) (by kernel_rfl) ?_
 simp only [List.take_succ_cons, List.take_zero]
 refine gw_pure rfl rfl (.pointer (some ⟨n2, 0, none⟩)) (fun w9 hCw9 => pureAt_of (ex_field (q := ⟨n2, 0, none⟩) rfl (fa_38_0 _ _))) ?_
 simp only [pS, pN, pA, pC, pZ]
 refine gw_pure rfl rfl (.slice x0 r.name.length x1) (fun w9 hCw9 => pureAt_of (ex_load rfl (load1 (nagg_22 _) (St.cell (St.tells S7 hCw9) (i := 1) rfl rfl)))) ?_
 simp only [pS, pN, pA, pC, pZ]
 refine gw_rel rfl rfl (fun w9 hCw9 hF => does_call (ex_fn (vs := #[(.slice x0 r.name.length x1)]) (map1 rfl) rfl (ent_24 _ _)) (call_made S7.sat hCw9 (clone_spec _ _ _ r.name ((St.tells S7 hCw9)).sat h0 (by omega)))) (fun v10 => ?_)
 simp only [pS, pN, pA, pC, pZ]
 refine gw_pure rfl rfl (.pointer (some ⟨n2, 1, none⟩)) (fun w9 hCw9 => pureAt_of (ex_field (q := ⟨n2, 1, none⟩) rfl (fa_38_1 _ _))) ?_
 simp only [pS, pN, pA, pC, pZ]
 refine gw_pure rfl rfl (.slice x2 r.key.length x3) (fun w9 hCw9 => pureAt_of (ex_load rfl (load1 (nagg_22 _) (St.cell (St.tells S7 hCw9) (i := 1) rfl rfl)))) ?_
 simp only [pS, pN, pA, pC, pZ]
 refine gw_rel rfl rfl (fun w9 hCw9 hF => does_call (ex_fn (vs := #[(.slice x2 r.key.length x3)]) (map1 rfl) rfl (ent_24 _ _)) (call_made S7.sat hCw9 (clone_spec _ _ _ r.key ((St.tells S7 hCw9)).sat h1 (by omega)))) (fun v11 => ?_)
 simp only [pS, pN, pA, pC, pZ]
 refine gw_pure rfl rfl (.pointer (some ⟨n2, 2, none⟩)) (fun w9 hCw9 => pureAt_of (ex_field (q := ⟨n2, 2, none⟩) rfl (fa_38_2 _ _))) ?_
 simp only [pS, pN, pA, pC, pZ]
 refine gw_pure rfl rfl (.bool r.wide) (fun w9 hCw9 => pureAt_of (ex_load rfl (load1 (nagg_4 _) (St.cell (St.tells S7 hCw9) (i := 1) rfl rfl)))) ?_
 simp only [pS, pN, pA, pC, pZ]
 refine gw_pure rfl rfl (.pointer (some ⟨n2, 3, none⟩)) (fun w9 hCw9 => pureAt_of (ex_field (q := ⟨n2, 3, none⟩) rfl (fa_38_3 _ _))) ?_
 simp only [pS, pN, pA, pC, pZ]
 refine gw_pure rfl rfl (.slice x4 r.last.length x5) (fun w9 hCw9 => pureAt_of (ex_load rfl (load1 (nagg_22 _) (St.cell (St.tells S7 hCw9) (i := 1) rfl rfl)))) ?_
 simp only [pS, pN, pA, pC, pZ]
 refine gw_rel rfl rfl (fun w9 hCw9 hF => does_call (ex_fn (vs := #[(.slice x4 r.last.length x5)]) (map1 rfl) rfl (ent_24 _ _)) (call_made S7.sat hCw9 (clone_spec _ _ _ r.last ((St.tells S7 hCw9)).sat h3 (by omega)))) (fun v12 => ?_)
 simp only [pS, pN, pA, pC, pZ]
 refine gw_nil ?_
 intro w13 hC15 hF16
 obtain ⟨F17, g18, R19⟩ := hF16.get 2 rfl rfl
 obtain ⟨F20, g21, R22⟩ := hF16.get 5 rfl rfl
 obtain ⟨F23, g24, R25⟩ := hF16.get 10 rfl rfl
 have S14 := St.gives S7 ((g18.both g21).both g24)
 have le27 : Le _ _ := ((g18.both g21).both g24).le S7.sat
 have R28 := (R19.mono ((both_left F17 F20).trans (both_left (both F17 F20) F23)))
 have R29 := (R22.mono ((both_right g18.sat g21.sat).trans (both_left (both F17 F20) F23)))
 have R30 := (R25.mono (both_right (g18.both g21).sat g24.sat))
 generalize (both (both F17 F20) F23) = F26 at *
 obtain ⟨xa31, xc32, rfl, _⟩ := R28.shape
 obtain ⟨xa33, xc34, rfl, _⟩ := R29.shape
 obtain ⟨xa35, xc36, rfl, _⟩ := R30.shape
 clear hF16
 simp only [List.drop_succ_cons, List.drop_zero]
 refine do_ rfl (.agg #[(.slice xa31 r.name.length xc32), (.slice xa33 r.key.length xc34), (.bool r.wide), (.slice xa35 r.last.length xc36)]) (ex_build (ps := #[(0, (.slice xa31 r.name.length xc32)), (1, (.slice xa33 r.key.length xc34)), (2, (.bool r.wide)), (3, (.slice xa35 r.last.length xc36))]) (bmap4 rfl rfl rfl rfl) (by kernel_rfl)) ?_
 simp only [pS, pN, pA, pC, pZ]
 refine stStore (i := 0) (v := (.agg #[(.slice xa31 r.name.length xc32), (.slice xa33 r.key.length xc34), (.bool r.wide), (.slice xa35 r.last.length xc36)])) S14 rfl rfl rfl rfl (size_38) (allc4 rfl rfl rfl rfl) (Nat.le_of_ble_eq_true rfl) (fun w37 S38 => ?_)
 simp only [pS, pN, pA, pC, pZ]
 have S38 : St w F w37 F26 [⟨n5, [(.slice xa31 r.name.length xc32), (.slice xa33 r.key.length xc34), (.bool r.wide), (.slice xa35 r.last.length xc36)], 38⟩, ⟨n2, [(.slice x0 r.name.length x1), (.slice x2 r.key.length x3), (.bool r.wide), (.slice x4 r.last.length x5)], 38⟩] [] := S38
 refine wl_nil (hK8 _ _ ?_)
 refine wp_ret ?_
 (try simp only [Exit.then, Exit.inBlock, ↓reduceIte, Nat.reduceEqDiff])
 refine bodyPost_ret (v := (.agg #[(.slice xa31 r.name.length xc32), (.slice xa33 r.key.length xc34), (.bool r.wide), (.slice xa35 r.last.length xc36)])) ?_ rfl ?_
 ·exact res_c rfl ⟨_, rfl, loadN (cs := [(.slice xa31 r.name.length xc32), (.slice xa33 r.key.length xc34), (.bool r.wide), (.slice xa35 r.last.length xc36)]) Tryd.underlying38 rfl (size_38) (St.range S38 (i := 0) rfl 0 [(.slice xa31 r.name.length xc32), (.slice xa33 r.key.length xc34), (.bool r.wide), (.slice xa35 r.last.length xc36)] (sub_range 0 rfl))⟩
 ·exact ⟨_, _, rfl, S38.gr, _, _, _, _, _, _, rfl, R28, R29, R30⟩
set_option maxHeartbeats 8000000 in
theorem txnWritesO_spec (F : Fz) (w : World) (v : Value) (ws : List Wr) (hs : Sat w F) (hv : Wrs F v ws) (hl : ws.length ≤ 100000) (hb : ∀ r ∈ ws, r.name.length ≤ 100000 ∧ r.key.length ≤ 100000 ∧ r.value.length ≤ 100000) :
    Calls Tryd.prog 38 #[v] w (GivesO w F 4 WrC 42 ws) := by
 obtain ⟨a, c, rfl, hc1, hc2⟩ := Sl.shape hv
 unfold maxLen at hc2
 obtain ⟨i42, hi42, hz42, hs42, hb42⟩ := info_parts info_42
 have S := St.start hs
 go_enter Tryd.func38, Tryd.ntmps38
 refine wp_seq_k (fun K1 hK1 => region_wl ?_)
 refine do_ rfl (.slice none 0 0) (ex_assign _) ?_
 simp only [pS, pN, pA, pC, pZ]
 refine wl_nil (hK1 _ _ ?_)
 refine wp_seq_k (fun K2 hK2 => region_wl ?_)
 refine do_ rfl (.slice none 0 0) (ex_assign _) ?_
 simp only [pS, pN, pA, pC, pZ]
 refine wl_nil (hK2 _ _ ?_)
 refine wp_seq_k (fun K3 hK3 => ?_)
 refine wp_seq_k (fun K4 hK4 => region_wl ?_)
 refine do_ rfl (.slice a ws.length c) (ex_move _) ?_
 simp only [pS, pN, pA, pC, pZ]
 refine do_ rfl (.int .i64 ((ws.length : Nat) : Int)) (ex_len Tryd.underlying61 rfl) ?_
 simp only [pS, pN, pA, pC, pZ]
 refine do_ rfl (.int .i64 0) (ex_move _) ?_
 simp only [pS, pN, pA, pC, pZ]
 refine wl_nil (hK4 _ _ ?_)
 refine wp_block ?_
 have S5 := St.addNil S 4 WrC WrC.mono 42 w.heap.size
 refine wp_loop_g (fun mm aa w8 => ∃ (k : Nat) (v : Value) (F6 : Fz) (u7 : Nat → Value), mm = ws.length - k ∧ u7 = slots aa ∧ aa = ⟨#[(.slice a ws.length c), undef, (.slice none 0 0), v, undef, (u7 5), (.slice a ws.length c), (.int .i64 ((ws.length : Nat) : Int)), (.int .i64 ((k : Nat) : Int)), (u7 9), (u7 10), (u7 11), (u7 12), (u7 13), (u7 14), (u7 15), (u7 16), (u7 17), (u7 18), (u7 19), (u7 20), (u7 21), (u7 22), (u7 23), (u7 24), (u7 25), (u7 26), (u7 27), undef], []⟩ ∧ St w F w8 F6 [] [ownP 4 WrC WrC.mono 42 w.heap.size v (ws.take k)] ∧ Le F F6 ∧ (k ≤ ws.length)) _ ⟨0, (.slice none 0 0), F, _, rfl, rfl, rfl, S5, Le.refl _, (by omega)⟩ ?_
 rintro m9 a10 w11 ⟨k, v, F6, u7, rfl, -, rfl, S12, le13, hk⟩ K14 hK14
 refine wp_seq_k (fun K15 hK15 => region_wl ?_)
 by_cases hc9 : k < ws.length
 ·refine do_ rfl (.bool true) (ex_lss (m := ((k : Nat) : Int)) (n := ((ws.length : Nat) : Int)) (b := true) rfl rfl (decide_eq_true (by omega))) ?_
  simp only [pS, pN, pA, pC, pZ]
  refine wl_nil (hK15 _ _ ?_)
  refine wp_seq_k (fun K16 hK16 => ?_)
  refine wp_cond_true rfl ?_
  refine wp_skip ?_
  refine hK16 _ _ ?_
  refine wp_seq_k (fun K17 hK17 => ?_)
  refine wp_block ?_
  refine wp_seq_k (fun K18 hK18 => ?_)
  obtain ⟨p, hp⟩ : ∃ p, ws[k]? = some p := ⟨ws[k], List.getElem?_eq_getElem hc9⟩
  obtain ⟨hb0, hb1, hb2⟩ := hb p (List.mem_of_getElem? hp)
  have htk : (ws.take k).length = k := by rw [List.length_take]; omega
  obtain ⟨b19, o20, ha21, xa23, xc24, xa27, xc28, xa32, xc33, c22, c26, c30, c31, r25, r29, r34⟩ := Wrs.get (hv.mono le13) hp
  refine region_wl ?_
  refine do_ rfl (.pointer (some ⟨b19, o20 + k * 4, none⟩)) (ex_at (i := k) (sz := 4) Tryd.underlying61 (sizeof_42 _) rfl ha21 rfl (by omega) rfl) ?_
  simp only [pS, pN, pA, pC, pZ]
  refine do_ rfl (.agg #[(.slice xa23 p.name.length xc24), (.slice xa27 p.key.length xc28), (.bool p.gone), (.slice xa32 p.value.length xc33)]) (ex_load rfl (loadN (cs := [(.slice xa23 p.name.length xc24), (.slice xa27 p.key.length xc28), (.bool p.gone), (.slice xa32 p.value.length xc33)]) Tryd.underlying42 rfl (size_42) (range4 (St.fz S12 c22) (St.fz S12 c26) (St.fz S12 c30) (St.fz S12 c31)))) ?_
  simp only [pS, pN, pA, pC, pZ]
  refine stNew S12 (v := fun n => .pointer (some ⟨n, 0, none⟩)) rfl (ex_alloc (zero_42 _)) (fun n35 w36 S37 => ?_)
  simp only [pS, pN, pA, pC, pZ]
  have S37 : St w F w36 F6 [⟨n35, [(.slice none 0 0), (.slice none 0 0), (.bool false), (.slice none 0 0)], 42⟩] [ownP 4 WrC WrC.mono 42 w.heap.size v (ws.take k)] := S37
  refine stStore (i := 0) (v := (.agg #[(.slice xa23 p.name.length xc24), (.slice xa27 p.key.length xc28), (.bool p.gone), (.slice xa32 p.value.length xc33)])) S37 rfl rfl rfl rfl (size_42) (allc4 rfl rfl rfl rfl) (Nat.le_of_ble_eq_true rfl) (fun w38 S39 => ?_)
  simp only [pS, pN, pA, pC, pZ]
  have S39 : St w F w38 F6 [⟨n35, [(.slice xa23 p.name.length xc24), (.slice xa27 p.key.length xc28), (.bool p.gone), (.slice xa32 p.value.length xc33)], 42⟩] [ownP 4 WrC WrC.mono 42 w.heap.size v (ws.take k)] := S39
  refine wl_nil (hK18 _ _ ?_)
  refine region_gw F6 14 [(3, .made (fun F' u => Bs F' u p.name)), (6, .made (fun F' u => Bs F' u p.key)), (11, .made (fun F' u => Bs F' u p.value)), (12, .made (fun F' u => WrV F' u (⟨p.name, p.key, p.gone, p.value⟩ : Wr))), (13, .made (fun F' u => Wrs F' u [(⟨p.name, p.key, p.gone, p.value⟩ : Wr)]))] (by kernel_rfl) (by kernel_rfl) ?_
  simp only [List.take_succ_cons, List.take_zero]
  refine gw_pure rfl rfl v (fun w40 hCw40 => pureAt_of (ex_move _)) ?_
  simp only [pS, pN, pA, pC, pZ]
  refine gw_pure rfl rfl (.pointer (some ⟨n35, 0, none⟩)) (fun w40 hCw40 => pureAt_of (ex_field (q := ⟨n35, 0, none⟩) rfl (fa_42_0 _ _))) ?_
  simp only [pS, pN, pA, pC, pZ]
  refine gw_pure rfl rfl (.slice xa23 p.name.length xc24) (fun w40 hCw40 => pureAt_of (ex_load rfl (load1 (nagg_22 _) (St.cell (St.tells S39 hCw40) (i := 0) rfl rfl)))) ?_
  simp only [pS, pN, pA, pC, pZ]
  refine gw_rel rfl rfl (fun w40 hCw40 hF => does_call (ex_fn (vs := #[(.slice xa23 p.name.length xc24)]) (map1 rfl) rfl (ent_24 _ _)) (call_made S39.sat hCw40 (clone_spec _ _ _ p.name ((St.tells S39 hCw40)).sat r25 (by omega)))) (fun v41 => ?_)
  simp only [pS, pN, pA, pC, pZ]
  refine gw_pure rfl rfl (.pointer (some ⟨n35, 1, none⟩)) (fun w40 hCw40 => pureAt_of (ex_field (q := ⟨n35, 1, none⟩) rfl (fa_42_1 _ _))) ?_
  simp only [pS, pN, pA, pC, pZ]
  refine gw_pure rfl rfl (.slice xa27 p.key.length xc28) (fun w40 hCw40 => pureAt_of (ex_load rfl (load1 (nagg_22 _) (St.cell (St.tells S39 hCw40) (i := 0) rfl rfl)))) ?_
  simp only [pS, pN, pA, pC, pZ]
  refine gw_rel rfl rfl (fun w40 hCw40 hF => does_call (ex_fn (vs := #[(.slice xa27 p.key.length xc28)]) (map1 rfl) rfl (ent_24 _ _)) (call_made S39.sat hCw40 (clone_spec _ _ _ p.key ((St.tells S39 hCw40)).sat r29 (by omega)))) (fun v42 => ?_)
  simp only [pS, pN, pA, pC, pZ]
  refine gw_pure rfl rfl (.pointer (some ⟨n35, 2, none⟩)) (fun w40 hCw40 => pureAt_of (ex_field (q := ⟨n35, 2, none⟩) rfl (fa_42_2 _ _))) ?_
  simp only [pS, pN, pA, pC, pZ]
  refine gw_pure rfl rfl (.bool p.gone) (fun w40 hCw40 => pureAt_of (ex_load rfl (load1 (nagg_4 _) (St.cell (St.tells S39 hCw40) (i := 0) rfl rfl)))) ?_
  simp only [pS, pN, pA, pC, pZ]
  refine gw_pure rfl rfl (.pointer (some ⟨n35, 3, none⟩)) (fun w40 hCw40 => pureAt_of (ex_field (q := ⟨n35, 3, none⟩) rfl (fa_42_3 _ _))) ?_
  simp only [pS, pN, pA, pC, pZ]
  refine gw_pure rfl rfl (.slice xa32 p.value.length xc33) (fun w40 hCw40 => pureAt_of (ex_load rfl (load1 (nagg_22 _) (St.cell (St.tells S39 hCw40) (i := 0) rfl rfl)))) ?_
  simp only [pS, pN, pA, pC, pZ]
  refine gw_rel rfl rfl (fun w40 hCw40 hF => does_call (ex_fn (vs := #[(.slice xa32 p.value.length xc33)]) (map1 rfl) rfl (ent_24 _ _)) (call_made S39.sat hCw40 (clone_spec _ _ _ p.value ((St.tells S39 hCw40)).sat r34 (by omega)))) (fun v43 => ?_)
  simp only [pS, pN, pA, pC, pZ]
  refine gw_rel rfl rfl (fun w40 hCw40 hF_ => ?_) (fun v44 => ?_)
  ·obtain ⟨F45, g46, R47⟩ := hF_.get 3 (by kernel_rfl) rfl rfl
   obtain ⟨F50, g51, R52⟩ := hF_.get 6 (by kernel_rfl) rfl rfl
   obtain ⟨F55, g56, R57⟩ := hF_.get 11 (by kernel_rfl) rfl rfl
   have hR0 := (R47.mono ((both_left F45 F50).trans (both_left (both F45 F50) F55)))
   obtain ⟨xa60, xc61, rfl, _⟩ := hR0.shape
   have hR1 := (R52.mono ((both_right g46.sat g51.sat).trans (both_left (both F45 F50) F55)))
   obtain ⟨xa62, xc63, rfl, _⟩ := hR1.shape
   have hR3 := (R57.mono (both_right (g46.both g51).sat g56.sat))
   obtain ⟨xa64, xc65, rfl, _⟩ := hR3.shape
   exact does_val (ex_build (bmap4 rfl rfl rfl rfl) (by kernel_rfl)) ⟨(both (both F45 F50) F55), ((g46.both g51).both g56), ⟨_, _, _, _, _, _, rfl, hR0, hR1, hR3⟩⟩ (Below.refl _ _)
  simp only [pS, pN, pA, pC, pZ]
  refine gw_rel rfl rfl (fun w40 hCw40 hF_ => ?_) (fun v78 => ?_)
  ·obtain ⟨F75, g76, R77⟩ := hF_.get 12 (by kernel_rfl) rfl rfl
   obtain ⟨xa66, xc67, xa69, xc70, xa72, xc73, rfl, r68, r71, r74⟩ := R77
   exact does_lit (k := 4) (R := WrC) (hR := WrC.mono) (p := (⟨p.name, p.key, p.gone, p.value⟩ : Wr)) (cs := [.slice xa66 _ xc67, .slice xa69 _ xc70, _, .slice xa72 _ xc73]) (E := 42) g76 ⟨_, _, _, _, rfl, r68, r71, rfl, r74⟩ rfl (ex_lit (E := 42) (cells := #[.slice xa66 _ xc67, .slice xa69 _ xc70, _, .slice xa72 _ xc73]) (bmap1 rfl) (fun w => by kernel_rfl))
  simp only [pS, pN, pA, pC, pZ]
  refine gw_nil ?_
  intro w79 hC81 hF82
  obtain ⟨F83, g84, R85⟩ := hF82.get 13 rfl rfl
  have S80 := St.gives S39 g84
  have le87 : Le _ _ := g84.le S39.sat
  have R88 := R85
  generalize F83 = F86 at *
  obtain ⟨xa89, xc90, rfl, _⟩ := Sl.shape R88
  clear hF82
  simp only [List.drop_succ_cons, List.drop_zero]
  refine stAppendS (r := 0) (u := (.slice xa89 [(⟨p.name, p.key, p.gone, p.value⟩ : Wr)].length xc90)) S80 rfl i42 (.agg #[(.slice none 0 0), (.slice none 0 0), (.bool false), (.slice none 0 0)]) 80 Tryd.underlying61 hi42 hz42 hs42 hb42 rfl (by decide) rfl rfl rfl (Sl.toW R88 (S80).sat) (fun F cs p h => WrC.oneCell h) (Nat.le_refl _) S80.gr.below.size (by unfold maxLen; simp only [List.length_take, List.length_cons, List.length_nil]; omega) (by simp only [List.length_take, List.length_cons, List.length_nil]; omega) ?_
  intro v91 w92 S93 hn94
  simp only [pS, pN, pA, pC, pZ]
  have S93 : St w F w92 F86 [⟨n35, [(.slice xa23 p.name.length xc24), (.slice xa27 p.key.length xc28), (.bool p.gone), (.slice xa32 p.value.length xc33)], 42⟩] [ownP 4 WrC WrC.mono 42 w.heap.size v91 ((ws.take k) ++ [(⟨p.name, p.key, p.gone, p.value⟩ : Wr)])] := S93
  refine do_ rfl v91 (ex_assign _) ?_
  simp only [pS, pN, pA, pC, pZ]
  refine wl_nil (hK17 _ _ ?_)
  refine region_wl ?_
  refine do_ rfl (.int .i64 (((k + 1) : Nat) : Int)) (ex_add (m := ((k : Nat) : Int)) (n := (1 : Int)) (r := (((k + 1) : Nat) : Int)) rfl rfl (by omega) (by omega) (by omega)) ?_
  simp only [pS, pN, pA, pC, pZ]
  refine do_ rfl (.int .i64 (((k + 1) : Nat) : Int)) (ex_move _) ?_
  simp only [pS, pN, pA, pC, pZ]
  refine wl_nil ?_
  have S93 := St.drop S93 (L' := []) (.cons _ (List.Sublist.refl _))
  have hpe : (⟨p.name, p.key, p.gone, p.value⟩ : Wr) = p := rfl
  rw [hpe, ← take_snoc hp] at S93
  exact hK14 _ _ _ (by omega) ⟨(k + 1), v91, F86, _, rfl, rfl, rfl, S93, (le13.trans le87), (by omega)⟩
 ·refine do_ rfl (.bool false) (ex_lss (m := ((k : Nat) : Int)) (n := ((ws.length : Nat) : Int)) (b := false) rfl rfl (decide_eq_false (by omega))) ?_
  simp only [pS, pN, pA, pC, pZ]
  refine wl_nil (hK15 _ _ ?_)
  refine wp_seq_k (fun K95 hK95 => ?_)
  refine wp_cond_false rfl ?_
  refine wp_exit ?_
  refine hK3 _ _ ?_
  refine wp_seq_k (fun K96 hK96 => region_wl ?_)
  refine do_ rfl v (ex_move _) ?_
  simp only [pS, pN, pA, pC, pZ]
  refine do_ rfl v (ex_assign _) ?_
  simp only [pS, pN, pA, pC, pZ]
  refine wl_nil (hK96 _ _ ?_)
  refine wp_ret ?_
  (try simp only [Exit.then, Exit.inBlock, ↓reduceIte, Nat.reduceEqDiff])
  refine bodyPost_ret (v := v) ?_ rfl ?_
  ·exact res_t rfl rfl
  ·have hend : ws.take k = ws := List.take_of_length_le (by omega)
   have ho := S12.own (i := 0) rfl
   rw [hend] at ho
   exact ⟨_, _, rfl, S12.gr, ho⟩
theorem txnWrites_spec (F : Fz) (w : World) (v : Value) (ws : List Wr) (hs : Sat w F) (hv : Wrs F v ws) (hl : ws.length ≤ 100000) (hb : ∀ r ∈ ws, r.name.length ≤ 100000 ∧ r.key.length ≤ 100000 ∧ r.value.length ≤ 100000) :
    Calls Tryd.prog 38 #[v] w (Gives w F fun F' u => Wrs F' u ws) := gives_of_own WrC.mono (txnWritesO_spec F w v ws hs hv hl hb)
end Go.Proofs.YticbfdhdipfjmaaDoor
