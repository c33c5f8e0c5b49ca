/- Rules, plain laws and walks: S9 S10 T0 BY D1 DG1 DG2 DG3 -/
import Derived.Test.YtcanckliggcllaaDoorBU6
import Derived.OrdersHeld
import Derived.Test.YtcanckliggcllaaDoorCards
import Derived.Test.YtcanckliggcllaaDoorTie
import Derived.WalkKit
import Derived.ProofKit
import Derived.OpenShut
import Derived.Deep.DeepHandedRow
import Derived.Lib.LaidTab
import Derived.Lib.SmallJoins
import Derived.Test.YtcanckliggcllaaDoorBU2
import Derived.Test.YtcanckliggcllaaDoorBU1
import Derived.Deep.QuietTactic
import Derived.BigQuiet
import Derived.Test.YtcanckliggcllaaDoorBU3
import Derived.StillTailTactics
import Derived.Deep.MidRow
namespace Go.Proofs.YtcanckliggcllaaDoor
open Go.RowKit
set_option linter.unusedVariables false
section
variable {P : Program} {ops : Array Oper} {md : Region.Mode} {C : World → Prop} {Sp : Nat → OpSpec}
theorem wpAnyG_firstP (hC : ∃ w, C w) {i : Nat} {oi : Oper} {T : List Nat} {L : Array Bool → Act → Vals → Prop} (hi : ops[i]? = some oi) (hsel : ∀ (j : Nat) (o : Oper) cs b, ops[j]? = some o → o.op ≠ .select cs b)
    (hdone : ∀ listed a Vs, L listed a Vs → ∀ j ∈ Region.ready md ops listed, j ∈ T) (hT : ∀ t ∈ T, ancB md ops ops.size t i = true) :
    ∀ (f : Nat) (listed : Array Bool) (a : Act) (Vs : Vals), HeadInv md ops ops.size listed →
      (∀ j oj, ops[j]? = some oj → j ≠ i → listed.getD j true = false → (∀ e ∈ oj.after, Region.binds md e = true → e.on ≠ i) → oi.apart ops oj = true) →
      i ∈ Region.ready md ops listed →
      gOp P md ops C Sp i (wpAnyG P md ops C Sp ops.size L f (listed.setIfInBounds i true)) a Vs → wpAnyG P md ops C Sp ops.size L (f + 1) listed a Vs := by
  intro f
  induction f with
  | zero =>
    intro listed a Vs inv _ hr H
    have hun := (mem_ready.1 hr).1
    refine ⟨fun h => (by rw [h] at hr; cases hr), fun j hj => ?_⟩
    obtain ⟨_, oj, hoj, _⟩ := mem_ready.1 hj
    have hjn : j < ops.size := (Array.getElem?_eq_some_iff.1 hoj).1
    refine ⟨hjn, ?_⟩
    by_cases hji : j = i
    · subst hji; exact H
    · obtain ⟨a', Vs', hL⟩ := gOp_some H
      have h1 := hdone _ _ _ hL j (ready_mono hj hji)
      have h2 := anc_ready inv hj _ _ (hT j h1)
      rw [getD_both hun] at h2
      cases h2
  | succ f ih =>
    intro listed a Vs inv hfree hr H
    have hun := (mem_ready.1 hr).1
    refine ⟨fun h => (by rw [h] at hr; cases hr), fun j hj => ?_⟩
    obtain ⟨hjun, oj, hoj, hall⟩ := mem_ready.1 hj
    have hjn : j < ops.size := (Array.getElem?_eq_some_iff.1 hoj).1
    refine ⟨hjn, ?_⟩
    by_cases hji : j = i
    · subst hji; exact H
    · have hnot : ∀ e ∈ oj.after, Region.binds md e = true → e.on ≠ i := fun e he hb heq => by
        have h1 := hall e he hb
        rw [heq, getD_both hun] at h1
        cases h1
      have a1 : ancB md ops ops.size j i = false := by
        cases hx : ancB md ops ops.size j i with
        | false => rfl
        | true => have := anc_ready inv hj _ _ hx; rw [getD_both hun] at this; cases this
      have a2 : ancB md ops ops.size i j = false := by
        cases hx : ancB md ops ops.size i j with
        | false => rfl
        | true => have := anc_ready inv hr _ _ hx; rw [getD_both hjun] at this; cases this
      have H1 : gOp P md ops C Sp i (gOp P md ops C Sp j (wpAnyG P md ops C Sp ops.size L f ((listed.setIfInBounds i true).setIfInBounds j true))) a Vs :=
        gOp_mono (fun a' Vs' h => (h.2 j (ready_mono hj hji)).2) H
      have H2 := gOp_swap hC hi hoj (Ne.symm hji) (hfree j oj hoj hji hjun hnot) (fun cs b => hsel i oi cs b hi) (fun cs b => hsel j oj cs b hoj) a1 a2 H1
      have hfree' : ∀ k ok, ops[k]? = some ok → k ≠ i → (listed.setIfInBounds j true).getD k true = false →
          (∀ e ∈ ok.after, Region.binds md e = true → e.on ≠ i) → oi.apart ops ok = true := fun k ok hk hki hun' hno => by
        refine hfree k ok hk hki ?_ hno
        by_cases hjk : j = k
        · subst hjk; exact hjun
        · rw [getD_set_ne true hjk] at hun'; exact hun'
      refine gOp_mono (fun a' Vs' h3 => ih (listed.setIfInBounds j true) a' Vs' (inv.set hj hjn) hfree' (ready_mono hr (Ne.symm hji)) ?_) H2
      rw [Array.setIfInBounds_comm _ _ hji]
      exact h3
/-- The walk in an order of our own. -/
def wpGP (P : Program) (md : Region.Mode) (ops : Array Oper) (C : World → Prop) (Sp : Nat → OpSpec) (Lq : Act → Vals → Prop) : List (Nat × Oper) → Act → Vals → Prop
  | [], a, Vs => Lq a Vs
  | (k, o) :: l, a, Vs => if Region.wanted o (yielded ops a.tmps) = true then ∃ S, Ob P md ops C Sp k o a Vs S ∧ ∀ v, S v → wpGP P md ops C Sp Lq l (a.put o.dst v) (next (Sp k) Vs k v) else wpGP P md ops C Sp Lq l (a.put o.dst undef) Vs
def seqL (md : Region.Mode) (ops : Array Oper) : List Nat → Array Bool → Bool
  | [], listed => (Region.ready md ops listed).isEmpty
  | k :: ks, listed => decide (Region.ready md ops listed = [k]) && seqL md ops ks (listed.setIfInBounds k true)
def headL (md : Region.Mode) (ops : Array Oper) (T : List Nat) : List Nat → Array Bool → Bool
  | [], listed => seqL md ops T listed
  | k :: ks, listed => (Region.ready md ops listed).contains k && Region.free md ops listed k && headL md ops T ks (listed.setIfInBounds k true)
theorem seqL_ready {T : List Nat} {listed : Array Bool} (h : seqL md ops T listed = true) : ∀ j ∈ Region.ready md ops listed, j ∈ T := by
  cases T with
  | nil => intro j hj; simp only [seqL, List.isEmpty_iff] at h; rw [h] at hj; cases hj
  | cons t T =>
    intro j hj
    simp only [seqL, Bool.and_eq_true, decide_eq_true_eq] at h
    rw [h.1] at hj
    have : j = t := by simpa using hj
    subst this
    exact List.mem_cons_self ..
theorem wpAny_of_seqL {Q' : Exit → Act → World → Prop} : ∀ (l : List (Nat × Oper)) (listed : Array Bool) (a : Act) (w : World), (∀ p ∈ l, ops[p.1]? = some p.2) →
    seqL md ops (l.map (·.1)) listed = true → wpList P ops Q' (l.map (·.2)) a w → wpAny P md ops Q' l.length listed a w
  | [], _, _, _, _, hB, h => ⟨by simpa [seqL] using hB, h⟩
  | (k, o) :: l, listed, a, w, hl, hB, h => by
    have h0 : ops[k]? = some o := hl (k, o) (List.mem_cons_self ..)
    simp only [List.map_cons, seqL, Bool.and_eq_true, decide_eq_true_eq] at hB
    refine ⟨fun h1 => (by rw [hB.1] at h1; cases h1), fun i hi => ?_⟩
    rw [hB.1] at hi
    have hik : i = k := by simpa using hi
    subst hik
    have hw : wpOp P ops Q' i (wpList P ops Q' (l.map (·.2))) a w := by unfold wpOp; simp only [h0]; exact h
    exact wpOp_mono (fun a' w' h' => wpAny_of_seqL l _ a' w' (fun p hp => hl p (List.mem_cons_of_mem _ hp)) hB.2 h') hw
theorem wpAnyG_list (hC : ∃ w, C w) {T : List Nat} {Lq : Act → Vals → Prop} (hsel : Region.noSelect ops = true) :
    ∀ (l : List (Nat × Oper)) (listed : Array Bool) (a : Act) (Vs : Vals), (∀ p ∈ l, ops[p.1]? = some p.2) → (∀ t ∈ T, ∀ p ∈ l, ancB md ops ops.size t p.1 = true) → HeadInv md ops ops.size listed →
    headL md ops T (l.map (·.1)) listed = true → wpGP P md ops C Sp Lq l a Vs →
    wpAnyG P md ops C Sp ops.size (fun listed' a' Vs' => seqL md ops T listed' = true ∧ Lq a' Vs') l.length listed a Vs
  | [], listed, a, Vs, _, _, _, hB, h => ⟨by simpa [headL] using hB, h⟩
  | (k, o) :: l, listed, a, Vs, hl, hT, inv, hB, h => by
    have h0 : ops[k]? = some o := hl (k, o) (List.mem_cons_self ..)
    have hkn : k < ops.size := (Array.getElem?_eq_some_iff.1 h0).1
    simp only [List.map_cons, headL, Bool.and_eq_true] at hB
    obtain ⟨⟨hr, hf⟩, hB'⟩ := hB
    have hr' : k ∈ Region.ready md ops listed := by simpa using hr
    have hg : gOp P md ops C Sp k (wpGP P md ops C Sp Lq l) a Vs := by unfold gOp; simp only [h0]; exact h
    exact wpAnyG_firstP hC h0 (Region.noSelect_spec hsel) (fun listed' a' Vs' hL => seqL_ready hL.1) (fun t ht => hT t ht (k, o) (List.mem_cons_self ..)) l.length listed a Vs inv (Region.free_spec h0 hf) hr'
      (gOp_mono (fun a' Vs' h' => wpAnyG_list hC hsel l _ a' Vs' (fun p hp => hl p (List.mem_cons_of_mem _ hp)) (fun t ht p hp => hT t ht p (List.mem_cons_of_mem _ hp)) (inv.set hr' hkn) hB' h') hg)
end
def opsAt (l : List Oper) : List Nat → List (Nat × Oper)
  | [] => []
  | k :: ks => match l[k]? with
    | some o => (k, o) :: opsAt l ks
    | none => opsAt l ks
theorem opsAt_at {l : List Oper} : ∀ {ks : List Nat} {p : Nat × Oper}, p ∈ opsAt l ks → l.toArray[p.1]? = some p.2
  | [], p, h => by cases h
  | k :: ks, p, h => by
    unfold opsAt at h
    split at h
    · rename_i o ho
      rcases List.mem_cons.1 h with rfl | h
      · simpa using ho
      · exact opsAt_at h
    · exact opsAt_at h
/-- Is this an order of our own? -/
def permB (md : Region.Mode) (ops : Array Oper) (hd tl : List Nat) : Bool :=
  Region.noSelect ops && decide (hd.length + tl.length = ops.size) && headL md ops tl hd (Array.replicate ops.size false) && tl.all fun t => hd.all fun i => ancB md ops ops.size t i
theorem wp_region_perm {P : Program} {id : Nat} {Q : Exit → Act → World → Prop} {a : Act} {w : World} {l : List Oper} (hd tl : List Nat) (Sp : Nat → OpSpec) (hm : P.follows .mixedOrders = true) (hB : permB .any l.toArray hd tl = true)
    (e1 : (opsAt l hd).map (·.1) = hd) (e2 : (opsAt l tl).map (·.1) = tl)
    (hst : ∀ i v w w', factOf (Sp i) v w → Below w.heap.size w w' → factOf (Sp i) v w')
    (h : wpGP P .any l.toArray (fun w' => Below w.heap.size w w') Sp (fun a' Vs => ∀ w', Below w.heap.size w w' → Facts Sp Vs w' → wpList P l.toArray Q ((opsAt l tl).map (·.2)) a' w') (opsAt l hd) a (fun _ => none)) : (Code.region id l.toArray true).wp P Q a w := by
  simp only [permB, Bool.and_eq_true, decide_eq_true_eq] at hB
  obtain ⟨⟨⟨hsel, hn⟩, hlex⟩, hanc⟩ := hB
  have inv0 : HeadInv .any l.toArray l.toArray.size (Array.replicate l.toArray.size false) :=
    ⟨by simp, fun j oj _ hl => (by rw [getD_replicate_false] at hl; cases hl), fun t h1 h2 => by omega⟩
  have H := wpAnyG_list (md := .any) (T := tl) ⟨w, Below.refl _ _⟩ hsel (opsAt l hd) _ a _ (fun p hp => opsAt_at hp) (fun t ht p hp => by
    have h1 := List.all_eq_true.1 hanc t ht
    exact List.all_eq_true.1 h1 p.1 (by rw [← e1]; exact List.mem_map.2 ⟨p, hp, rfl⟩)) inv0 (by rw [e1]; exact hlex) h
  refine wp_region_any hm ?_
  have hlh : (opsAt l hd).length = hd.length := by have := congrArg List.length e1; simpa using this
  have hlt : (opsAt l tl).length = tl.length := by have := congrArg List.length e2; simpa using this
  have := wpAny_of_G (Q' := Q) (g := (opsAt l tl).length) hst (fun w1 w2 h1 h2 => h1.trans (h2.mono h1.size)) (fun listed a' Vs w' hC hF hL =>
    wpAny_of_seqL (md := .any) (Q' := Q) (opsAt l tl) listed a' w' (fun p hp => opsAt_at hp) (by rw [e2]; exact hL.1) (hL.2 w' hC hF)) _ _ _ _ ({ w with drawn := w.drawn + 1 } : World) (Below.refl w.heap.size w).drew (fun i v h => by cases h) H
  rw [hlh, hlt, hn] at this
  exact this
structure GP (P : Program) (md : Region.Mode) (ops : Array Oper) (C : World → Prop) (Sp : Nat → OpSpec) (Lq : Act → Vals → Prop) (l : List (Nat × Oper)) (a : Act) (Vs : Vals) : Prop where
  out : wpGP P md ops C Sp Lq l a Vs
section
variable {P : Program} {ops : Array Oper} {md : Region.Mode} {C : World → Prop} {Sp : Nat → OpSpec} {Lq : Act → Vals → Prop} {o : Oper} {l : List (Nat × Oper)} {k : Nat} {a : Act} {Vs : Vals}
theorem gp_nil (h : Lq a Vs) : GP P md ops C Sp Lq [] a Vs := ⟨h⟩
theorem gp_pure (hw : Region.wanted o (yielded ops a.tmps) = true) (hs : Sp k = .pure) (v : Value) (h : ∀ w, C w → PureAt P o a w v) (hn : GP P md ops C Sp Lq l (a.put o.dst v) Vs) : GP P md ops C Sp Lq ((k, o) :: l) a Vs := by
  refine ⟨?_⟩
  unfold wpGP
  rw [if_pos hw]
  refine ⟨fun u => u = v, by unfold Ob; rw [hs]; exact ⟨v, rfl, h⟩, fun u hu => ?_⟩
  subst hu
  rw [hs]
  exact hn.out
theorem gp_const (hw : Region.wanted o (yielded ops a.tmps) = true) {v : Value} (hs : Sp k = .const v) (h : ∀ w, C w → FactsAt md ops Sp k Vs w → Does P o a w (IsPost v w)) (hn : GP P md ops C Sp Lq l (a.put o.dst v) Vs) : GP P md ops C Sp Lq ((k, o) :: l) a Vs := by
  refine ⟨?_⟩
  unfold wpGP
  rw [if_pos hw]
  refine ⟨fun u => u = v, by unfold Ob; rw [hs]; exact ⟨rfl, h⟩, fun u hu => ?_⟩
  subst hu
  rw [hs]
  exact hn.out
theorem gp_rel (hw : Region.wanted o (yielded ops a.tmps) = true) {R : Value → World → Prop} (hs : Sp k = .rel R) (h : ∀ w, C w → FactsAt md ops Sp k Vs w → Does P o a w (RelPost R w)) (hn : ∀ v, GP P md ops C Sp Lq l (a.put o.dst v) (upd Vs k v)) : GP P md ops C Sp Lq ((k, o) :: l) a Vs := by
  refine ⟨?_⟩
  unfold wpGP
  rw [if_pos hw]
  refine ⟨fun _ => True, by unfold Ob; rw [hs]; exact ⟨rfl, h⟩, fun u _ => ?_⟩
  rw [hs]
  exact (hn u).out
theorem gp_skip (hw : Region.wanted o (yielded ops a.tmps) = false) (hn : GP P md ops C Sp Lq l (a.put o.dst undef) Vs) : GP P md ops C Sp Lq ((k, o) :: l) a Vs := by
  refine ⟨?_⟩
  unfold wpGP
  rw [if_neg (by rw [hw]; exact Bool.false_ne_true)]
  exact hn.out
theorem region_gp {id : Nat} {Q : Exit → Act → World → Prop} {a : Act} {W : World} {l : List Oper} (F : Fz) (hd tl : List Nat) (L : List (Nat × Mark)) (hm : P.follows .mixedOrders = true) (hB : permB .any l.toArray hd tl = true) (e1 : (opsAt l hd).map (·.1) = hd) (e2 : (opsAt l tl).map (·.1) = tl)
    (h : GP P .any l.toArray (fun w' => Below W.heap.size W w') (specOf W F L) (fun a' Vs => ∀ w', Below W.heap.size W w' → Facts (specOf W F L) Vs w' → WL P l.toArray Q ((opsAt l tl).map (·.2)) a' w') (opsAt l hd) a (fun _ => none)) : (Code.region id l.toArray true).wp P Q a W :=
  wp_region_perm hd tl (specOf W F L) hm hB e1 e2 specOf_stable (by
    have key : ∀ (ls : List (Nat × Oper)) (a : Act) (Vs : Vals), wpGP P .any l.toArray (fun w' => Below W.heap.size W w') (specOf W F L) (fun a' Vs => ∀ w', Below W.heap.size W w' → Facts (specOf W F L) Vs w' → WL P l.toArray Q ((opsAt l tl).map (·.2)) a' w') ls a Vs →
        wpGP P .any l.toArray (fun w' => Below W.heap.size W w') (specOf W F L) (fun a' Vs => ∀ w', Below W.heap.size W w' → Facts (specOf W F L) Vs w' → wpList P l.toArray Q ((opsAt l tl).map (·.2)) a' w') ls a Vs := by
      intro ls
      induction ls with
      | nil => intro a Vs h w' h1 h2; exact (h w' h1 h2).out
      | cons p ls ih =>
        obtain ⟨k, o⟩ := p
        intro a Vs h
        unfold wpGP at h ⊢
        split
        · rename_i hw
          rw [if_pos hw] at h
          obtain ⟨S, hS, hv⟩ := h
          exact ⟨S, hS, fun v hv' => ih _ _ (hv v hv')⟩
        · rename_i hw
          rw [if_neg hw] at h
          exact ih _ _ h
    exact key _ _ _ h.out)
end
/-! Late. -/
/-- The store, behind which nothing of the region is left to look at the memory. -/
structure LT (P : Program) (ops : Array Oper) (Q : Exit → Act → World → Prop) (os : Oper) (rest : List Oper) (a : Act) (w : World) : Prop where
  out : ∃ w', os.guard = none ∧ os.dst = none ∧ (execOp a.eval os).run P w = .ok .skip w' ∧ wpList P ops Q rest a w'
section
variable {P : Program} {ops : Array Oper} {md : Region.Mode} {C : World → Prop} {Sp : Nat → OpSpec}
def wpAnyH (P : Program) (md : Region.Mode) (ops : Array Oper) (C : World → Prop) (Sp : Nat → OpSpec) (s : Nat) (L E : Array Bool → Act → Vals → Prop) : Nat → Array Bool → Act → Vals → Prop
  | 0, listed, a, Vs => L listed a Vs
  | f + 1, listed, a, Vs => Region.ready md ops listed ≠ [] ∧ ∀ i ∈ Region.ready md ops listed, (i ≠ s → gOp P md ops C Sp i (wpAnyH P md ops C Sp s L E f (listed.setIfInBounds i true)) a Vs) ∧ (i = s → f = 0 ∧ E listed a Vs)
theorem wpAnyH_first (hC : ∃ w, C w) {i s : Nat} {oi : Oper} {T : List Nat} {L E : Array Bool → Act → Vals → Prop} (hi : ops[i]? = some oi) (hsel : ∀ (j : Nat) (o : Oper) cs b, ops[j]? = some o → o.op ≠ .select cs b)
    (hdone : ∀ listed a Vs, L listed a Vs → ∀ j ∈ Region.ready md ops listed, j ∈ T) (hT : ∀ t ∈ T, ancB md ops ops.size t i = true) (hsT : s ∈ T) (his : i ≠ s) :
    ∀ (f : Nat) (listed : Array Bool) (a : Act) (Vs : Vals), HeadInv md ops ops.size listed →
      (∀ j oj, ops[j]? = some oj → j ≠ i → listed.getD j true = false → (∀ e ∈ oj.after, Region.binds md e = true → e.on ≠ i) → oi.apart ops oj = true) →
      i ∈ Region.ready md ops listed →
      gOp P md ops C Sp i (wpAnyH P md ops C Sp s L E f (listed.setIfInBounds i true)) a Vs → wpAnyH P md ops C Sp s L E (f + 1) listed a Vs := by
  intro f
  induction f with
  | zero =>
    intro listed a Vs inv _ hr H
    have hun := (mem_ready.1 hr).1
    refine ⟨fun h => (by rw [h] at hr; cases hr), fun j hj => ?_⟩
    by_cases hji : j = i
    · subst hji; exact ⟨fun _ => H, fun e => absurd e his⟩
    · obtain ⟨a', Vs', hL⟩ := gOp_some H
      have h1 := hdone _ _ _ hL j (ready_mono hj hji)
      have h2 := anc_ready inv hj _ _ (hT j h1)
      rw [getD_both hun] at h2
      cases h2
  | succ f ih =>
    intro listed a Vs inv hfree hr H
    have hun := (mem_ready.1 hr).1
    refine ⟨fun h => (by rw [h] at hr; cases hr), fun j hj => ?_⟩
    obtain ⟨hjun, oj, hoj, hall⟩ := mem_ready.1 hj
    have hjn : j < ops.size := (Array.getElem?_eq_some_iff.1 hoj).1
    by_cases hji : j = i
    · subst hji; exact ⟨fun _ => H, fun e => absurd e his⟩
    · by_cases hjs : j = s
      · subst hjs
        have h2 := anc_ready inv hj _ _ (hT j hsT)
        rw [getD_both hun] at h2
        cases h2
      · refine ⟨fun _ => ?_, fun e => absurd e hjs⟩
        have hnot : ∀ e ∈ oj.after, Region.binds md e = true → e.on ≠ i := fun e he hb heq => by
          have h1 := hall e he hb
          rw [heq, getD_both hun] at h1
          cases h1
        have a1 : ancB md ops ops.size j i = false := by
          cases hx : ancB md ops ops.size j i with
          | false => rfl
          | true => have := anc_ready inv hj _ _ hx; rw [getD_both hun] at this; cases this
        have a2 : ancB md ops ops.size i j = false := by
          cases hx : ancB md ops ops.size i j with
          | false => rfl
          | true => have := anc_ready inv hr _ _ hx; rw [getD_both hjun] at this; cases this
        have H1 : gOp P md ops C Sp i (gOp P md ops C Sp j (wpAnyH P md ops C Sp s L E f ((listed.setIfInBounds i true).setIfInBounds j true))) a Vs :=
          gOp_mono (fun a' Vs' h => (h.2 j (ready_mono hj hji)).1 hjs) H
        have H2 := gOp_swap hC hi hoj (Ne.symm hji) (hfree j oj hoj hji hjun hnot) (fun cs b => hsel i oi cs b hi) (fun cs b => hsel j oj cs b hoj) a1 a2 H1
        have hfree' : ∀ k ok, ops[k]? = some ok → k ≠ i → (listed.setIfInBounds j true).getD k true = false →
            (∀ e ∈ ok.after, Region.binds md e = true → e.on ≠ i) → oi.apart ops ok = true := fun k ok hk hki hun' hno => by
          refine hfree k ok hk hki ?_ hno
          by_cases hjk : j = k
          · subst hjk; exact hjun
          · rw [getD_set_ne true hjk] at hun'; exact hun'
        refine gOp_mono (fun a' Vs' h3 => ih (listed.setIfInBounds j true) a' Vs' (inv.set hj hjn) hfree' (ready_mono hr (Ne.symm hji)) ?_) H2
        rw [Array.setIfInBounds_comm _ _ hji]
        exact h3
/-- What is left when only the pure operation p, the store s and the tail are. -/
def LateD (P : Program) (md : Region.Mode) (ops : Array Oper) (Q : Exit → Act → World → Prop) (C : World → Prop) (Sp : Nat → OpSpec) (p : Nat) (op os : Oper) (tail : List Oper) (a : Act) (Vs : Vals) : Prop :=
  op.guard = none ∧ ∃ v, Sp p = .const v ∧ (∀ w, C w → FactsAt md ops Sp p Vs w → ∀ w1, PureAt P op a w1 v) ∧ ∀ w, C w → Facts Sp Vs w → LT P ops Q os tail (a.put op.dst v) w
def lateL (md : Region.Mode) (ops : Array Oper) (p s : Nat) (T : List Nat) (listed : Array Bool) : Bool :=
  ((Region.ready md ops listed).all fun j => j == p || j == s) && (Region.ready md ops listed).contains p && Region.free md ops listed p && seqL md ops (s :: T) (listed.setIfInBounds p true) && seqL md ops (p :: T) (listed.setIfInBounds s true)
def headH (md : Region.Mode) (ops : Array Oper) (p s : Nat) (T : List Nat) : List Nat → Array Bool → Bool
  | [], listed => lateL md ops p s T listed
  | k :: ks, listed => (Region.ready md ops listed).contains k && Region.free md ops listed k && headH md ops p s T ks (listed.setIfInBounds k true)
theorem does_of_pure {o : Oper} {a : Act} {w : World} {v : Value} (h : PureAt P o a w v) : Does P o a w (IsPost v w) := by
  unfold Does PureAt at *
  generalize (execOp a.eval o).run P w = r at *
  cases r with
  | ok n w' =>
    cases n <;> simp only [PureR] at h <;> simp only [DoesR]
    · obtain ⟨rfl, rfl⟩ := h; exact ⟨rfl, Below.refl _ _⟩
    · obtain ⟨rfl, rfl⟩ := h; exact ⟨rfl, Below.refl _ _⟩
  | halt x w' => simp only [PureR] at h
theorem wanted_free {o : Oper} {t : Array Value} (h : o.guard = none) : Region.wanted o (yielded ops t) = true := by unfold Region.wanted; rw [h]
theorem wpAnyH_list (hC : ∃ w, C w) {p s : Nat} {T : List Nat} {op os : Oper} {tail : List Oper} {Q : Exit → Act → World → Prop} (hp : ops[p]? = some op) (hps : p ≠ s) (hsel : Region.noSelect ops = true) :
    ∀ (l : List (Nat × Oper)) (listed : Array Bool) (a : Act) (Vs : Vals), (∀ q ∈ l, ops[q.1]? = some q.2) → (∀ t ∈ s :: T, ∀ q ∈ l, ancB md ops ops.size t q.1 = true) → (∀ q ∈ l, q.1 ≠ s) → HeadInv md ops ops.size listed →
    headH md ops p s T (l.map (·.1)) listed = true → wpGP P md ops C Sp (LateD P md ops Q C Sp p op os tail) l a Vs →
    wpAnyH P md ops C Sp s (fun listed' a' Vs' => seqL md ops (s :: T) listed' = true ∧ ∀ w, C w → Facts Sp Vs' w → LT P ops Q os tail a' w) (fun listed' a' Vs' => lateL md ops p s T listed' = true ∧ LateD P md ops Q C Sp p op os tail a' Vs') (l.length + 1) listed a Vs
  | [], listed, a, Vs, _, _, _, _, hB, h => by
    have hB0 := hB
    simp only [List.map_nil, headH, lateL, Bool.and_eq_true] at hB
    obtain ⟨⟨⟨⟨h1, h2⟩, h3⟩, h4⟩, h5⟩ := hB
    have hr : p ∈ Region.ready md ops listed := by simpa using h2
    refine ⟨fun e => (by rw [e] at hr; cases hr), fun j hj => ⟨fun hjs => ?_, fun e => ⟨rfl, hB0, h⟩⟩⟩
    have hj2 := List.all_eq_true.1 h1 j hj
    simp only [Bool.or_eq_true, beq_iff_eq] at hj2
    have hjp : j = p := hj2.resolve_right hjs
    subst hjp
    obtain ⟨hg, v, hs, hpu, hn⟩ := h
    unfold gOp
    simp only [hp]
    rw [if_pos (wanted_free hg)]
    refine ⟨fun u => u = v, ?_, fun u hu => ?_⟩
    · unfold Ob; rw [hs]; exact ⟨rfl, fun w hc hF => does_of_pure (hpu w hc hF w)⟩
    · subst hu
      rw [hs]
      exact ⟨h4, hn⟩
  | (k, o) :: l, listed, a, Vs, hl, hT, hns, inv, hB, h => by
    have h0 : ops[k]? = some o := hl (k, o) (List.mem_cons_self ..)
    have hkn : k < ops.size := (Array.getElem?_eq_some_iff.1 h0).1
    simp only [List.map_cons, headH, Bool.and_eq_true] at hB
    obtain ⟨⟨hr, hf⟩, hB'⟩ := hB
    have hr' : k ∈ Region.ready md ops listed := by simpa using hr
    have hg : gOp P md ops C Sp k (wpGP P md ops C Sp (LateD P md ops Q C Sp p op os tail) l) a Vs := by unfold gOp; simp only [h0]; exact h
    exact wpAnyH_first hC h0 (Region.noSelect_spec hsel) (fun listed' a' Vs' hL => seqL_ready hL.1) (fun t ht => hT t ht (k, o) (List.mem_cons_self ..)) (List.mem_cons_self ..) (hns (k, o) (List.mem_cons_self ..)) (l.length + 1) listed a Vs inv (Region.free_spec h0 hf) hr'
      (gOp_mono (fun a' Vs' h' => wpAnyH_list hC hp hps hsel l _ a' Vs' (fun p hp => hl p (List.mem_cons_of_mem _ hp)) (fun t ht p hp => hT t ht p (List.mem_cons_of_mem _ hp)) (fun q hq => hns q (List.mem_cons_of_mem _ hq)) (inv.set hr' hkn) hB' h') hg)
theorem wpAny_of_H (hst : ∀ i v w w', factOf (Sp i) v w → Below w.heap.size w w' → factOf (Sp i) v w') (hCE : ∀ w w', C w → Below w.heap.size w w' → C w') {s g : Nat} {L E : Array Bool → Act → Vals → Prop} {Q' : Exit → Act → World → Prop}
    (hL : ∀ listed a Vs w, C w → Facts Sp Vs w → L listed a Vs → wpAny P md ops Q' g listed a w)
    (hE : ∀ listed a Vs w, C w → Facts Sp Vs w → s ∈ Region.ready md ops listed → E listed a Vs → wpOp P ops Q' s (wpAny P md ops Q' g (listed.setIfInBounds s true)) a w) :
    ∀ (f : Nat) (listed : Array Bool) (a : Act) (Vs : Vals) (w : World), C w → Facts Sp Vs w → wpAnyH P md ops C Sp s L E f listed a Vs → wpAny P md ops Q' (f + g) listed a w
  | 0, listed, a, Vs, w, hc, hF, h => by rw [Nat.zero_add]; exact hL _ _ _ _ hc hF h
  | f + 1, listed, a, Vs, w, hc, hF, h => by
    rw [show f + 1 + g = (f + g) + 1 by omega]
    refine ⟨fun h0 => absurd h0 h.1, fun i hi => ?_⟩
    by_cases his : i = s
    · subst his
      obtain ⟨hf0, he⟩ := (h.2 i hi).2 rfl
      subst hf0
      rw [Nat.zero_add]
      exact hE listed a Vs w hc hF hi he
    have hg := (h.2 i hi).1 his
    unfold gOp at hg
    unfold wpOp
    split
    · rename_i e
      simp only [e] at hg
      exact wpAny_of_H hst hCE hL hE f _ a Vs w hc hF hg
    · rename_i o e
      simp only [e] at hg
      split
      · rename_i hw
        rw [if_pos hw] at hg
        obtain ⟨S, hS, hall⟩ := hg
        left
        unfold Ob at hS
        split at hS
        · rename_i es
          obtain ⟨v, rfl, hp⟩ := hS
          have hn := hall v rfl
          simp only [es, next] at hn
          exact Oper.wp_of_pure (hp w hc) (wpAny_of_H hst hCE hL hE f _ _ Vs w hc hF hn)
        · rename_i v es
          obtain ⟨rfl, hp⟩ := hS
          have hn := hall v rfl
          simp only [es, next] at hn
          refine Oper.wp_of_does (hp w hc fun i' v' _ hv => hF i' v' hv) fun u w' ⟨hu, hb⟩ => ?_
          subst hu
          exact wpAny_of_H hst hCE hL hE f _ _ Vs w' (hCE w w' hc hb) (fun i' v' hv => hst i' v' w w' (hF i' v' hv) hb) hn
        · rename_i R es
          obtain ⟨rfl, hp⟩ := hS
          refine Oper.wp_of_does (hp w hc fun i' v' _ hv => hF i' v' hv) fun u w' ⟨hu, hb⟩ => ?_
          have hn := hall u trivial
          refine wpAny_of_H hst hCE hL hE f _ _ _ w' (hCE w w' hc hb) (fun i' v' hv => ?_) hn
          simp only [es, next] at hv
          unfold upd at hv
          split at hv
          · rename_i e'
            subst e'
            cases hv
            simp only [es, factOf]
            exact hu
          · exact hst i' v' w w' (hF i' v' hv) hb
      · rename_i hw
        rw [if_neg hw] at hg
        exact wpAny_of_H hst hCE hL hE f _ _ Vs w hc hF hg
theorem wpList_of_LT {Q : Exit → Act → World → Prop} {os : Oper} {tail : List Oper} {a : Act} {w : World} (h : LT P ops Q os tail a w) : wpList P ops Q (os :: tail) a w := by
  obtain ⟨w', hg, hd, hr, hk⟩ := h.out
  unfold wpList
  rw [if_pos (wanted_free hg)]
  left
  refine Oper.wp_of_does (Φ := fun u w1 => u = undef ∧ w1 = w') (by unfold Does; rw [hr]; exact ⟨rfl, rfl⟩) fun u w1 ⟨hu, hw⟩ => ?_
  subst hu; subst hw
  rw [hd]
  exact hk
end
/-- Is this an order of our own, with the pure operation p that may come behind the store s? -/
def lateB (md : Region.Mode) (ops : Array Oper) (hd : List Nat) (p s : Nat) (tl : List Nat) : Bool :=
  Region.noSelect ops && decide (hd.length + 2 + tl.length = ops.size) && headH md ops p s tl hd (Array.replicate ops.size false) && ((s :: tl).all fun t => hd.all fun i => ancB md ops ops.size t i) && (hd.all fun i => i != s) && (p != s)
theorem wp_region_late {P : Program} {id : Nat} {Q : Exit → Act → World → Prop} {a : Act} {w : World} {l : List Oper} (hd : List Nat) (p s : Nat) (tl : List Nat) (op os : Oper) (Sp : Nat → OpSpec) (hm : P.follows .mixedOrders = true) (hB : lateB .any l.toArray hd p s tl = true)
    (e1 : (opsAt l hd).map (·.1) = hd) (e2 : (opsAt l tl).map (·.1) = tl) (e3 : l[p]? = some op) (e4 : l[s]? = some os)
    (hst : ∀ i v w w', factOf (Sp i) v w → Below w.heap.size w w' → factOf (Sp i) v w')
    (h : wpGP P .any l.toArray (fun w' => Below w.heap.size w w') Sp (LateD P .any l.toArray Q (fun w' => Below w.heap.size w w') Sp p op os ((opsAt l tl).map (·.2))) (opsAt l hd) a (fun _ => none)) : (Code.region id l.toArray true).wp P Q a w := by
  simp only [lateB, Bool.and_eq_true, decide_eq_true_eq] at hB
  obtain ⟨⟨⟨⟨⟨hsel, hn⟩, hlex⟩, hanc⟩, hns⟩, hps⟩ := hB
  have hps : p ≠ s := by simpa using hps
  have hp : l.toArray[p]? = some op := by simpa using e3
  have hs : l.toArray[s]? = some os := by simpa using e4
  have inv0 : HeadInv .any l.toArray l.toArray.size (Array.replicate l.toArray.size false) :=
    ⟨by simp, fun j oj _ hl => (by rw [getD_replicate_false] at hl; cases hl), fun t h1 h2 => by omega⟩
  have mem : ∀ q ∈ opsAt l hd, q.1 ∈ hd := fun q hq => by rw [← e1]; exact List.mem_map.2 ⟨q, hq, rfl⟩
  have H := wpAnyH_list (md := .any) (T := tl) (Q := Q) ⟨w, Below.refl _ _⟩ hp hps hsel (opsAt l hd) _ a _ (fun p hp => opsAt_at hp) (fun t ht p hp => by
    have h1 := List.all_eq_true.1 hanc t ht
    exact List.all_eq_true.1 h1 p.1 (mem p hp)) (fun q hq => by have := List.all_eq_true.1 hns q.1 (mem q hq); simpa using this) inv0 (by rw [e1]; exact hlex) h
  refine wp_region_any hm ?_
  have hlh : (opsAt l hd).length = hd.length := by have := congrArg List.length e1; simpa using this
  have hlt : (opsAt l tl).length = tl.length := by have := congrArg List.length e2; simpa using this
  have := wpAny_of_H (Q' := Q) (g := (opsAt l tl).length + 1) hst (fun w1 w2 h1 h2 => h1.trans (h2.mono h1.size)) (fun listed a' Vs w' hC hF hL => by
      have := wpAny_of_seqL (md := .any) (Q' := Q) ((s, os) :: opsAt l tl) listed a' w' (fun p hp => by rcases List.mem_cons.1 hp with rfl | hp; exact hs; exact opsAt_at hp) (by rw [List.map_cons, e2]; exact hL.1) (wpList_of_LT (hL.2 w' hC hF))
      simpa using this) (fun listed a' Vs w' hC hF hsr hE => by
      obtain ⟨hB, hg, v, hsp, hpu, hn'⟩ := hE
      simp only [lateL, Bool.and_eq_true] at hB
      obtain ⟨⟨⟨⟨h1, h2⟩, h3⟩, h4⟩, h5⟩ := hB
      have hrp : p ∈ Region.ready .any l.toArray listed := by simpa using h2
      have hunp := (mem_ready.1 hrp).1
      obtain ⟨hsun, os', hos', hall⟩ := mem_ready.1 hsr
      have hoe : os' = os := Option.some.inj (hos'.symm.trans hs)
      subst hoe
      have hap := Region.free_spec hp h3 s os' hos' (Ne.symm hps) hsun (fun e he hb heq => by
        have h1 := hall e he hb
        rw [heq, getD_both hunp] at h1
        cases h1)
      obtain ⟨w1, q1, q2, q3, q4⟩ := (hn' w' hC hF).out
      rw [execOp_put os' (fun cs b => Region.noSelect_spec hsel s os' cs b hos') a' op.dst v (Oper.apart_spec hap).1] at q3
      unfold wpOp
      simp only [hos']
      rw [if_pos (wanted_free q1)]
      left
      refine Oper.wp_of_does (Φ := fun u w2 => u = undef ∧ w2 = w1) (by unfold Does; rw [q3]; exact ⟨rfl, rfl⟩) fun u w2 ⟨hu, hw⟩ => ?_
      subst hu; subst hw
      rw [q2]
      have h5' := h5
      simp only [seqL, Bool.and_eq_true, decide_eq_true_eq] at h5'
      refine ⟨fun e => (by rw [h5'.1] at e; cases e), fun i hi => ?_⟩
      rw [h5'.1] at hi
      have hip : i = p := by simpa using hi
      subst hip
      unfold wpOp
      simp only [hp]
      rw [if_pos (wanted_free hg)]
      left
      exact Oper.wp_of_pure (hpu w' hC (fun i' v' _ hv => hF i' v' hv) w2) (wpAny_of_seqL (md := .any) (Q' := Q) (opsAt l tl) _ _ _ (fun p hp => opsAt_at hp) (by rw [e2]; exact h5'.2) q4)) _ _ _ _ ({ w with drawn := w.drawn + 1 } : World) (Below.refl w.heap.size w).drew (fun i v h => by cases h) H
  rw [hlh, hlt, show hd.length + 1 + (tl.length + 1) = hd.length + 2 + tl.length by omega, hn] at this
  exact this
section
variable {P : Program} {ops : Array Oper} {md : Region.Mode} {C : World → Prop} {Sp : Nat → OpSpec}
/-- As LateD, of what is written 'WL'. -/
def LateW (P : Program) (md : Region.Mode) (ops : Array Oper) (Q : Exit → Act → World → Prop) (C : World → Prop) (Sp : Nat → OpSpec) (p : Nat) (op os : Oper) (tail : List Oper) (a : Act) (Vs : Vals) : Prop := LateD P md ops Q C Sp p op os tail a Vs
theorem late_ {p : Nat} {op os : Oper} {tail : List Oper} {Q : Exit → Act → World → Prop} {a : Act} {Vs : Vals} (hg : op.guard = none) {v : Value} (hs : Sp p = .const v) (h : ∀ w, C w → FactsAt md ops Sp p Vs w → ∀ w1, PureAt P op a w1 v)
    (hn : ∀ w, C w → Facts Sp Vs w → LT P ops Q os tail (a.put op.dst v) w) : LateW P md ops Q C Sp p op os tail a Vs := ⟨hg, v, hs, h, hn⟩
end
theorem region_late {P : Program} {id : Nat} {Q : Exit → Act → World → Prop} {a : Act} {W : World} {l : List Oper} (F : Fz) (hd : List Nat) (p s : Nat) (tl : List Nat) (L : List (Nat × Mark)) (hm : P.follows .mixedOrders = true) (hB : lateB .any l.toArray hd p s tl = true) (e1 : (opsAt l hd).map (·.1) = hd) (e2 : (opsAt l tl).map (·.1) = tl)
    {op os : Oper} (e3 : l[p]? = some op) (e4 : l[s]? = some os)
    (h : GP P .any l.toArray (fun w' => Below W.heap.size W w') (specOf W F L) (LateW P .any l.toArray Q (fun w' => Below W.heap.size W w') (specOf W F L) p op os ((opsAt l tl).map (·.2))) (opsAt l hd) a (fun _ => none)) : (Code.region id l.toArray true).wp P Q a W :=
  wp_region_late hd p s tl op os (specOf W F L) hm hB e1 e2 e3 e4 specOf_stable h.out
theorem stLate {P : Program} {w0 w : World} {F0 F : Fz} {L : List Blk} {M : List RowP} {ops : Array Oper} {Q : Exit → Act → World → Prop} {a : Act} {rest : List Oper} {t T T' : TypeId} {x y : Operand} {pos : String} {after : Array Edge} {i n j : Nat} {c : List Value} {v : Value} (S : St w0 F0 w F L M)
    (hx : a.eval x = .pointer (some ⟨n, j, none⟩)) (hy : a.eval y = v) (hL : L[i]? = some ⟨n, c, T'⟩)
    (hi : (P.info? T).map (·.size) = some v.cells.size) (h1 : v.cells.all (·.oneCell') = true) (hl : j + v.cells.size ≤ c.length)
    (h : ∀ w', St w0 F0 w' F (L.set i ⟨n, splice c j v.cells.toList, T'⟩) M → WL P ops Q rest a w') : LT P ops Q ⟨none, .store T x y, t, pos, after, none⟩ rest a w := by
  have hs := storeV (P := P) (T := T) (v := v) hi (S.there hL j v.cells.size hl) h1
  exact ⟨⟨_, rfl, rfl, ex_store hx (by rw [hy]; exact hs), (h _ (S.store hL j v.cells.toList (by simpa using hl))).out⟩⟩
/-- A call that makes something out of what was made. -/
theorem call_made2 {P : Program} {f : FuncId} {args : Array Value} {W w : World} {F Fa : Fz} {R : Fz → Value → Prop} (ga : Gr W F w Fa) (h : Calls P f args w (Gives w Fa R)) : Calls P f args w (CallPost (RelPost (Made W F R) w)) :=
  h.mono fun e w' ⟨v, F', he, g, r⟩ => ⟨v, he, ⟨F', ga.trans g, r⟩, g.below⟩
theorem Sl.dropF {α : Type} {k : Nat} {R : Fz → List Value → α → Prop} {w : World} {F : Fz} {n : Nat} {cs : List Value} {T : TypeId} (hs : Sat w F) (hb : w.heap[n]? = some (.cells cs.toArray T (0, 0))) (hR : ∀ c p, R F c p → R (Proofs.YtcanckliggcllaaDoor.dropF F n) c p) (hx : ∀ (c : List Value) p, R F c p → ∃ (j : Nat) (u : Value), c[j]? = some u ∧ u ∉ cs) {v : Value} {l : List α} (h : Sl k R F v l) : Sl k R (Proofs.YtcanckliggcllaaDoor.dropF F n) v l := by
  obtain ⟨xs, ⟨a, c, h1, h2, h3, h4, h5⟩, hr, hk⟩ := h
  refine ⟨xs, ⟨a, c, h1, h2, h3, h4, ?_⟩, hr.imp hR, hk⟩
  rcases h5 with h5 | ⟨b, o, e, h6⟩
  · exact .inl h5
  · by_cases hbn : b = n
    · cases xs with
      | nil => exact .inl rfl
      | cons x xs =>
        exfalso
        cases l with
        | nil => exact hr
        | cons p l =>
          obtain ⟨j, u, hj, hu⟩ := hx _ _ hr.1
          have h0 := h6 j u (by
            rw [List.flatten_cons, List.getElem?_append_left (List.getElem?_eq_some_iff.1 hj).1]
            exact hj)
          subst hbn
          unfold cellF at h0
          split at h0
          · rename_i c0 t0 fr0 hF
            have := hs _ _ hF
            rw [hb] at this
            cases this
            have hm : u ∈ cs := by
              have : cs[o + j]? = some u := by simpa using h0
              exact List.mem_of_getElem? this
            exact hu hm
          · cases h0
    · refine .inr ⟨b, o, e, fun j u hu => ?_⟩
      have h0 := h6 j u hu
      unfold cellF Proofs.YtcanckliggcllaaDoor.dropF at *
      rw [if_neg hbn]
      exact h0
section
variable {w : World} {F : Fz} {n : Nat} {cs : List Value} {T : TypeId}
theorem Rds.dropF (hs : Sat w F) (hb : w.heap[n]? = some (.cells cs.toArray T (0, 0))) (hc : ∀ u ∈ cs, ∀ x, u ≠ bv x) (hc2 : ∀ b, Value.bool b ∉ cs) {v : Value} {l : List Rd} (h : Rds F v l) : Rds (Proofs.YtcanckliggcllaaDoor.dropF F n) v l :=
  Sl.dropF hs hb (RdC.dropF hs hb hc) (fun c p ⟨a0, a1, a2, a3, e, _, _, e2, _⟩ => ⟨2, a2, by rw [e]; rfl, by rw [e2]; exact hc2 _⟩) h
theorem Wrs.dropF (hs : Sat w F) (hb : w.heap[n]? = some (.cells cs.toArray T (0, 0))) (hc : ∀ u ∈ cs, ∀ x, u ≠ bv x) (hc2 : ∀ b, Value.bool b ∉ cs) {v : Value} {l : List Wr} (h : Wrs F v l) : Wrs (Proofs.YtcanckliggcllaaDoor.dropF F n) v l :=
  Sl.dropF hs hb (WrC.dropF hs hb hc) (fun c p ⟨a0, a1, a2, a3, e, _, _, e2, _⟩ => ⟨2, a2, by rw [e]; rfl, by rw [e2]; exact hc2 _⟩) h
end
end Go.Proofs.YtcanckliggcllaaDoor
namespace Go.Proofs.YtcanckliggcllaaDoor
open Go.RowKit
set_option linter.unusedVariables false
structure HL (P : Program) (ops : Array Oper) (Q : Exit → Act → World → Prop) (F : Fz) (fuel : Nat) (listed : Array Bool) (a : Act) (w : World) : Prop where
  out : Go.wpAnyH P .any ops Q (fun w => Sat w F) fuel listed a w
section
variable {P : Program} {ops : Array Oper} {Q : Exit → Act → World → Prop} {F : Fz} {fuel : Nat} {listed : Array Bool} {a : Act} {w : World} {o : Oper}
theorem region_hl {id : Nat} {l : List Oper} {w0 : World} {F0 : Fz} {L : List Blk} {M : List RowP} (S : St w0 F0 w F L M) (hm : P.follows .mixedOrders = true) (h : ∀ w', St w0 F0 w' F L M → HL P l.toArray Q F l.length (Array.replicate l.length false) a w') : (Code.region id l.toArray true).wp P Q a w := by
  have := (h { w with drawn := w.drawn + 1 } (S.tells (Below.refl w.heap.size w).drew)).out
  refine wp_region_held (S := fun w => Sat w F) hm ?_
  simpa using this
def canTake (ops : Array Oper) (listed : Array Bool) (i : Nat) : Bool := Region.noSelect ops && Region.free .any ops listed i && (Region.ready .any ops listed).contains i
theorem hl_take {l : List Oper} (i : Nat) (hi : l[i]? = some o) (hc : canTake l.toArray listed i = true) {v : Value} (hQ : ∀ c a w, Q (.panic c) (a.put o.dst v) w → Q (.panic c) a w) (hS : Sat w F) (hw : Region.wanted o (yielded l.toArray a.tmps) = true)
    (hr : ∀ w1, Sat w1 F → (execOp a.eval o).run P w1 = .ok (.value v) w1) (h : HL P l.toArray Q F fuel (listed.setIfInBounds i true) (a.put o.dst v) w) : HL P l.toArray Q F (fuel + 1) listed a w := by
  simp only [canTake, Bool.and_eq_true] at hc
  exact ⟨Go.wpAnyH_take (by simpa using hi) hc.1.1 hc.1.2 hc.2 hQ (.inl ⟨hw, hr⟩) hS h.out⟩
theorem hl_skip {l : List Oper} (i : Nat) (hi : l[i]? = some o) (hc : canTake l.toArray listed i = true) (hQ : ∀ c a w, Q (.panic c) (a.put o.dst undef) w → Q (.panic c) a w) (hS : Sat w F) (hw : Region.wanted o (yielded l.toArray a.tmps) = false)
    (h : HL P l.toArray Q F fuel (listed.setIfInBounds i true) (a.put o.dst undef) w) : HL P l.toArray Q F (fuel + 1) listed a w := by
  simp only [canTake, Bool.and_eq_true] at hc
  exact ⟨Go.wpAnyH_take (by simpa using hi) hc.1.1 hc.1.2 hc.2 hQ (.inr ⟨hw, rfl⟩) hS h.out⟩
theorem Oper.wp_exit {K K' : Act → World → Prop} (hh : o.wp P a w K (Exit.then K' Q)) : o.wp P a w K Q := by
  unfold Oper.wp at *
  generalize (execOp a.eval o).run P w = r at *
  cases r with
  | ok n w' =>
    cases n <;> simp only [Oper.upon] at hh ⊢ <;> try exact hh
  | halt x w' => cases x <;> exact hh
/-- The only one that may come up. -/
theorem hl_next {l : List Oper} (i : Nat) (hr : Region.ready .any l.toArray listed = [i]) (hi : l[i]? = some o) (h : WL P l.toArray (Exit.then (fun a' w' => Sat w' F ∧ Go.wpAnyH P .any l.toArray Q (fun w => Sat w F) fuel (listed.setIfInBounds i true) a' w') Q) [o] a w) : HL P l.toArray Q F (fuel + 1) listed a w := by
  refine ⟨Go.wpAnyH_all hr (by simp) fun j hj => ?_⟩
  have hji : j = i := by simpa using hj
  subst hji
  have h1 := h.out
  unfold wpList at h1
  unfold wpOp
  have hi' : l.toArray[j]? = some o := by simpa using hi
  simp only [hi']
  split
  · rename_i hw
    rw [if_pos hw] at h1
    rcases h1 with h1 | h1
    · left
      refine Oper.wp_mono (fun a' w' hk => ?_) (Oper.wp_exit h1)
      exact hk
    · exact .inr h1
  · rename_i hw
    rw [if_neg hw] at h1
    exact h1
theorem hl_back (hS : Sat w F) (h : HL P ops Q F fuel listed a w) : Exit.then (fun a' w' => Sat w' F ∧ Go.wpAnyH P .any ops Q (fun w => Sat w F) fuel listed a' w') Q .normal a w := ⟨hS, h.out⟩
theorem hl_done (hr : Region.ready .any ops listed = []) (h : Q .normal a w) : HL P ops Q F fuel listed a w := ⟨Go.wpAnyH_done hr h _⟩
end
end Go.Proofs.YtcanckliggcllaaDoor
namespace Go.Proofs.YtcanckliggcllaaDoor
open Go.ChangeShapes Go.WideShapes Go.ChangeAt Go.RowKit Go.Deep
set_option maxRecDepth 100000
theorem laidVars_at {P : Program} {W : World} : ∀ {l : List (String × DataW Unit)} {ps : List MemPlace}, DataW.LaidVars P W l ps → ∀ (i : Nat) (n : String) (d : DataW Unit), l[i]? = some (n, d) →
    ∃ g t cs fuel p, P.globalNamed n = some g ∧ (P.globals[g]?).map (·.type) = some t ∧ W.var? P n = some cs ∧ DataW.trod (fun _ => ()) P W 0 (fun _ => true) false fuel t cs.toList = some (d, p)
  | [], _, _, i, n, d, hi => by simp at hi
  | (n', d') :: r, ps, h, i, n, d, hi => by
    obtain ⟨g, t, cs, fuel, p, q, h1, h2, h3, h4, h5, h6⟩ := h
    cases i with
    | zero =>
      simp only [List.getElem?_cons_zero, Option.some.injEq, Prod.mk.injEq] at hi
      obtain ⟨rfl, rfl⟩ := hi
      exact ⟨g, t, cs, fuel, p, h1, h2, h3, h4⟩
    | succ i => exact laidVars_at h5 i n d (by simpa using hi)
theorem tabIs_at {P : Program} {W : World} {l : List (String × DataW Unit)} (h : laidMet P l W) (i : Nat) (name : String) (k : IntKind) (zs : List Int) {g : Nat} {t e : TypeId} {n : Nat}
    (hi : l[i]? = some (name, Lib.tabData k zs))
    (hg : P.globalNamed name = some g) (hty : (P.globals[g]?).map (·.type) = some t) (ht : P.underlying t = some (.array n e)) (he : P.underlying e = some (.int k)) (hce : P.cellsOf e = 1) (hct : P.cellsOf t = n) : Lib.TabIs P W name k zs := by
  obtain ⟨ps, hv, _, _⟩ := h
  obtain ⟨g', t', cs, fuel, p, hg', ht', hvar, hd⟩ := laidVars_at hv i name _ hi
  obtain rfl := Option.some.inj (hg.symm.trans hg')
  obtain rfl := Option.some.inj (hty.symm.trans ht')
  unfold Lib.TabIs
  rw [hvar, ← Lib.cells_of_tab ht he hce hct hd]
theorem array5 {α : Type} {cs : Array α} (h : cs.size = 5) : ∃ c0 c1 c2 c3 c4, cs = #[c0, c1, c2, c3, c4] := by
  obtain ⟨l⟩ := cs
  match l, h with
  | [c0, c1, c2, c3, c4], _ => exact ⟨c0, c1, c2, c3, c4, rfl⟩
/-- A struct of five one-cell fields, by value, opened. -/
theorem open_agg5 {H : Type} {enc : TypeId × Value → H} {P : Program} {w : World} {base : Nat} {spare : Nat → Bool} {held : Bool} {r : Reach} {b0 : Nat} {t : TypeId} {f0 f1 f2 f3 f4 : Field} {v : Value} {d : DataW H} {p : List MemPlace}
    (hs : P.underlying t = some (.struct #[f0, f1, f2, f3, f4])) (hone : oneCellFields P #[f0, f1, f2, f3, f4] = true) (hC : P.cellsOf t = 5)
    (hv : Value.okWide P w r b0 t v) (h : DataW.Trod enc P w base spare held t v d p) :
    ∃ (v0 v1 v2 v3 v4 : Value) (y0 y1 y2 y3 y4 : DataW H × List MemPlace) (n : Nat), v = .agg #[v0, v1, v2, v3, v4] ∧
      DataW.trod enc P w base spare held n f0.type [v0] = some y0 ∧ DataW.trod enc P w base spare held n f1.type [v1] = some y1 ∧ DataW.trod enc P w base spare held n f2.type [v2] = some y2 ∧
      DataW.trod enc P w base spare held n f3.type [v3] = some y3 ∧ DataW.trod enc P w base spare held n f4.type [v4] = some y4 := by
  obtain ⟨cs, rfl, hsz⟩ := okWide_struct hs hv
  obtain ⟨c0, c1, c2, c3, c4, rfl⟩ := array5 (hsz.trans hC)
  obtain ⟨fuel, hf⟩ := h
  obtain ⟨xs, n, _, _, _, hlen, hi⟩ := DataW.trod_struct hs hf
  have H1 : ∀ (i : Nat) f, #[f0, f1, f2, f3, f4][i]? = some f → f.offset = i ∧ P.cellsOf f.type = 1 := fun i f hf => by
    obtain ⟨o, k⟩ := hone_of hone i f hf
    exact ⟨o, k⟩
  match xs, hlen with
  | [y0, y1, y2, y3, y4], _ =>
    refine ⟨c0, c1, c2, c3, c4, y0, y1, y2, y3, y4, n, rfl, ?_, ?_, ?_, ?_, ?_⟩
    · have := hi 0 f0 rfl; rw [(H1 0 f0 rfl).1, (H1 0 f0 rfl).2] at this; simpa [Value.cells] using this
    · have := hi 1 f1 rfl; rw [(H1 1 f1 rfl).1, (H1 1 f1 rfl).2] at this; simpa [Value.cells] using this
    · have := hi 2 f2 rfl; rw [(H1 2 f2 rfl).1, (H1 2 f2 rfl).2] at this; simpa [Value.cells] using this
    · have := hi 3 f3 rfl; rw [(H1 3 f3 rfl).1, (H1 3 f3 rfl).2] at this; simpa [Value.cells] using this
    · have := hi 4 f4 rfl; rw [(H1 4 f4 rfl).1, (H1 4 f4 rfl).2] at this; simpa [Value.cells] using this
end Go.Proofs.YtcanckliggcllaaDoor
namespace Go.Proofs.YtcanckliggcllaaDoor
open Go.RowKit
set_option maxRecDepth 100000
set_option linter.unusedVariables false
set_option linter.unusedSimpArgs false
def ByC (F : Fz) (cs : List Value) (b : UInt8) : Prop := cs = [bv b]
theorem ByC.mono (F F' : Fz) (x : List Value) (p : UInt8) (hl : Le F F') (h : ByC F x p) : ByC F' x p := h
theorem bv_one (b : UInt8) : ∀ u ∈ [bv b], u.oneCell' = true := by intro u hu; rw [List.mem_singleton.1 hu]; rfl
theorem ByC.one (F : Fz) (cs : List Value) (p : UInt8) (h : ByC F cs p) : ∀ u ∈ cs, u.oneCell' = true := by rw [h]; exact bv_one p
theorem bytes_flat : ∀ l : By, ((l.map fun b => [bv b]).flatten) = l.map bv
  | [] => rfl
  | b :: l => by simp [bytes_flat l]
theorem allR_bytes (F : Fz) : ∀ l : By, AllR (ByC F) (l.map fun b => [bv b]) l
  | [] => trivial
  | _ :: l => ⟨rfl, allR_bytes F l⟩
theorem bytes_of : ∀ {xs : List (List Value)} {l : By} {F : Fz}, AllR (ByC F) xs l → xs.flatten = l.map bv
  | [], [], _, _ => rfl
  | x :: xs, b :: l, F, h => by rw [List.flatten_cons, h.1, bytes_of h.2]; rfl
theorem Bs.sl {F : Fz} {v : Value} {l : By} (h : Bs F v l) : Sl 1 ByC F v l := ⟨l.map fun b => [bv b], by rw [bytes_flat]; exact h, allR_bytes F l, by simp⟩
theorem bs_of_sl {F : Fz} {v : Value} {l : By} (h : Sl 1 ByC F v l) : Bs F v l := by
  obtain ⟨xs, h1, h2, _⟩ := h
  rw [bytes_of h2] at h1
  exact h1
theorem conv_b8 (z : Nat) (w : World) : (convert 3 5 (.int .i64 (z : Nat))).run Tryd.prog w = .ok (bv (b8 z)) w := by
  have : (convert 3 5 (.int .i64 (z : Nat))).run Tryd.prog w = .ok (.int .u8 (IntKind.u8.wrap (z : Int))) w := by kernel_rfl
  rw [this]
  have e : IntKind.u8.wrap (z : Int) = ((b8 z).toNat : Int) := by
    rw [show IntKind.u8.wrap (z : Int) = (z : Int) % 256 from rfl]
    simp [b8]
  rw [e]; rfl
theorem conv_int (b : UInt8) (w : World) : (convert 5 3 (bv b)).run Tryd.prog w = .ok (.int .i64 ((b.toNat : Nat) : Int)) w := by
  have : (convert 5 3 (bv b)).run Tryd.prog w = .ok (.int .i64 (IntKind.i64.wrap (b.toNat : Int))) w := by kernel_rfl
  rw [this, wrap64_in (by omega) (by have := UInt8.toNat_lt b; omega)]
theorem ex_shrN {P : Program} {ρ : Operand → Value} {w : World} {d : Option Tmp} {t X Y : TypeId} {x y : Operand} {pos : String} {after : Array Edge} {guard : Option (Nat × Bool)} {m n : Nat} (hx : ρ x = .int .i64 (m : Int)) (hy : ρ y = .int .u64 (n : Int)) (hn : n ≤ 64) : (execOp ρ ⟨d, .binOp .shr X x y Y, t, pos, after, guard⟩).run P w = .ok (.value (.int .i64 ((m / 2 ^ n : Nat) : Int))) w := by
  have e : (eqGuard .shr X x y (.int .i64 (m : Int)) (.int .u64 (n : Int))).run P w = .ok () w := rfl
  have h : (binOp .shr X (.int .i64 (m : Int)) (.int .u64 (n : Int))).run P w = .ok (.int .i64 ((m / 2 ^ n : Nat) : Int)) w := by
    show (Op.shift .shr .i64 (m : Int) .u64 (n : Int)).run P w = _
    unfold Op.shift
    rw [if_neg (by omega)]
    show Result.ok (Value.int .i64 (Int.fdiv (m : Int) (2 ^ (min (n : Int).toNat 64)))) w = _
    rw [Int.toNat_natCast, Nat.min_eq_left hn, Int.fdiv_eq_ediv_of_nonneg _ (show (0 : Int) ≤ 2 ^ n from Int.le_of_lt (Int.pow_pos (by decide)))]
    simp
  simp only [execOp, hx, hy, Sem.run_bind, e, Result.andThen_ok, h, Sem.run_pure]
theorem Bs.get {F : Fz} {a : Option Addr} {n c : Nat} {l : By} (h : Bs F (.slice a n c) l) {i : Nat} {b : UInt8} (hb : l[i]? = some b) : ∃ g o, a = some ⟨g, o, none⟩ ∧ cellF F g (o + i * 1) = some (bv b) := by
  obtain ⟨a', c', e, _, _, _, h5⟩ := h
  injection e with e1 _ _
  subst e1
  rcases h5 with h5 | ⟨g, o, e, h6⟩
  · rw [List.map_eq_nil_iff] at h5
    subst h5; cases hb
  · exact ⟨g, o, e, by rw [Nat.mul_one]; exact h6 i (bv b) (by rw [List.getElem?_map, hb]; rfl)⟩
theorem St.front {w0 w : World} {F0 F : Fz} {L : List Blk} {M : List RowP} (S : St w0 F0 w F L M) {i : Nat} {b : Blk} (h : L[i]? = some b) : St w0 F0 w F (b :: L.eraseIdx i) M := by
  obtain ⟨hi, rfl⟩ := List.getElem?_eq_some_iff.1 h
  have hp : (L[i] :: L.eraseIdx i).Perm L := by
    have h1 : L.take i ++ L[i] :: L.drop (i + 1) = L := by rw [← List.drop_eq_getElem_cons hi, List.take_append_drop]
    rw [List.eraseIdx_eq_take_drop_succ]
    exact List.perm_middle.symm.trans (List.Perm.of_eq h1)
  exact ⟨S.gr, fun x hx => S.blk x (hp.mem_iff.1 hx), S.row, (hp.pairwise_iff (fun h => Ne.symm h)).2 S.bb, fun r hr x hx => S.rb r hr x (hp.mem_iff.1 hx), S.rr⟩
abbrev Bys (F : Fz) (v : Value) (l : By) : Prop := Sl 1 ByC F v l
end Go.Proofs.YtcanckliggcllaaDoor
namespace Go.Proofs.YtcanckliggcllaaDoor
open Go.RowKit
set_option maxRecDepth 100000
set_option linter.unusedVariables false
/-- A lane as the number that a cell holds. -/
def lane (a : BitVec 64) : Int := (a.toNat : Int)
theorem lane_bd (a : BitVec 64) : 0 ≤ lane a ∧ lane a < 18446744073709551616 := by
  have := a.isLt
  unfold lane
  omega
theorem lane_ofInt (a : BitVec 64) : BitVec.ofInt IntKind.u64.bits (lane a) = a := by
  show BitVec.ofInt 64 (a.toNat : Int) = a
  simp
theorem lane_wrap (a : BitVec 64) : IntKind.u64.wrap ((BitVec.toNat a : Nat) : Int) = lane a := by
  have := a.isLt
  unfold lane IntKind.wrap
  simp only [IntKind.signed, Bool.false_and, Bool.false_eq_true, if_false, IntKind.bits]
  omega
theorem lane_xor (a b : BitVec 64) : bits .xor .u64 (lane a) (lane b) = lane (a ^^^ b) := by
  unfold bits
  simp only [lane_ofInt]
  exact lane_wrap (a ^^^ b)
theorem lane_or (a b : BitVec 64) : bits .or .u64 (lane a) (lane b) = lane (a ||| b) := by
  unfold bits
  simp only [lane_ofInt]
  exact lane_wrap (a ||| b)
theorem lane_and (a b : BitVec 64) : bits .and .u64 (lane a) (lane b) = lane (a &&& b) := by
  unfold bits
  simp only [lane_ofInt]
  exact lane_wrap (a &&& b)
theorem wrap_u64 (z : Int) : IntKind.u64.wrap z = z % 18446744073709551616 := by
  unfold IntKind.wrap
  simp only [IntKind.signed, Bool.false_and, Bool.false_eq_true, if_false]
  rfl
theorem lane_shl (a : BitVec 64) (n : Nat) : IntKind.u64.wrap (lane a * 2 ^ n) = lane (a <<< n) := by
  rw [wrap_u64]
  unfold lane
  rw [BitVec.toNat_shiftLeft, Nat.shiftLeft_eq, Int.natCast_emod, Int.natCast_mul, Int.natCast_pow]
  rfl
theorem lane_shr (a : BitVec 64) (n : Nat) : lane a / 2 ^ n = lane (a >>> n) := by
  unfold lane
  simp only [BitVec.toNat_ushiftRight, Nat.shiftRight_eq_div_pow]
  push_cast
  rfl
set_option maxHeartbeats 1000000 in
theorem turn_spec (w : World) (x : BitVec 64) (n : Nat) (h1 : 1 ≤ n) (h2 : n ≤ 63) :
    Calls Tryd.prog 64 #[.int .u64 (lane x), .int .i64 n] w (Tells w (.int .u64 (lane (turnL x n)))) := by
  go_enter Tryd.func64, Tryd.ntmps64
  go_wp2_with fail
  go_quiet (fail)
  go_wp2_with fail
  go_ret
  rw [lane_shl, lane_shr, lane_or]
  exact ⟨rfl, ⟨rfl, rfl, rfl, Nat.le_refl _, fun _ _ => rfl⟩⟩
end Go.Proofs.YtcanckliggcllaaDoor
namespace Go.Proofs.YtcanckliggcllaaDoor
open Go.RowKit
set_option maxRecDepth 100000
set_option linter.unusedVariables false
set_option linter.unusedSimpArgs false
theorem nagg_88 (w : World) : (isAgg 88).run Tryd.prog w = .ok false w := by kernel_rfl
theorem size_88 : (Tryd.prog.info? 88).map (·.size) = some 1 := by kernel_rfl
theorem sizeof_88 (w : World) : (sizeOf 88).run Tryd.prog w = .ok 1 w := by kernel_rfl
theorem size_107 : (Tryd.prog.info? 107).map (·.size) = some 5 := by kernel_rfl
theorem zero_107 (w : World) : (zeroValue 107).run Tryd.prog w = .ok (.agg #[.int .u64 0, .int .u64 0, .int .u64 0, .int .u64 0, .int .u64 0]) w := by kernel_rfl
abbrev laneV (a : BitVec 64) : Value := .int .u64 (lane a)
theorem at0_mapL (n : Nat) (f : Nat → BitVec 64) (i : Nat) (h : i < n) : at0 (mapL n f) i = f i := by simp [at0, mapL, List.getD, h]
theorem mapL_ext {n : Nat} {f g : Nat → BitVec 64} (h : ∀ i, i < n → f i = g i) : mapL n f = mapL n g := List.map_congr_left (fun i hi => h i (List.mem_range.1 hi))
theorem mapL_at0 (S : List (BitVec 64)) : mapL S.length (at0 S) = S := by
  apply List.ext_getElem (by simp [mapL])
  intro i h1 h2
  simp [mapL, at0, List.getD, h2]
theorem mapL_set (n : Nat) (f : Nat → BitVec 64) (k : Nat) (v : BitVec 64) : (mapL n f).set k v = mapL n fun i => if i = k then v else f i := by
  apply List.ext_getElem (by simp [mapL])
  intro i h1 h2
  simp only [mapL, List.getElem_set, List.getElem_map, List.getElem_range]
  by_cases h : k = i
  · subst h; simp
  · rw [if_neg h, if_neg (fun e => h e.symm)]
theorem goesN_bd : ∀ i, i < 24 → goesN i < 25 := by decide
theorem turnsN_bd : ∀ i, i < 24 → 1 ≤ turnsN i ∧ turnsN i ≤ 63 := by decide
def Tabs (w : World) : Prop := (∀ i, i < 24 → w.cell? ⟨0, i, none⟩ = some (.int .i64 (goesN i))) ∧ (∀ i, i < 24 → w.cell? ⟨1, i, none⟩ = some (.int .i64 (turnsN i))) ∧ ∀ i, i < 24 → w.cell? ⟨2, i, none⟩ = some (.int .u64 (lane (roundB i)))
theorem Tabs.lt {w : World} (h : Tabs w) : 0 < w.heap.size ∧ 1 < w.heap.size ∧ 2 < w.heap.size :=
  ⟨World.block_lt_of_cell? w ⟨0, 0, none⟩ (h.1 0 (by decide)), World.block_lt_of_cell? w ⟨1, 0, none⟩ (h.2.1 0 (by decide)), World.block_lt_of_cell? w ⟨2, 0, none⟩ (h.2.2 0 (by decide))⟩
theorem Tabs.below {w w' : World} {N : Nat} (h : Tabs w) (hb : Below N w w') (h1 : 0 < N) (h2 : 1 < N) (h3 : 2 < N) : Tabs w' :=
  ⟨fun i hi => by rw [hb.cell (p := ⟨0, i, none⟩) h1]; exact h.1 i hi, fun i hi => by rw [hb.cell (p := ⟨1, i, none⟩) h2]; exact h.2.1 i hi, fun i hi => by rw [hb.cell (p := ⟨2, i, none⟩) h3]; exact h.2.2 i hi⟩
def goesV : Array Value := (goesT.map fun i : Nat => Value.int .i64 (i : Int)).toArray
theorem goes_load {w : World} (h : Tabs w) : (Instr.loadAt 109 (.pointer (some ⟨0, 0, none⟩))).run Tryd.prog w = .ok (.agg goesV) w := by
  unfold goesV
  refine run_loadAt_mid (P := Tryd.prog) w 0 0 109 (goesT.map fun i : Nat => Value.int .i64 (i : Int)) (.array 24 3) (fun j v hj => ?_) (by kernel_rfl) rfl (by kernel_rfl)
  have hj' : j < 24 := by
    have := (List.getElem?_eq_some_iff.1 hj).1
    simpa [goesT] using this
  rw [Nat.zero_add, h.1 j hj', ← hj]
  unfold goesN
  rw [List.getElem?_map, List.getD_eq_getElem?_getD]
  have : goesT[j]? = some (goesT[j]'(by simpa [goesT] using hj')) := List.getElem?_eq_getElem _
  rw [this]
  rfl
theorem Tabs.at {w w' : World} (h : Tabs w) (hb : Below w.heap.size w w') : Tabs w' := h.below hb h.lt.1 h.lt.2.1 h.lt.2.2
theorem goes_at {k : Nat} (h : k < 24) : goesV[k]? = some (.int .i64 ((goesN k : Nat) : Int)) := by
  unfold goesV goesN
  have hk : k < goesT.length := by simpa [goesT] using h
  simp [List.getElem?_map, List.getElem?_eq_getElem hk, List.getD_eq_getElem?_getD]
theorem lanes_at {X : List (BitVec 64)} {i : Nat} (h : i < X.length) : (X.map laneV)[i]? = some (laneV (at0 X i)) := by
  simp [at0, List.getElem?_map, List.getElem?_eq_getElem h, List.getD_eq_getElem?_getD]
theorem lanes_set {X : List (BitVec 64)} {j : Nat} {x : BitVec 64} (h : j < X.length) : splice (X.map laneV) j [laneV x] = (X.set j x).map laneV := by
  unfold splice
  rw [List.map_set, List.set_eq_take_append_cons_drop, if_pos (by simpa using h)]
  simp
def cL (S : List (BitVec 64)) (k : Nat) : List (BitVec 64) := mapL 5 fun x => if x < k then colL S x else 0
theorem cL_len (S : List (BitVec 64)) (k : Nat) : (cL S k).length = 5 := mapL_len _ _
theorem cL_step (S : List (BitVec 64)) {k : Nat} (h : k < 5) : (cL S k).set k (colL S k) = cL S (k + 1) := by
  unfold cL
  rw [mapL_set]
  refine mapL_ext fun i hi => ?_
  by_cases e : i = k
  · subst e; rw [if_pos rfl, if_pos (by omega)]
  · rw [if_neg e]
    by_cases e2 : i < k
    · rw [if_pos e2, if_pos (by omega)]
    · rw [if_neg e2, if_neg (by omega)]
theorem cL_zero (S : List (BitVec 64)) : cL S 0 = List.replicate 5 0 := by
  unfold cL mapL; rfl
theorem cL_all (S : List (BitVec 64)) : cL S 5 = (List.range 5).map (colL S) := by
  unfold cL
  exact mapL_ext fun i hi => if_pos hi
theorem thL_len (S C : List (BitVec 64)) (k : Nat) : (thL S C k).length = 25 := mapL_len _ _
theorem thL_zero {S C : List (BitVec 64)} (h : S.length = 25) : thL S C 0 = S := by
  unfold thL
  rw [mapL_ext (g := at0 S) (fun i hi => if_neg (by omega))]
  have := mapL_at0 S
  rwa [h] at this
theorem thL_at {S C : List (BitVec 64)} {i : Nat} (h : i < 25) : at0 (thL S C i) i = at0 S i := by
  unfold thL
  rw [at0_mapL _ _ _ h, if_neg (by omega)]
theorem thL_step (S C : List (BitVec 64)) {i : Nat} (h : i < 25) : (thL S C i).set i (thAt S C i) = thL S C (i + 1) := by
  unfold thL
  rw [mapL_set]
  refine mapL_ext fun j hj => ?_
  by_cases e : j = i
  · subst e; rw [if_pos rfl, if_pos (by omega)]
  · rw [if_neg e]
    by_cases e2 : j < i
    · rw [if_pos e2, if_pos (by omega)]
    · rw [if_neg e2, if_neg (by omega)]
theorem rhoL_len {A : List (BitVec 64)} (h : A.length = 25) : ∀ k, (rhoL A k).1.length = 25
  | 0 => h
  | k + 1 => by simp [rhoL, rhoL_len h k]
def chiK (B : List (BitVec 64)) (k : Nat) : List (BitVec 64) := mapL 25 fun i => if i < k then chiAt B i else at0 B i
theorem chiK_len (B : List (BitVec 64)) (k : Nat) : (chiK B k).length = 25 := mapL_len _ _
theorem chiK_zero {B : List (BitVec 64)} (h : B.length = 25) : chiK B 0 = B := by
  unfold chiK
  rw [mapL_ext (g := at0 B) (fun i hi => if_neg (by omega))]
  have := mapL_at0 B
  rwa [h] at this
theorem chiK_at {B : List (BitVec 64)} {k i : Nat} (h : k ≤ i) (hi : i < 25) : at0 (chiK B k) i = at0 B i := by
  unfold chiK
  rw [at0_mapL _ _ _ hi, if_neg (by omega)]
theorem chiK_step (B : List (BitVec 64)) {i : Nat} (h : i < 25) : (chiK B i).set i (chiAt B i) = chiK B (i + 1) := by
  unfold chiK
  rw [mapL_set]
  refine mapL_ext fun j hj => ?_
  by_cases e : j = i
  · subst e; rw [if_pos rfl, if_pos (by omega)]
  · rw [if_neg e]
    by_cases e2 : j < i
    · rw [if_pos e2, if_pos (by omega)]
    · rw [if_neg e2, if_neg (by omega)]
theorem chiK_all (B : List (BitVec 64)) : chiK B 25 = chiL B := by
  unfold chiK chiL
  exact mapL_ext fun i hi => if_pos hi
section
variable {P : Program} {ρ : Operand → Value} {w : World} {d : Option Tmp} {t X Y E : TypeId} {n : Nat} {pos : String} {after : Array Edge} {guard : Option (Nat × Bool)} {x y : Operand}
theorem ex_ixA {cs : Array Value} {i : Nat} {v : Value} (hX : P.underlying X = some (.array n E)) (hs : (sizeOf E).run P w = .ok 1 w) (hx : ρ x = .agg cs) (hy : ρ y = .int .i64 i) (hi : i < n) (hb : (isAgg E).run P w = .ok false w) (hv : cs[i]? = some v) :
    (execOp ρ ⟨d, .index X x y, t, pos, after, guard⟩).run P w = .ok (.value v) w := by
  have h1 : (0 : Int) ≤ (i : Int) ∧ (i : Int) < (n : Int) := by omega
  simp [execOp, hx, hy, Instr.index, part, Sem.run_bind, run_underlying hX w, asIntOf, hs, h1, hb, hv, hi]
theorem ex_atA {b i : Nat} (hX : P.underlying X = some (.array n E)) (hs : (sizeOf E).run P w = .ok 1 w) (hx : ρ x = .pointer (some ⟨b, 0, none⟩)) (hy : ρ y = .int .i64 i) (hi : i < n) :
    (execOp ρ ⟨d, .indexAddr X x y, t, pos, after, guard⟩).run P w = .ok (.value (.pointer (some ⟨b, i, none⟩))) w := by
  have hadd : (⟨b, 0, none⟩ : Addr).add (i * 1) = ⟨b, i, none⟩ := by rw [Addr.add_mid]; simp
  have hlt : (0 : Int) ≤ (i : Int) ∧ (i : Int) < (n : Int) := by omega
  simp only [Nat.mul_one] at hadd
  simp [execOp, hx, hy, Instr.indexAt, Instr.sureAddr, asIntOf, Sem.run_bind, Sem.run_pure, Result.andThen_ok, run_underlying hX w, hs, hadd, hlt, hi]
theorem ex_xorL {a b : BitVec 64} (hx : ρ x = laneV a) (hy : ρ y = laneV b) : (execOp ρ ⟨d, .binOp .xor X x y Y, t, pos, after, guard⟩).run P w = .ok (.value (laneV (a ^^^ b))) w := by
  refine ex_bin hx hy ?_
  rw [run_binInt _ (by simp)]
  show Result.ok (Value.int .u64 (bits .xor .u64 (lane a) (lane b))) w = _
  rw [lane_xor]
theorem ex_andL {a b : BitVec 64} (hx : ρ x = laneV a) (hy : ρ y = laneV b) : (execOp ρ ⟨d, .binOp .and X x y Y, t, pos, after, guard⟩).run P w = .ok (.value (laneV (a &&& b))) w := by
  refine ex_bin hx hy ?_
  rw [run_binInt _ (by simp)]
  show Result.ok (Value.int .u64 (bits .and .u64 (lane a) (lane b))) w = _
  rw [lane_and]
theorem ex_notL {a : BitVec 64} (hx : ρ x = laneV a) : (execOp ρ ⟨d, .unOp .xor X x, t, pos, after, guard⟩).run P w = .ok (.value (laneV (~~~ a))) w := by
  have e : (18446744073709551615 : Int) = lane (BitVec.allOnes 64) := by decide
  have h : bits .xor .u64 (18446744073709551615 : Int) (lane a) = lane (~~~ a) := by rw [e, lane_xor, BitVec.allOnes_xor]
  simp only [execOp, hx]
  show Result.ok (Next.value (.int .u64 (bits .xor .u64 (18446744073709551615 : Int) (lane a)))) w = _
  rw [h]
theorem ex_remA {m n : Nat} (hx : ρ x = .int .i64 (m : Int)) (hy : ρ y = .int .i64 (n : Int)) (hn : 0 < n) (hm : m ≤ 9223372036854775807) : (execOp ρ ⟨d, .binOp .rem X x y Y, t, pos, after, guard⟩).run P w = .ok (.value (.int .i64 ((m % n : Nat) : Int))) w := by
  refine ex_bin hx hy ?_
  rw [run_binInt _ (by simp)]
  show (Op.intDiv .rem .i64 m n).run P w = _
  unfold Op.intDiv
  rw [if_neg (by omega)]
  show Result.ok (Value.int .i64 (Int.tmod (m : Int) (n : Int))) w = _
  rw [Int.tmod_eq_emod_of_nonneg (by omega)]
  rfl
end
end Go.Proofs.YtcanckliggcllaaDoor
namespace Go.Proofs.YtcanckliggcllaaDoor
open Go.RowKit
set_option maxRecDepth 100000
set_option linter.unusedVariables false
set_option linter.unusedSimpArgs false
theorem ex_sliceA {P : Program} {ρ : Operand → Value} {w : World} {d : Option Tmp} {t X E : TypeId} {n : Nat} {pos : String} {after : Array Edge} {guard : Option (Nat × Bool)} {x lo hi : Operand} {b l h : Nat} (hX : P.underlying X = some (.array n E)) (hx : ρ x = .pointer (some ⟨b, 0, none⟩)) (hsz : (sizeOf E).run P w = .ok 1 w) (hl : ρ lo = .int .i64 (l : Int)) (hh : ρ hi = .int .i64 (h : Int)) (h1 : l ≤ h) (h2 : h ≤ n) (h3 : l < n) :
    (execOp ρ ⟨d, .slice X x (some lo) (some hi) none, t, pos, after, guard⟩).run P w = .ok (.value (.slice (some ⟨b, l, none⟩) (h - l) (n - l))) w := by
  have b1 : ∀ (z y : Nat) (code : BoundsCode), z ≤ y → (Instr.sliceBound (.int .i64 z) y code).run P w = .ok z w := by
    intro z y code hzy
    have : (0 : Int) ≤ (z : Int) ∧ (z : Int) ≤ (y : Int) := by omega
    simp [Instr.sliceBound, asIntOf, this]
  have hb : (Instr.sliceBounds false n n (some (.int .i64 l)) (some (.int .i64 h)) none).run P w = .ok (l, h, n) w := by
    simp [Instr.sliceBounds, b1 _ _ _ h2, b1 _ _ _ h1]
  have hadd : (⟨b, 0, none⟩ : Addr).add l = ⟨b, l, none⟩ := by have := Addr.add_mid b 0 l; simpa using this
  have hn : ¬ n = l := by omega
  simp [execOp, hx, hl, hh, Instr.sliceAt, Instr.sureAddr, Sem.run_bind, Sem.run_pure, Result.andThen_ok, run_underlying hX w, hb, hsz, hadd, hn]
theorem ex_s2a {P : Program} {ρ : Operand → Value} {w : World} {d : Option Tmp} {t X E : TypeId} {n : Nat} {pos : String} {after : Array Edge} {guard : Option (Nat × Bool)} {x : Operand} {a : Option Addr} {l c : Nat} (hX : P.underlying X = some (.array n E)) (hx : ρ x = .slice a l c) (hl : n ≤ l) :
    (execOp ρ ⟨d, .sliceToArrayPointer X x, t, pos, after, guard⟩).run P w = .ok (.value (.pointer a)) w := by
  have : ¬ l < n := by omega
  simp [execOp, hx, Instr.arrayAt, Sem.run_bind, Sem.run_pure, run_underlying hX w, this]
theorem St.cellsAt {w0 w : World} {F0 F : Fz} {L : List Blk} {M : List RowP} (S : St w0 F0 w F L M) {i : Nat} {n : Nat} {c : List Value} {t : TypeId} (h : L[i]? = some ⟨n, c, t⟩) : ∀ j v, c[j]? = some v → w.cell? ⟨n, j, none⟩ = some v := fun j v hv => St.cell S h hv
theorem row_load {w : World} {n : Nat} {X : List (BitVec 64)} {y : Nat} (h : ∀ (j : Nat) v, (X.map laneV)[j]? = some v → w.cell? ⟨n, j, none⟩ = some v) (hy : y + 5 ≤ X.length) :
    (Instr.loadAt 107 (.pointer (some ⟨n, y, none⟩))).run Tryd.prog w = .ok (.agg #[laneV (at0 X y), laneV (at0 X (y + 1)), laneV (at0 X (y + 2)), laneV (at0 X (y + 3)), laneV (at0 X (y + 4))]) w := by
  refine run_loadAt_mid (P := Tryd.prog) w n y 107 [laneV (at0 X y), laneV (at0 X (y + 1)), laneV (at0 X (y + 2)), laneV (at0 X (y + 3)), laneV (at0 X (y + 4))] (.array 5 88) (fun j v hj => ?_) (by kernel_rfl) rfl (by kernel_rfl)
  refine h _ _ ?_
  have hj5 : j < 5 := by have := (List.getElem?_eq_some_iff.1 hj).1; simpa using this
  rw [lanes_at (by omega), ← hj]
  rcases (by omega : j = 0 ∨ j = 1 ∨ j = 2 ∨ j = 3 ∨ j = 4) with rfl | rfl | rfl | rfl | rfl <;> rfl
theorem rho_one (A : List (BitVec 64)) (k : Nat) : (rhoL A k).1.set (goesN k) (turnL (rhoL A k).2 (turnsN k)) = (rhoL A (k + 1)).1 := rfl
def rowL (Q : List (BitVec 64)) (y : Nat) : List (BitVec 64) := [at0 Q y, at0 Q (y + 1), at0 Q (y + 2), at0 Q (y + 3), at0 Q (y + 4)]
theorem rowL_len (Q : List (BitVec 64)) (y : Nat) : (rowL Q y).length = 5 := rfl
theorem rowL_at {Q : List (BitVec 64)} {y x : Nat} (h : x < 5) : at0 (rowL Q y) x = at0 Q (y + x) := by
  rcases (by omega : x = 0 ∨ x = 1 ∨ x = 2 ∨ x = 3 ∨ x = 4) with rfl | rfl | rfl | rfl | rfl <;> rfl
theorem rowL_chi {Q : List (BitVec 64)} {y : Nat} (h : y + 5 ≤ 25) : rowL (chiK Q y) y = rowL Q y := by
  unfold rowL
  rw [chiK_at (by omega) (by omega), chiK_at (by omega) (by omega), chiK_at (by omega) (by omega), chiK_at (by omega) (by omega), chiK_at (by omega) (by omega)]
theorem chi_row {Q : List (BitVec 64)} {y x : Nat} (hy : y % 5 = 0) (hx : x < 5) : at0 (rowL Q y) x ^^^ (~~~ (at0 (rowL Q y) ((x + 1) % 5)) &&& at0 (rowL Q y) ((x + 2) % 5)) = chiAt Q (y + x) := by
  unfold chiAt
  rw [rowL_at hx, rowL_at (by omega), rowL_at (by omega), show (y + x) / 5 * 5 = y from by omega, show (y + x) % 5 = x from by omega]
theorem res_0 {fn : Func} {tmps : Array Value} {P : Program} {w : World} (h : fn.results = #[]) : (results fn tmps).run P w = .ok (.tuple #[]) w := by simp [results, h]
set_option maxHeartbeats 8000000 in
theorem stir_spec {w0 w : World} {F0 F : Fz} {L0 : List Blk} {M0 : List RowP} {rb r : Nat} {Z : List (BitVec 64)} (S : St w0 F0 w F (⟨rb, Z.map laneV, 90⟩ :: L0) M0) (hl : Z.length = 25) (hT : Tabs w0) (hr : r < 24) :
    Calls Tryd.prog 53 #[.pointer (some ⟨rb, 0, none⟩), .int .i64 ((r : Nat) : Int)] w fun e w' => e = .returned (.tuple #[]) ∧ St w0 F0 w' F (⟨rb, (stirL Z r).map laneV, 90⟩ :: L0) M0 := by
 go_enter Tryd.func53, Tryd.ntmps53
 refine wp_seq_k (fun K1 hK1 => region_wl ?_)
 refine stNew S (v := fun n => .pointer (some ⟨n, 0, none⟩)) rfl (ex_alloc (zero_107 _)) (fun n2 w3 S4 => ?_)
 simp only [pS, pN, pA, pC, pZ]
 have S4 : St w0 F0 w3 F (⟨n2, [(laneV 0), (laneV 0), (laneV 0), (laneV 0), (laneV 0)], 107⟩ :: ⟨rb, (Z.map laneV), 90⟩ :: L0) (M0) := S4
 refine wl_nil (hK1 _ _ ?_)
 refine wp_seq_k (fun K5 hK5 => ?_)
 refine wp_seq_k (fun K6 hK6 => region_wl ?_)
 refine do_ rfl (.int .i64 0) (ex_move _) ?_
 simp only [pS, pN, pA, pC, pZ]
 refine wl_nil (hK6 _ _ ?_)
 refine wp_block ?_
 have S4 : St w0 F0 w3 F (⟨n2, ((cL Z 0).map laneV), 107⟩ :: ⟨rb, (Z.map laneV), 90⟩ :: L0) (M0) := by rw [cL_zero]; exact S4
 refine wp_loop_g (fun mm aa w8 => ∃ (k1 : Nat) (u7 : Nat → Value), mm = 5 - k1 ∧ u7 = slots aa ∧ aa = ⟨#[(.pointer (some ⟨rb, 0, none⟩)), (.int .i64 ((r : Nat) : Int)), undef, undef, (.pointer (some ⟨n2, 0, none⟩)), (u7 5), undef, undef, undef, undef, undef, undef, undef, undef, (.int .i64 ((k1 : Nat) : Int)), (u7 15), (u7 16), (u7 17), (u7 18), (u7 19), (u7 20), (u7 21), (u7 22), (u7 23), (u7 24), (u7 25), (u7 26), (u7 27), (u7 28), (u7 29), (u7 30), (u7 31), (u7 32), (u7 33), (u7 34), (u7 35), (u7 36), (u7 37), (u7 38), (u7 39), (u7 40), (u7 41), (u7 42), (u7 43), (u7 44), (u7 45), (u7 46), (u7 47), (u7 48), (u7 49), (u7 50), (u7 51), (u7 52), undef, undef, undef, undef, undef, undef, undef, undef, undef, undef, undef, undef, undef, undef, undef, undef, undef, undef, undef, undef, undef, undef, undef, undef, undef, undef, undef, undef, undef, undef, undef, undef, undef, undef, undef, undef, undef, undef, undef, undef, undef, undef, undef, undef, undef, undef, undef, undef, undef, undef, undef, undef, undef, undef, undef, undef, undef, undef, undef, undef, undef, undef, undef, undef, undef, undef, undef, undef, undef, undef, undef, undef, undef, undef, undef, undef, undef, undef, undef, undef, undef, undef, undef, undef, undef, undef, undef, undef, undef, undef, undef, undef, undef, undef, undef, undef, undef, undef], []⟩ ∧ St w0 F0 w8 F (⟨n2, ((cL Z k1).map laneV), 107⟩ :: ⟨rb, (Z.map laneV), 90⟩ :: L0) (M0) ∧ (k1 ≤ 5)) _ ⟨0, _, rfl, rfl, rfl, S4, (by omega)⟩ ?_
 rintro m9 a10 w11 ⟨k1, u7, rfl, -, rfl, S12, hk1⟩ K14 hK14
 refine wp_seq_k (fun K15 hK15 => region_wl ?_)
 by_cases hc15 : k1 < 5
 ·refine do_ rfl (.bool true) (ex_lss (m := ((k1 : Nat) : Int)) (n := (5 : Int)) (b := true) rfl rfl (decide_eq_true (by omega))) ?_
  simp only [pS, pN, pA, pC, pZ]
  refine wl_nil (hK15 _ _ ?_)
  refine wp_seq_k (fun K16 hK16 => ?_)
  refine wp_cond_true rfl ?_
  refine wp_skip ?_
  refine hK16 _ _ ?_
  refine wp_seq_k (fun K17 hK17 => ?_)
  refine wp_block ?_
  refine wp_seq_k (fun K18 hK18 => region_wl ?_)
  refine do_ rfl (.int .i64 ((k1 : Nat) : Int)) (ex_move _) ?_
  simp only [pS, pN, pA, pC, pZ]
  refine do_ rfl (.int .i64 ((k1 : Nat) : Int)) (ex_assign _) ?_
  simp only [pS, pN, pA, pC, pZ]
  refine wl_nil (hK18 _ _ ?_)
  refine region_gw F 34 [] (by kernel_rfl) (by kernel_rfl) ?_
  simp only [List.take_succ_cons, List.take_zero]
  refine gw_pure rfl rfl (.int .i64 ((k1 : Nat) : Int)) (fun w19 hCw19 => pureAt_of (ex_move _)) ?_
  simp only [pS, pN, pA, pC, pZ]
  refine gw_pure rfl rfl (.pointer (some ⟨rb, 0, none⟩)) (fun w19 hCw19 => pureAt_of (ex_move _)) ?_
  simp only [pS, pN, pA, pC, pZ]
  refine gw_pure rfl rfl (.int .i64 ((k1 : Nat) : Int)) (fun w19 hCw19 => pureAt_of (ex_move _)) ?_
  simp only [pS, pN, pA, pC, pZ]
  refine gw_pure rfl rfl (.pointer (some ⟨rb, 0, none⟩)) (fun w19 hCw19 => pureAt_of (ex_nil rfl)) ?_
  simp only [pS, pN, pA, pC, pZ]
  refine gw_pure rfl rfl (.pointer (some ⟨rb, k1, none⟩)) (fun w19 hCw19 => pureAt_of (ex_atA (i := k1) Tryd.underlying90 (sizeof_88 _) rfl rfl (by omega))) ?_
  simp only [pS, pN, pA, pC, pZ]
  refine gw_pure rfl rfl (laneV (at0 Z k1)) (fun w19 hCw19 => pureAt_of (ex_load rfl (load1 (nagg_88 _) (St.cell (St.tells S12 hCw19) (i := 1) rfl (lanes_at (Nat.lt_of_lt_of_eq (show k1 < 25 by omega) hl.symm)))))) ?_
  simp only [pS, pN, pA, pC, pZ]
  refine gw_pure rfl rfl (.pointer (some ⟨rb, 0, none⟩)) (fun w19 hCw19 => pureAt_of (ex_move _)) ?_
  simp only [pS, pN, pA, pC, pZ]
  refine gw_pure rfl rfl (.int .i64 ((k1 : Nat) : Int)) (fun w19 hCw19 => pureAt_of (ex_move _)) ?_
  simp only [pS, pN, pA, pC, pZ]
  refine gw_pure rfl rfl (.int .i64 (((k1 + 5) : Nat) : Int)) (fun w19 hCw19 => pureAt_of (ex_add (m := ((k1 : Nat) : Int)) (n := (5 : Int)) (r := (((k1 + 5) : Nat) : Int)) rfl rfl (by omega) (by omega) (by omega))) ?_
  simp only [pS, pN, pA, pC, pZ]
  refine gw_pure rfl rfl (.pointer (some ⟨rb, 0, none⟩)) (fun w19 hCw19 => pureAt_of (ex_nil rfl)) ?_
  simp only [pS, pN, pA, pC, pZ]
  refine gw_pure rfl rfl (.pointer (some ⟨rb, (k1 + 5), none⟩)) (fun w19 hCw19 => pureAt_of (ex_atA (i := (k1 + 5)) Tryd.underlying90 (sizeof_88 _) rfl rfl (by omega))) ?_
  simp only [pS, pN, pA, pC, pZ]
  refine gw_pure rfl rfl (laneV (at0 Z (k1 + 5))) (fun w19 hCw19 => pureAt_of (ex_load rfl (load1 (nagg_88 _) (St.cell (St.tells S12 hCw19) (i := 1) rfl (lanes_at (Nat.lt_of_lt_of_eq (show (k1 + 5) < 25 by omega) hl.symm)))))) ?_
  simp only [pS, pN, pA, pC, pZ]
  refine gw_pure rfl rfl (laneV ((at0 Z k1) ^^^ (at0 Z (k1 + 5)))) (fun w19 hCw19 => pureAt_of (ex_xorL rfl rfl)) ?_
  simp only [pS, pN, pA, pC, pZ]
  refine gw_pure rfl rfl (.pointer (some ⟨rb, 0, none⟩)) (fun w19 hCw19 => pureAt_of (ex_move _)) ?_
  simp only [pS, pN, pA, pC, pZ]
  refine gw_pure rfl rfl (.int .i64 ((k1 : Nat) : Int)) (fun w19 hCw19 => pureAt_of (ex_move _)) ?_
  simp only [pS, pN, pA, pC, pZ]
  refine gw_pure rfl rfl (.int .i64 (((k1 + 10) : Nat) : Int)) (fun w19 hCw19 => pureAt_of (ex_add (m := ((k1 : Nat) : Int)) (n := (10 : Int)) (r := (((k1 + 10) : Nat) : Int)) rfl rfl (by omega) (by omega) (by omega))) ?_
  simp only [pS, pN, pA, pC, pZ]
  refine gw_pure rfl rfl (.pointer (some ⟨rb, 0, none⟩)) (fun w19 hCw19 => pureAt_of (ex_nil rfl)) ?_
  simp only [pS, pN, pA, pC, pZ]
  refine gw_pure rfl rfl (.pointer (some ⟨rb, (k1 + 10), none⟩)) (fun w19 hCw19 => pureAt_of (ex_atA (i := (k1 + 10)) Tryd.underlying90 (sizeof_88 _) rfl rfl (by omega))) ?_
  simp only [pS, pN, pA, pC, pZ]
  refine gw_pure rfl rfl (laneV (at0 Z (k1 + 10))) (fun w19 hCw19 => pureAt_of (ex_load rfl (load1 (nagg_88 _) (St.cell (St.tells S12 hCw19) (i := 1) rfl (lanes_at (Nat.lt_of_lt_of_eq (show (k1 + 10) < 25 by omega) hl.symm)))))) ?_
  simp only [pS, pN, pA, pC, pZ]
  refine gw_pure rfl rfl (laneV (((at0 Z k1) ^^^ (at0 Z (k1 + 5))) ^^^ (at0 Z (k1 + 10)))) (fun w19 hCw19 => pureAt_of (ex_xorL rfl rfl)) ?_
  simp only [pS, pN, pA, pC, pZ]
  refine gw_pure rfl rfl (.pointer (some ⟨rb, 0, none⟩)) (fun w19 hCw19 => pureAt_of (ex_move _)) ?_
  simp only [pS, pN, pA, pC, pZ]
  refine gw_pure rfl rfl (.int .i64 ((k1 : Nat) : Int)) (fun w19 hCw19 => pureAt_of (ex_move _)) ?_
  simp only [pS, pN, pA, pC, pZ]
  refine gw_pure rfl rfl (.int .i64 (((k1 + 15) : Nat) : Int)) (fun w19 hCw19 => pureAt_of (ex_add (m := ((k1 : Nat) : Int)) (n := (15 : Int)) (r := (((k1 + 15) : Nat) : Int)) rfl rfl (by omega) (by omega) (by omega))) ?_
  simp only [pS, pN, pA, pC, pZ]
  refine gw_pure rfl rfl (.pointer (some ⟨rb, 0, none⟩)) (fun w19 hCw19 => pureAt_of (ex_nil rfl)) ?_
  simp only [pS, pN, pA, pC, pZ]
  refine gw_pure rfl rfl (.pointer (some ⟨rb, (k1 + 15), none⟩)) (fun w19 hCw19 => pureAt_of (ex_atA (i := (k1 + 15)) Tryd.underlying90 (sizeof_88 _) rfl rfl (by omega))) ?_
  simp only [pS, pN, pA, pC, pZ]
  refine gw_pure rfl rfl (laneV (at0 Z (k1 + 15))) (fun w19 hCw19 => pureAt_of (ex_load rfl (load1 (nagg_88 _) (St.cell (St.tells S12 hCw19) (i := 1) rfl (lanes_at (Nat.lt_of_lt_of_eq (show (k1 + 15) < 25 by omega) hl.symm)))))) ?_
  simp only [pS, pN, pA, pC, pZ]
  refine gw_pure rfl rfl (laneV ((((at0 Z k1) ^^^ (at0 Z (k1 + 5))) ^^^ (at0 Z (k1 + 10))) ^^^ (at0 Z (k1 + 15)))) (fun w19 hCw19 => pureAt_of (ex_xorL rfl rfl)) ?_
  simp only [pS, pN, pA, pC, pZ]
  refine gw_pure rfl rfl (.pointer (some ⟨rb, 0, none⟩)) (fun w19 hCw19 => pureAt_of (ex_move _)) ?_
  simp only [pS, pN, pA, pC, pZ]
  refine gw_pure rfl rfl (.int .i64 ((k1 : Nat) : Int)) (fun w19 hCw19 => pureAt_of (ex_move _)) ?_
  simp only [pS, pN, pA, pC, pZ]
  refine gw_pure rfl rfl (.int .i64 (((k1 + 20) : Nat) : Int)) (fun w19 hCw19 => pureAt_of (ex_add (m := ((k1 : Nat) : Int)) (n := (20 : Int)) (r := (((k1 + 20) : Nat) : Int)) rfl rfl (by omega) (by omega) (by omega))) ?_
  simp only [pS, pN, pA, pC, pZ]
  refine gw_pure rfl rfl (.pointer (some ⟨rb, 0, none⟩)) (fun w19 hCw19 => pureAt_of (ex_nil rfl)) ?_
  simp only [pS, pN, pA, pC, pZ]
  refine gw_pure rfl rfl (.pointer (some ⟨rb, (k1 + 20), none⟩)) (fun w19 hCw19 => pureAt_of (ex_atA (i := (k1 + 20)) Tryd.underlying90 (sizeof_88 _) rfl rfl (by omega))) ?_
  simp only [pS, pN, pA, pC, pZ]
  refine gw_pure rfl rfl (laneV (at0 Z (k1 + 20))) (fun w19 hCw19 => pureAt_of (ex_load rfl (load1 (nagg_88 _) (St.cell (St.tells S12 hCw19) (i := 1) rfl (lanes_at (Nat.lt_of_lt_of_eq (show (k1 + 20) < 25 by omega) hl.symm)))))) ?_
  simp only [pS, pN, pA, pC, pZ]
  refine gw_pure rfl rfl (laneV (((((at0 Z k1) ^^^ (at0 Z (k1 + 5))) ^^^ (at0 Z (k1 + 10))) ^^^ (at0 Z (k1 + 15))) ^^^ (at0 Z (k1 + 20)))) (fun w19 hCw19 => pureAt_of (ex_xorL rfl rfl)) ?_
  simp only [pS, pN, pA, pC, pZ]
  refine gw_nil ?_
  intro w20 hC22 hF23
  clear hF23
  have S21 := St.tells S12 hC22
  simp only [List.drop_succ_cons, List.drop_zero]
  refine do_ rfl (.pointer (some ⟨n2, k1, none⟩)) (ex_atA (i := k1) Tryd.underlying107 (sizeof_88 _) rfl rfl (by omega)) ?_
  simp only [pS, pN, pA, pC, pZ]
  refine stStore (i := 0) (v := laneV (((((at0 Z k1) ^^^ (at0 Z (k1 + 5))) ^^^ (at0 Z (k1 + 10))) ^^^ (at0 Z (k1 + 15))) ^^^ (at0 Z (k1 + 20)))) S21 rfl rfl rfl rfl (size_88) (allc1 rfl) (by rw [List.length_map, (cL_len _ _)]; show k1 + 1 ≤ 5; omega) (fun w24 S25 => ?_)
  simp only [pS, pN, pA, pC, pZ]
  have S25 : St w0 F0 w24 F (⟨n2, (splice ((cL Z k1).map laneV) k1 [laneV (((((at0 Z k1) ^^^ (at0 Z (k1 + 5))) ^^^ (at0 Z (k1 + 10))) ^^^ (at0 Z (k1 + 15))) ^^^ (at0 Z (k1 + 20)))]), 107⟩ :: ⟨rb, (Z.map laneV), 90⟩ :: L0) (M0) := S25
  rw [lanes_set (Nat.lt_of_lt_of_eq (show k1 < 5 by omega) (cL_len _ _).symm)] at S25
  have S25 : St w0 F0 w24 F (⟨n2, (((cL Z k1).set k1 (colL Z k1)).map laneV), 107⟩ :: ⟨rb, (Z.map laneV), 90⟩ :: L0) (M0) := S25
  rw [cL_step Z (by omega)] at S25
  refine wl_nil (hK17 _ _ ?_)
  refine region_wl ?_
  refine do_ rfl (.int .i64 (((k1 + 1) : Nat) : Int)) (ex_add (m := ((k1 : Nat) : Int)) (n := (1 : Int)) (r := (((k1 + 1) : Nat) : Int)) rfl rfl (by omega) (by omega) (by omega)) ?_
  simp only [pS, pN, pA, pC, pZ]
  refine do_ rfl (.int .i64 (((k1 + 1) : Nat) : Int)) (ex_move _) ?_
  simp only [pS, pN, pA, pC, pZ]
  refine wl_nil ?_
  exact hK14 _ _ _ (by omega) ⟨(k1 + 1), _, rfl, rfl, rfl, S25, (by omega)⟩
 ·refine do_ rfl (.bool false) (ex_lss (m := ((k1 : Nat) : Int)) (n := (5 : Int)) (b := false) rfl rfl (decide_eq_false (by omega))) ?_
  simp only [pS, pN, pA, pC, pZ]
  refine wl_nil (hK15 _ _ ?_)
  refine wp_seq_k (fun K26 hK26 => ?_)
  refine wp_cond_false rfl ?_
  refine wp_exit ?_
  refine hK5 _ _ ?_
  refine wp_seq_k (fun K27 hK27 => ?_)
  refine wp_seq_k (fun K28 hK28 => ?_)
  obtain rfl : k1 = 5 := by omega
  refine region_wl ?_
  refine do_ rfl (.int .i64 0) (ex_move _) ?_
  simp only [pS, pN, pA, pC, pZ]
  refine wl_nil (hK28 _ _ ?_)
  refine wp_block ?_
  have S12 : St w0 F0 w11 F (⟨n2, ((cL Z 5).map laneV), 107⟩ :: ⟨rb, ((thL Z (cL Z 5) 0).map laneV), 90⟩ :: L0) (M0) := by rw [thL_zero hl]; exact S12
  refine wp_loop_g (fun mm aa w30 => ∃ (k2 : Nat) (u29 : Nat → Value), mm = 25 - k2 ∧ u29 = slots aa ∧ aa = ⟨#[(.pointer (some ⟨rb, 0, none⟩)), (.int .i64 ((r : Nat) : Int)), undef, undef, (.pointer (some ⟨n2, 0, none⟩)), (u7 5), (u29 6), (u29 7), undef, undef, undef, undef, undef, undef, (.int .i64 5), (.bool false), (u7 16), (u7 17), (u7 18), (u7 19), (u7 20), (u7 21), (u7 22), (u7 23), (u7 24), (u7 25), (u7 26), (u7 27), (u7 28), (u7 29), (u7 30), (u7 31), (u7 32), (u7 33), (u7 34), (u7 35), (u7 36), (u7 37), (u7 38), (u7 39), (u7 40), (u7 41), (u7 42), (u7 43), (u7 44), (u7 45), (u7 46), (u7 47), (u7 48), (u7 49), (u7 50), (u7 51), (u7 52), (.int .i64 ((k2 : Nat) : Int)), (u29 54), (u29 55), (u29 56), (u29 57), (u29 58), (u29 59), (u29 60), (u29 61), (u29 62), (u29 63), (u29 64), (u29 65), (u29 66), (u29 67), (u29 68), (u29 69), (u29 70), (u29 71), (u29 72), (u29 73), (u29 74), (u29 75), (u29 76), (u29 77), (u29 78), undef, undef, undef, undef, undef, undef, undef, undef, undef, undef, undef, undef, undef, undef, undef, undef, undef, undef, undef, undef, undef, undef, undef, undef, undef, undef, undef, undef, undef, undef, undef, undef, undef, undef, undef, undef, undef, undef, undef, undef, undef, undef, undef, undef, undef, undef, undef, undef, undef, undef, undef, undef, undef, undef, undef, undef, undef, undef, undef, undef, undef, undef, undef, undef, undef, undef, undef, undef, undef, undef, undef, undef], []⟩ ∧ St w0 F0 w30 F (⟨n2, ((cL Z 5).map laneV), 107⟩ :: ⟨rb, ((thL Z (cL Z 5) k2).map laneV), 90⟩ :: L0) (M0) ∧ (k2 ≤ 25)) _ ⟨0, _, rfl, rfl, rfl, S12, (by omega)⟩ ?_
  rintro m31 a32 w33 ⟨k2, u29, rfl, -, rfl, S34, hk2⟩ K36 hK36
  refine wp_seq_k (fun K37 hK37 => region_wl ?_)
  by_cases hc54 : k2 < 25
  ·refine do_ rfl (.bool true) (ex_lss (m := ((k2 : Nat) : Int)) (n := (25 : Int)) (b := true) rfl rfl (decide_eq_true (by omega))) ?_
   simp only [pS, pN, pA, pC, pZ]
   refine wl_nil (hK37 _ _ ?_)
   refine wp_seq_k (fun K38 hK38 => ?_)
   refine wp_cond_true rfl ?_
   refine wp_skip ?_
   refine hK38 _ _ ?_
   refine wp_seq_k (fun K39 hK39 => ?_)
   refine wp_block ?_
   refine wp_seq_k (fun K40 hK40 => region_wl ?_)
   refine do_ rfl (.int .i64 ((k2 : Nat) : Int)) (ex_move _) ?_
   simp only [pS, pN, pA, pC, pZ]
   refine do_ rfl (.int .i64 ((k2 : Nat) : Int)) (ex_assign _) ?_
   simp only [pS, pN, pA, pC, pZ]
   refine wl_nil (hK40 _ _ ?_)
   refine wp_seq_k (fun K41 hK41 => region_wl ?_)
   refine do_ rfl (.int .i64 ((k2 : Nat) : Int)) (ex_move _) ?_
   simp only [pS, pN, pA, pC, pZ]
   refine do_ rfl (.int .i64 (((k2 % 5) : Nat) : Int)) (ex_remA (m := k2) (n := 5) rfl rfl (by decide) (by omega)) ?_
   simp only [pS, pN, pA, pC, pZ]
   refine do_ rfl (.int .i64 (((k2 % 5) : Nat) : Int)) (ex_assign _) ?_
   simp only [pS, pN, pA, pC, pZ]
   refine wl_nil (hK41 _ _ ?_)
   refine region_gw F 19 [(15, .is (laneV (turnL (at0 (cL Z 5) (((k2 % 5) + 1) % 5)) 1)))] (by kernel_rfl) (by kernel_rfl) ?_
   simp only [List.take_succ_cons, List.take_zero]
   refine gw_pure rfl rfl (.pointer (some ⟨rb, 0, none⟩)) (fun w42 hCw42 => pureAt_of (ex_move _)) ?_
   simp only [pS, pN, pA, pC, pZ]
   refine gw_pure rfl rfl (.int .i64 ((k2 : Nat) : Int)) (fun w42 hCw42 => pureAt_of (ex_move _)) ?_
   simp only [pS, pN, pA, pC, pZ]
   refine gw_pure rfl rfl (.pointer (some ⟨rb, 0, none⟩)) (fun w42 hCw42 => pureAt_of (ex_nil rfl)) ?_
   simp only [pS, pN, pA, pC, pZ]
   refine gw_pure rfl rfl (.pointer (some ⟨rb, k2, none⟩)) (fun w42 hCw42 => pureAt_of (ex_atA (i := k2) Tryd.underlying90 (sizeof_88 _) rfl rfl (by omega))) ?_
   simp only [pS, pN, pA, pC, pZ]
   refine gw_pure rfl rfl (laneV (at0 (thL Z (cL Z 5) k2) k2)) (fun w42 hCw42 => pureAt_of (ex_load rfl (load1 (nagg_88 _) (St.cell (St.tells S34 hCw42) (i := 1) rfl (lanes_at (Nat.lt_of_lt_of_eq (show k2 < 25 by omega) (thL_len _ _ _).symm)))))) ?_
   simp only [pS, pN, pA, pC, pZ]
   refine gw_pure rfl rfl (.int .i64 (((k2 % 5) : Nat) : Int)) (fun w42 hCw42 => pureAt_of (ex_move _)) ?_
   simp only [pS, pN, pA, pC, pZ]
   refine gw_pure rfl rfl (.int .i64 ((((k2 % 5) + 4) : Nat) : Int)) (fun w42 hCw42 => pureAt_of (ex_add (m := (((k2 % 5) : Nat) : Int)) (n := (4 : Int)) (r := ((((k2 % 5) + 4) : Nat) : Int)) rfl rfl (by omega) (by omega) (by omega))) ?_
   simp only [pS, pN, pA, pC, pZ]
   refine gw_pure rfl rfl (.int .i64 (((((k2 % 5) + 4) % 5) : Nat) : Int)) (fun w42 hCw42 => pureAt_of (ex_remA (m := ((k2 % 5) + 4)) (n := 5) rfl rfl (by decide) (by omega))) ?_
   simp only [pS, pN, pA, pC, pZ]
   refine gw_pure rfl rfl (.pointer (some ⟨n2, (((k2 % 5) + 4) % 5), none⟩)) (fun w42 hCw42 => pureAt_of (ex_atA (i := (((k2 % 5) + 4) % 5)) Tryd.underlying107 (sizeof_88 _) rfl rfl (by omega))) ?_
   simp only [pS, pN, pA, pC, pZ]
   refine gw_pure rfl rfl (laneV (at0 (cL Z 5) (((k2 % 5) + 4) % 5))) (fun w42 hCw42 => pureAt_of (ex_load rfl (load1 (nagg_88 _) (St.cell (St.tells S34 hCw42) (i := 0) rfl (lanes_at (Nat.lt_of_lt_of_eq (show (((k2 % 5) + 4) % 5) < 5 by omega) (cL_len _ _).symm)))))) ?_
   simp only [pS, pN, pA, pC, pZ]
   refine gw_pure rfl rfl (.int .i64 (((k2 % 5) : Nat) : Int)) (fun w42 hCw42 => pureAt_of (ex_move _)) ?_
   simp only [pS, pN, pA, pC, pZ]
   refine gw_pure rfl rfl (.int .i64 ((((k2 % 5) + 1) : Nat) : Int)) (fun w42 hCw42 => pureAt_of (ex_add (m := (((k2 % 5) : Nat) : Int)) (n := (1 : Int)) (r := ((((k2 % 5) + 1) : Nat) : Int)) rfl rfl (by omega) (by omega) (by omega))) ?_
   simp only [pS, pN, pA, pC, pZ]
   refine gw_pure rfl rfl (.int .i64 (((((k2 % 5) + 1) % 5) : Nat) : Int)) (fun w42 hCw42 => pureAt_of (ex_remA (m := ((k2 % 5) + 1)) (n := 5) rfl rfl (by decide) (by omega))) ?_
   simp only [pS, pN, pA, pC, pZ]
   refine gw_pure rfl rfl (.pointer (some ⟨n2, (((k2 % 5) + 1) % 5), none⟩)) (fun w42 hCw42 => pureAt_of (ex_atA (i := (((k2 % 5) + 1) % 5)) Tryd.underlying107 (sizeof_88 _) rfl rfl (by omega))) ?_
   simp only [pS, pN, pA, pC, pZ]
   refine gw_pure rfl rfl (laneV (at0 (cL Z 5) (((k2 % 5) + 1) % 5))) (fun w42 hCw42 => pureAt_of (ex_load rfl (load1 (nagg_88 _) (St.cell (St.tells S34 hCw42) (i := 0) rfl (lanes_at (Nat.lt_of_lt_of_eq (show (((k2 % 5) + 1) % 5) < 5 by omega) (cL_len _ _).symm)))))) ?_
   simp only [pS, pN, pA, pC, pZ]
   refine gw_const rfl rfl (v := (laneV (turnL (at0 (cL Z 5) (((k2 % 5) + 1) % 5)) 1))) (fun w42 hCw42 _ => does_call (ex_fn (vs := #[(laneV (at0 (cL Z 5) (((k2 % 5) + 1) % 5))), (.int .i64 1)]) (map2 rfl rfl) rfl (ent_64 _ _)) (call_tells (turn_spec _ (at0 (cL Z 5) (((k2 % 5) + 1) % 5)) 1 (by decide) (by decide)))) ?_
   simp only [pS, pN, pA, pC, pZ]
   refine gw_pure rfl rfl (laneV ((at0 (cL Z 5) (((k2 % 5) + 4) % 5)) ^^^ (turnL (at0 (cL Z 5) (((k2 % 5) + 1) % 5)) 1))) (fun w42 hCw42 => pureAt_of (ex_xorL rfl rfl)) ?_
   simp only [pS, pN, pA, pC, pZ]
   refine gw_pure rfl rfl (laneV ((at0 (thL Z (cL Z 5) k2) k2) ^^^ ((at0 (cL Z 5) (((k2 % 5) + 4) % 5)) ^^^ (turnL (at0 (cL Z 5) (((k2 % 5) + 1) % 5)) 1)))) (fun w42 hCw42 => pureAt_of (ex_xorL rfl rfl)) ?_
   simp only [pS, pN, pA, pC, pZ]
   refine gw_pure rfl rfl (.pointer (some ⟨rb, 0, none⟩)) (fun w42 hCw42 => pureAt_of (ex_nil rfl)) ?_
   simp only [pS, pN, pA, pC, pZ]
   refine gw_nil ?_
   intro w43 hC45 hF46
   clear hF46
   have S44 := St.tells S34 hC45
   simp only [List.drop_succ_cons, List.drop_zero]
   refine do_ rfl (.pointer (some ⟨rb, k2, none⟩)) (ex_atA (i := k2) Tryd.underlying90 (sizeof_88 _) rfl rfl (by omega)) ?_
   simp only [pS, pN, pA, pC, pZ]
   refine stStore (i := 1) (v := laneV ((at0 (thL Z (cL Z 5) k2) k2) ^^^ ((at0 (cL Z 5) (((k2 % 5) + 4) % 5)) ^^^ (turnL (at0 (cL Z 5) (((k2 % 5) + 1) % 5)) 1)))) S44 rfl rfl rfl rfl (size_88) (allc1 rfl) (by rw [List.length_map, (thL_len _ _ _)]; show k2 + 1 ≤ 25; omega) (fun w47 S48 => ?_)
   simp only [pS, pN, pA, pC, pZ]
   have S48 : St w0 F0 w47 F (⟨n2, ((cL Z 5).map laneV), 107⟩ :: ⟨rb, (splice ((thL Z (cL Z 5) k2).map laneV) k2 [laneV ((at0 (thL Z (cL Z 5) k2) k2) ^^^ ((at0 (cL Z 5) (((k2 % 5) + 4) % 5)) ^^^ (turnL (at0 (cL Z 5) (((k2 % 5) + 1) % 5)) 1)))]), 90⟩ :: L0) (M0) := S48
   rw [lanes_set (Nat.lt_of_lt_of_eq (show k2 < 25 by omega) (thL_len _ _ _).symm)] at S48
   rw [thL_at (S := Z) (C := (cL Z 5)) (i := k2) (by omega)] at S48
   have S48 : St w0 F0 w47 F (⟨n2, ((cL Z 5).map laneV), 107⟩ :: ⟨rb, (((thL Z (cL Z 5) k2).set k2 (thAt Z (cL Z 5) k2)).map laneV), 90⟩ :: L0) (M0) := S48
   rw [thL_step Z _ (by omega)] at S48
   refine wl_nil (hK39 _ _ ?_)
   refine region_wl ?_
   refine do_ rfl (.int .i64 (((k2 + 1) : Nat) : Int)) (ex_add (m := ((k2 : Nat) : Int)) (n := (1 : Int)) (r := (((k2 + 1) : Nat) : Int)) rfl rfl (by omega) (by omega) (by omega)) ?_
   simp only [pS, pN, pA, pC, pZ]
   refine do_ rfl (.int .i64 (((k2 + 1) : Nat) : Int)) (ex_move _) ?_
   simp only [pS, pN, pA, pC, pZ]
   refine wl_nil ?_
   exact hK36 _ _ _ (by omega) ⟨(k2 + 1), _, rfl, rfl, rfl, S48, (by omega)⟩
  ·refine do_ rfl (.bool false) (ex_lss (m := ((k2 : Nat) : Int)) (n := (25 : Int)) (b := false) rfl rfl (decide_eq_false (by omega))) ?_
   simp only [pS, pN, pA, pC, pZ]
   refine wl_nil (hK37 _ _ ?_)
   refine wp_seq_k (fun K49 hK49 => ?_)
   refine wp_cond_false rfl ?_
   refine wp_exit ?_
   refine hK27 _ _ ?_
   refine wp_seq_k (fun K50 hK50 => ?_)
   obtain rfl : k2 = 25 := by omega
   obtain ⟨A, hA⟩ : ∃ A, A = thL Z (cL Z 5) 25 := ⟨_, rfl⟩
   have hAl : A.length = 25 := by rw [hA]; exact thL_len _ _ _
   rw [← hA] at S34
   refine region_wl ?_
   refine do_ rfl (.pointer (some ⟨rb, 0, none⟩)) (ex_move _) ?_
   simp only [pS, pN, pA, pC, pZ]
   refine do_ rfl (.pointer (some ⟨rb, 0, none⟩)) (ex_nil rfl) ?_
   simp only [pS, pN, pA, pC, pZ]
   refine do_ rfl (.pointer (some ⟨rb, 1, none⟩)) (ex_atA (i := 1) Tryd.underlying90 (sizeof_88 _) rfl rfl (by omega)) ?_
   simp only [pS, pN, pA, pC, pZ]
   refine do_ rfl (laneV (at0 A 1)) (ex_load rfl (load1 (nagg_88 _) (St.cell S34 (i := 1) rfl (lanes_at (Nat.lt_of_lt_of_eq (show 1 < 25 by omega) hAl.symm))))) ?_
   simp only [pS, pN, pA, pC, pZ]
   refine do_ rfl (laneV (at0 A 1)) (ex_assign _) ?_
   simp only [pS, pN, pA, pC, pZ]
   refine wl_nil (hK50 _ _ ?_)
   refine wp_seq_k (fun K51 hK51 => ?_)
   refine wp_seq_k (fun K52 hK52 => region_wl ?_)
   refine do_ rfl (.agg goesV) (ex_load rfl (goes_load (hT.at S34.gr.below))) ?_
   simp only [pS, pN, pA, pC, pZ]
   refine do_ rfl (.int .i64 0) (ex_move _) ?_
   simp only [pS, pN, pA, pC, pZ]
   refine wl_nil (hK52 _ _ ?_)
   refine wp_block ?_
   have S34 : St w0 F0 w33 F (⟨n2, ((cL Z 5).map laneV), 107⟩ :: ⟨rb, ((rhoL A 0).1.map laneV), 90⟩ :: L0) (M0) := S34
   refine wp_loop_g (fun mm aa w54 => ∃ (k3 : Nat) (u53 : Nat → Value), mm = 24 - k3 ∧ u53 = slots aa ∧ aa = ⟨#[(.pointer (some ⟨rb, 0, none⟩)), (.int .i64 ((r : Nat) : Int)), undef, undef, (.pointer (some ⟨n2, 0, none⟩)), (u7 5), (u29 6), (u29 7), (laneV (rhoL A k3).2), (u53 9), (u53 10), undef, undef, undef, (.int .i64 5), (.bool false), (u7 16), (u7 17), (u7 18), (u7 19), (u7 20), (u7 21), (u7 22), (u7 23), (u7 24), (u7 25), (u7 26), (u7 27), (u7 28), (u7 29), (u7 30), (u7 31), (u7 32), (u7 33), (u7 34), (u7 35), (u7 36), (u7 37), (u7 38), (u7 39), (u7 40), (u7 41), (u7 42), (u7 43), (u7 44), (u7 45), (u7 46), (u7 47), (u7 48), (u7 49), (u7 50), (u7 51), (u7 52), (.int .i64 25), (.bool false), (u29 55), (u29 56), (u29 57), (u29 58), (u29 59), (u29 60), (u29 61), (u29 62), (u29 63), (u29 64), (u29 65), (u29 66), (u29 67), (u29 68), (u29 69), (u29 70), (u29 71), (u29 72), (u29 73), (u29 74), (u29 75), (u29 76), (u29 77), (u29 78), (.pointer (some ⟨rb, 0, none⟩)), (.pointer (some ⟨rb, 0, none⟩)), (.pointer (some ⟨rb, 1, none⟩)), (laneV (at0 A 1)), (.agg goesV), (.int .i64 ((k3 : Nat) : Int)), (u53 85), (u53 86), (u53 87), (u53 88), (u53 89), (u53 90), (u53 91), (u53 92), (u53 93), (u53 94), (u53 95), (u53 96), (u53 97), (u53 98), (u53 99), (u53 100), (u53 101), (u53 102), undef, undef, undef, undef, undef, undef, undef, undef, undef, undef, undef, undef, undef, undef, undef, undef, undef, undef, undef, undef, undef, undef, undef, undef, undef, undef, undef, undef, undef, undef, undef, undef, undef, undef, undef, undef, undef, undef, undef, undef, undef, undef, undef, undef, undef, undef, undef, undef], []⟩ ∧ St w0 F0 w54 F (⟨n2, ((cL Z 5).map laneV), 107⟩ :: ⟨rb, ((rhoL A k3).1.map laneV), 90⟩ :: L0) (M0) ∧ (k3 ≤ 24)) _ ⟨0, _, rfl, rfl, rfl, S34, (by omega)⟩ ?_
   rintro m55 a56 w57 ⟨k3, u53, rfl, -, rfl, S58, hk3⟩ K60 hK60
   refine wp_seq_k (fun K61 hK61 => region_wl ?_)
   by_cases hc85 : k3 < 24
   ·refine do_ rfl (.bool true) (ex_lss (m := ((k3 : Nat) : Int)) (n := (24 : Int)) (b := true) rfl rfl (decide_eq_true (by omega))) ?_
    simp only [pS, pN, pA, pC, pZ]
    refine wl_nil (hK61 _ _ ?_)
    refine wp_seq_k (fun K62 hK62 => ?_)
    refine wp_cond_true rfl ?_
    refine wp_skip ?_
    refine hK62 _ _ ?_
    refine wp_seq_k (fun K63 hK63 => ?_)
    refine wp_block ?_
    refine wp_seq_k (fun K64 hK64 => ?_)
    have hgo := goesN_bd k3 (by omega)
    refine region_wl ?_
    refine do_ rfl (.int .i64 ((k3 : Nat) : Int)) (ex_move _) ?_
    simp only [pS, pN, pA, pC, pZ]
    refine do_ rfl (.int .i64 (((goesN k3) : Nat) : Int)) (ex_ixA (i := k3) Tryd.underlying109 (sizeof_3 _) rfl rfl (by omega) (nagg_3 _) (goes_at (by omega))) ?_
    simp only [pS, pN, pA, pC, pZ]
    refine do_ rfl (.int .i64 ((k3 : Nat) : Int)) (ex_assign _) ?_
    simp only [pS, pN, pA, pC, pZ]
    refine do_ rfl (.int .i64 (((goesN k3) : Nat) : Int)) (ex_assign _) ?_
    simp only [pS, pN, pA, pC, pZ]
    refine wl_nil (hK64 _ _ ?_)
    refine region_gw F 13 [(6, .is (laneV (turnL ((rhoL A k3).2) (turnsN k3))))] (by kernel_rfl) (by kernel_rfl) ?_
    simp only [List.take_succ_cons, List.take_zero]
    refine gw_pure rfl rfl (.pointer (some ⟨rb, 0, none⟩)) (fun w65 hCw65 => pureAt_of (ex_move _)) ?_
    simp only [pS, pN, pA, pC, pZ]
    refine gw_pure rfl rfl (.int .i64 (((goesN k3) : Nat) : Int)) (fun w65 hCw65 => pureAt_of (ex_move _)) ?_
    simp only [pS, pN, pA, pC, pZ]
    refine gw_pure rfl rfl (laneV (rhoL A k3).2) (fun w65 hCw65 => pureAt_of (ex_move _)) ?_
    simp only [pS, pN, pA, pC, pZ]
    refine gw_pure rfl rfl (.int .i64 ((k3 : Nat) : Int)) (fun w65 hCw65 => pureAt_of (ex_move _)) ?_
    simp only [pS, pN, pA, pC, pZ]
    refine gw_pure rfl rfl (.pointer (some ⟨1, k3, none⟩)) (fun w65 hCw65 => pureAt_of (ex_atA (i := k3) Tryd.underlying109 (sizeof_3 _) rfl rfl (by omega))) ?_
    simp only [pS, pN, pA, pC, pZ]
    refine gw_pure rfl rfl (.int .i64 (((turnsN k3) : Nat) : Int)) (fun w65 hCw65 => pureAt_of (ex_load rfl (load1 (nagg_3 _) (((hT.at (St.tells S58 hCw65).gr.below).2.1 k3 (by omega)))))) ?_
    simp only [pS, pN, pA, pC, pZ]
    refine gw_const rfl rfl (v := (laneV (turnL ((rhoL A k3).2) (turnsN k3)))) (fun w65 hCw65 _ => does_call (ex_fn (vs := #[(laneV (rhoL A k3).2), (.int .i64 (((turnsN k3) : Nat) : Int))]) (map2 rfl rfl) rfl (ent_64 _ _)) (call_tells (turn_spec _ ((rhoL A k3).2) (turnsN k3) (turnsN_bd _ (by omega)).1 (turnsN_bd _ (by omega)).2))) ?_
    simp only [pS, pN, pA, pC, pZ]
    refine gw_pure rfl rfl (.pointer (some ⟨rb, 0, none⟩)) (fun w65 hCw65 => pureAt_of (ex_move _)) ?_
    simp only [pS, pN, pA, pC, pZ]
    refine gw_pure rfl rfl (.int .i64 (((goesN k3) : Nat) : Int)) (fun w65 hCw65 => pureAt_of (ex_move _)) ?_
    simp only [pS, pN, pA, pC, pZ]
    refine gw_pure rfl rfl (.pointer (some ⟨rb, 0, none⟩)) (fun w65 hCw65 => pureAt_of (ex_nil rfl)) ?_
    simp only [pS, pN, pA, pC, pZ]
    refine gw_pure rfl rfl (.pointer (some ⟨rb, (goesN k3), none⟩)) (fun w65 hCw65 => pureAt_of (ex_atA (i := (goesN k3)) Tryd.underlying90 (sizeof_88 _) rfl rfl (by omega))) ?_
    simp only [pS, pN, pA, pC, pZ]
    refine gw_pure rfl rfl (laneV (at0 ((rhoL A k3).1) (goesN k3))) (fun w65 hCw65 => pureAt_of (ex_load rfl (load1 (nagg_88 _) (St.cell (St.tells S58 hCw65) (i := 1) rfl (lanes_at (Nat.lt_of_lt_of_eq (show (goesN k3) < 25 by omega) (rhoL_len hAl _).symm)))))) ?_
    simp only [pS, pN, pA, pC, pZ]
    refine gw_pure rfl rfl (.pointer (some ⟨rb, 0, none⟩)) (fun w65 hCw65 => pureAt_of (ex_nil rfl)) ?_
    simp only [pS, pN, pA, pC, pZ]
    refine gw_nil ?_
    intro w66 hC68 hF69
    clear hF69
    have S67 := St.tells S58 hC68
    simp only [List.drop_succ_cons, List.drop_zero]
    refine do_ rfl (.pointer (some ⟨rb, (goesN k3), none⟩)) (ex_atA (i := (goesN k3)) Tryd.underlying90 (sizeof_88 _) rfl rfl (by omega)) ?_
    simp only [pS, pN, pA, pC, pZ]
    refine stStore (i := 1) (v := laneV (turnL ((rhoL A k3).2) (turnsN k3))) S67 rfl rfl rfl rfl (size_88) (allc1 rfl) (by rw [List.length_map, (rhoL_len hAl _)]; show (goesN k3) + 1 ≤ 25; omega) (fun w70 S71 => ?_)
    simp only [pS, pN, pA, pC, pZ]
    have S71 : St w0 F0 w70 F (⟨n2, ((cL Z 5).map laneV), 107⟩ :: ⟨rb, (splice (((rhoL A k3).1).map laneV) (goesN k3) [laneV (turnL ((rhoL A k3).2) (turnsN k3))]), 90⟩ :: L0) (M0) := S71
    rw [lanes_set (Nat.lt_of_lt_of_eq (show (goesN k3) < 25 by omega) (rhoL_len hAl _).symm)] at S71
    rw [rho_one] at S71
    refine do_ rfl (laneV (at0 ((rhoL A k3).1) (goesN k3))) (ex_assign _) ?_
    simp only [pS, pN, pA, pC, pZ]
    refine wl_nil (hK63 _ _ ?_)
    refine region_wl ?_
    refine do_ rfl (.int .i64 (((k3 + 1) : Nat) : Int)) (ex_add (m := ((k3 : Nat) : Int)) (n := (1 : Int)) (r := (((k3 + 1) : Nat) : Int)) rfl rfl (by omega) (by omega) (by omega)) ?_
    simp only [pS, pN, pA, pC, pZ]
    refine do_ rfl (.int .i64 (((k3 + 1) : Nat) : Int)) (ex_move _) ?_
    simp only [pS, pN, pA, pC, pZ]
    refine wl_nil ?_
    exact hK60 _ _ _ (by omega) ⟨(k3 + 1), _, rfl, rfl, rfl, S71, (by omega)⟩
   ·refine do_ rfl (.bool false) (ex_lss (m := ((k3 : Nat) : Int)) (n := (24 : Int)) (b := false) rfl rfl (decide_eq_false (by omega))) ?_
    simp only [pS, pN, pA, pC, pZ]
    refine wl_nil (hK61 _ _ ?_)
    refine wp_seq_k (fun K72 hK72 => ?_)
    refine wp_cond_false rfl ?_
    refine wp_exit ?_
    refine hK51 _ _ ?_
    refine wp_seq_k (fun K73 hK73 => ?_)
    refine wp_seq_k (fun K74 hK74 => ?_)
    obtain rfl : k3 = 24 := by omega
    obtain ⟨Q, hQ⟩ : ∃ Q, Q = (rhoL A 24).1 := ⟨_, rfl⟩
    have hQl : Q.length = 25 := by rw [hQ]; exact rhoL_len hAl _
    rw [← hQ] at S58
    refine region_wl ?_
    refine do_ rfl (.int .i64 0) (ex_assign _) ?_
    simp only [pS, pN, pA, pC, pZ]
    refine wl_nil (hK74 _ _ ?_)
    refine wp_block ?_
    have S58 : St w0 F0 w57 F (⟨n2, ((cL Z 5).map laneV), 107⟩ :: ⟨rb, ((chiK Q 0).map laneV), 90⟩ :: L0) (M0) := by rw [chiK_zero hQl]; exact S58
    refine wp_loop_g (fun mm aa w76 => ∃ (y : Nat) (u75 : Nat → Value), mm = 25 - y ∧ u75 = slots aa ∧ aa = ⟨#[(.pointer (some ⟨rb, 0, none⟩)), (.int .i64 ((r : Nat) : Int)), undef, undef, (.pointer (some ⟨n2, 0, none⟩)), (u7 5), (u29 6), (u29 7), (laneV (rhoL A 24).2), (u53 9), (u53 10), (.int .i64 ((y : Nat) : Int)), (u75 12), (u75 13), (.int .i64 5), (.bool false), (u7 16), (u7 17), (u7 18), (u7 19), (u7 20), (u7 21), (u7 22), (u7 23), (u7 24), (u7 25), (u7 26), (u7 27), (u7 28), (u7 29), (u7 30), (u7 31), (u7 32), (u7 33), (u7 34), (u7 35), (u7 36), (u7 37), (u7 38), (u7 39), (u7 40), (u7 41), (u7 42), (u7 43), (u7 44), (u7 45), (u7 46), (u7 47), (u7 48), (u7 49), (u7 50), (u7 51), (u7 52), (.int .i64 25), (.bool false), (u29 55), (u29 56), (u29 57), (u29 58), (u29 59), (u29 60), (u29 61), (u29 62), (u29 63), (u29 64), (u29 65), (u29 66), (u29 67), (u29 68), (u29 69), (u29 70), (u29 71), (u29 72), (u29 73), (u29 74), (u29 75), (u29 76), (u29 77), (u29 78), (.pointer (some ⟨rb, 0, none⟩)), (.pointer (some ⟨rb, 0, none⟩)), (.pointer (some ⟨rb, 1, none⟩)), (laneV (at0 A 1)), (.agg goesV), (.int .i64 24), (.bool false), (u53 86), (u53 87), (u53 88), (u53 89), (u53 90), (u53 91), (u53 92), (u53 93), (u53 94), (u53 95), (u53 96), (u53 97), (u53 98), (u53 99), (u53 100), (u53 101), (u53 102), (u75 103), (u75 104), (u75 105), (u75 106), (u75 107), (u75 108), (u75 109), (u75 110), (u75 111), (u75 112), (u75 113), (u75 114), (u75 115), (u75 116), (u75 117), (u75 118), (u75 119), (u75 120), (u75 121), (u75 122), (u75 123), (u75 124), (u75 125), (u75 126), (u75 127), (u75 128), (u75 129), (u75 130), (u75 131), (u75 132), (u75 133), (u75 134), (u75 135), (u75 136), (u75 137), (u75 138), (u75 139), (u75 140), undef, undef, undef, undef, undef, undef, undef, undef, undef, undef], []⟩ ∧ St w0 F0 w76 F (⟨n2, ((cL Z 5).map laneV), 107⟩ :: ⟨rb, ((chiK Q y).map laneV), 90⟩ :: L0) (M0) ∧ (y % 5 = 0) ∧ (y ≤ 25)) _ ⟨0, _, rfl, rfl, rfl, S58, (by omega), (by omega)⟩ ?_
    rintro m77 a78 w79 ⟨y, u75, rfl, -, rfl, S80, hy5, hy25⟩ K82 hK82
    refine wp_seq_k (fun K83 hK83 => ?_)
    refine wp_seq_k (fun K84 hK84 => region_wl ?_)
    refine do_ rfl (.int .i64 ((y : Nat) : Int)) (ex_move _) ?_
    simp only [pS, pN, pA, pC, pZ]
    by_cases hc104 : y < 25
    ·refine do_ rfl (.bool true) (ex_lss (m := ((y : Nat) : Int)) (n := (25 : Int)) (b := true) rfl rfl (decide_eq_true (by omega))) ?_
     simp only [pS, pN, pA, pC, pZ]
     refine wl_nil (hK84 _ _ ?_)
     refine wp_cond_true rfl ?_
     refine wp_skip ?_
     refine hK83 _ _ ?_
     refine wp_seq_k (fun K85 hK85 => ?_)
     refine wp_block ?_
     refine wp_seq_k (fun K86 hK86 => region_wl ?_)
     refine do_ rfl (.pointer (some ⟨rb, 0, none⟩)) (ex_move _) ?_
     simp only [pS, pN, pA, pC, pZ]
     refine do_ rfl (.pointer (some ⟨rb, 0, none⟩)) (ex_nil rfl) ?_
     simp only [pS, pN, pA, pC, pZ]
     refine do_ rfl (.int .i64 ((y : Nat) : Int)) (ex_move _) ?_
     simp only [pS, pN, pA, pC, pZ]
     refine do_ rfl (.int .i64 ((y : Nat) : Int)) (ex_move _) ?_
     simp only [pS, pN, pA, pC, pZ]
     refine do_ rfl (.int .i64 (((y + 5) : Nat) : Int)) (ex_add (m := ((y : Nat) : Int)) (n := (5 : Int)) (r := (((y + 5) : Nat) : Int)) rfl rfl (by omega) (by omega) (by omega)) ?_
     simp only [pS, pN, pA, pC, pZ]
     refine do_ rfl (.slice (some ⟨rb, y, none⟩) ((y + 5) - y) (25 - y)) (ex_sliceA (l := y) (h := (y + 5)) Tryd.underlying90 rfl (sizeof_88 _) rfl rfl (by omega) (by omega) (by omega)) ?_
     simp only [pS, pN, pA, pC, pZ]
     refine do_ rfl (.pointer (some ⟨rb, y, none⟩)) (ex_s2a Tryd.underlying107 rfl (by omega)) ?_
     simp only [pS, pN, pA, pC, pZ]
     refine do_ rfl (.agg #[(laneV (at0 (chiK Q y) y)), (laneV (at0 (chiK Q y) (y + 1))), (laneV (at0 (chiK Q y) (y + 2))), (laneV (at0 (chiK Q y) (y + 3))), (laneV (at0 (chiK Q y) (y + 4)))]) (ex_load rfl (row_load (St.cellsAt S80 (i := 1) rfl) (show y + 5 ≤ (chiK Q y).length from by rw [(chiK_len _ _)]; omega))) ?_
     simp only [pS, pN, pA, pC, pZ]
     refine stNew S80 (v := fun n => .pointer (some ⟨n, 0, none⟩)) rfl (ex_alloc (zero_107 _)) (fun n87 w88 S89 => ?_)
     simp only [pS, pN, pA, pC, pZ]
     have S89 : St w0 F0 w88 F (⟨n87, [(laneV 0), (laneV 0), (laneV 0), (laneV 0), (laneV 0)], 107⟩ :: ⟨n2, ((cL Z 5).map laneV), 107⟩ :: ⟨rb, ((chiK Q y).map laneV), 90⟩ :: L0) (M0) := S89
     refine stStore (i := 0) (v := (.agg #[(laneV (at0 (chiK Q y) y)), (laneV (at0 (chiK Q y) (y + 1))), (laneV (at0 (chiK Q y) (y + 2))), (laneV (at0 (chiK Q y) (y + 3))), (laneV (at0 (chiK Q y) (y + 4)))])) S89 rfl rfl rfl rfl (size_107) (allc5 rfl rfl rfl rfl rfl) (Nat.le_of_ble_eq_true rfl) (fun w90 S91 => ?_)
     simp only [pS, pN, pA, pC, pZ]
     have S91 : St w0 F0 w90 F (⟨n87, [(laneV (at0 (chiK Q y) y)), (laneV (at0 (chiK Q y) (y + 1))), (laneV (at0 (chiK Q y) (y + 2))), (laneV (at0 (chiK Q y) (y + 3))), (laneV (at0 (chiK Q y) (y + 4)))], 107⟩ :: ⟨n2, ((cL Z 5).map laneV), 107⟩ :: ⟨rb, ((chiK Q y).map laneV), 90⟩ :: L0) (M0) := S91
     refine wl_nil (hK86 _ _ ?_)
     refine wp_seq_k (fun K92 hK92 => region_wl ?_)
     refine do_ rfl (.int .i64 0) (ex_move _) ?_
     simp only [pS, pN, pA, pC, pZ]
     refine wl_nil (hK92 _ _ ?_)
     refine wp_block ?_
     have S91 : St w0 F0 w90 F (⟨n87, ((rowL (chiK Q y) y).map laneV), 107⟩ :: ⟨n2, ((cL Z 5).map laneV), 107⟩ :: ⟨rb, ((chiK Q y).map laneV), 90⟩ :: L0) (M0) := S91
     rw [rowL_chi (by omega)] at S91
     have S91 : St w0 F0 w90 F (⟨n87, ((rowL Q y).map laneV), 107⟩ :: ⟨n2, ((cL Z 5).map laneV), 107⟩ :: ⟨rb, ((chiK Q (y + 0)).map laneV), 90⟩ :: L0) (M0) := S91
     refine wp_loop_g (fun mm aa w94 => ∃ (k5 : Nat) (u93 : Nat → Value), mm = 5 - k5 ∧ u93 = slots aa ∧ aa = ⟨#[(.pointer (some ⟨rb, 0, none⟩)), (.int .i64 ((r : Nat) : Int)), undef, undef, (.pointer (some ⟨n2, 0, none⟩)), (u7 5), (u29 6), (u29 7), (laneV (rhoL A 24).2), (u53 9), (u53 10), (.int .i64 ((y : Nat) : Int)), (.pointer (some ⟨n87, 0, none⟩)), (u93 13), (.int .i64 5), (.bool false), (u7 16), (u7 17), (u7 18), (u7 19), (u7 20), (u7 21), (u7 22), (u7 23), (u7 24), (u7 25), (u7 26), (u7 27), (u7 28), (u7 29), (u7 30), (u7 31), (u7 32), (u7 33), (u7 34), (u7 35), (u7 36), (u7 37), (u7 38), (u7 39), (u7 40), (u7 41), (u7 42), (u7 43), (u7 44), (u7 45), (u7 46), (u7 47), (u7 48), (u7 49), (u7 50), (u7 51), (u7 52), (.int .i64 25), (.bool false), (u29 55), (u29 56), (u29 57), (u29 58), (u29 59), (u29 60), (u29 61), (u29 62), (u29 63), (u29 64), (u29 65), (u29 66), (u29 67), (u29 68), (u29 69), (u29 70), (u29 71), (u29 72), (u29 73), (u29 74), (u29 75), (u29 76), (u29 77), (u29 78), (.pointer (some ⟨rb, 0, none⟩)), (.pointer (some ⟨rb, 0, none⟩)), (.pointer (some ⟨rb, 1, none⟩)), (laneV (at0 A 1)), (.agg goesV), (.int .i64 24), (.bool false), (u53 86), (u53 87), (u53 88), (u53 89), (u53 90), (u53 91), (u53 92), (u53 93), (u53 94), (u53 95), (u53 96), (u53 97), (u53 98), (u53 99), (u53 100), (u53 101), (u53 102), (.int .i64 ((y : Nat) : Int)), (.bool true), (u75 105), (u75 106), (.pointer (some ⟨rb, 0, none⟩)), (.pointer (some ⟨rb, 0, none⟩)), (.int .i64 ((y : Nat) : Int)), (.int .i64 ((y : Nat) : Int)), (.int .i64 (((y + 5) : Nat) : Int)), (.slice (some ⟨rb, y, none⟩) ((y + 5) - y) (25 - y)), (.pointer (some ⟨rb, y, none⟩)), (.agg #[(laneV (at0 (chiK Q y) y)), (laneV (at0 (chiK Q y) (y + 1))), (laneV (at0 (chiK Q y) (y + 2))), (laneV (at0 (chiK Q y) (y + 3))), (laneV (at0 (chiK Q y) (y + 4)))]), (.int .i64 ((k5 : Nat) : Int)), (u93 116), (u93 117), (u93 118), (u93 119), (u93 120), (u93 121), (u93 122), (u93 123), (u93 124), (u93 125), (u93 126), (u93 127), (u93 128), (u93 129), (u93 130), (u93 131), (u93 132), (u93 133), (u93 134), (u93 135), (u93 136), (u93 137), (u93 138), (u93 139), (u93 140), undef, undef, undef, undef, undef, undef, undef, undef, undef, undef], []⟩ ∧ St w0 F0 w94 F (⟨n87, ((rowL Q y).map laneV), 107⟩ :: ⟨n2, ((cL Z 5).map laneV), 107⟩ :: ⟨rb, ((chiK Q (y + k5)).map laneV), 90⟩ :: L0) (M0) ∧ (k5 ≤ 5)) _ ⟨0, _, rfl, rfl, rfl, S91, (by omega)⟩ ?_
     rintro m95 a96 w97 ⟨k5, u93, rfl, -, rfl, S98, hk5⟩ K100 hK100
     refine wp_seq_k (fun K101 hK101 => region_wl ?_)
     by_cases hc116 : k5 < 5
     ·refine do_ rfl (.bool true) (ex_lss (m := ((k5 : Nat) : Int)) (n := (5 : Int)) (b := true) rfl rfl (decide_eq_true (by omega))) ?_
      simp only [pS, pN, pA, pC, pZ]
      refine wl_nil (hK101 _ _ ?_)
      refine wp_seq_k (fun K102 hK102 => ?_)
      refine wp_cond_true rfl ?_
      refine wp_skip ?_
      refine hK102 _ _ ?_
      refine wp_seq_k (fun K103 hK103 => ?_)
      refine wp_block ?_
      refine wp_seq_k (fun K104 hK104 => region_wl ?_)
      refine do_ rfl (.int .i64 ((k5 : Nat) : Int)) (ex_move _) ?_
      simp only [pS, pN, pA, pC, pZ]
      refine do_ rfl (.int .i64 ((k5 : Nat) : Int)) (ex_assign _) ?_
      simp only [pS, pN, pA, pC, pZ]
      refine wl_nil (hK104 _ _ ?_)
      refine region_gw F 21 [] (by kernel_rfl) (by kernel_rfl) ?_
      simp only [List.take_succ_cons, List.take_zero]
      refine gw_pure rfl rfl (.pointer (some ⟨rb, 0, none⟩)) (fun w105 hCw105 => pureAt_of (ex_move _)) ?_
      simp only [pS, pN, pA, pC, pZ]
      refine gw_pure rfl rfl (.int .i64 ((y : Nat) : Int)) (fun w105 hCw105 => pureAt_of (ex_move _)) ?_
      simp only [pS, pN, pA, pC, pZ]
      refine gw_pure rfl rfl (.int .i64 ((k5 : Nat) : Int)) (fun w105 hCw105 => pureAt_of (ex_move _)) ?_
      simp only [pS, pN, pA, pC, pZ]
      refine gw_pure rfl rfl (.int .i64 (((y + k5) : Nat) : Int)) (fun w105 hCw105 => pureAt_of (ex_add (m := ((y : Nat) : Int)) (n := ((k5 : Nat) : Int)) (r := (((y + k5) : Nat) : Int)) rfl rfl (by omega) (by omega) (by omega))) ?_
      simp only [pS, pN, pA, pC, pZ]
      refine gw_pure rfl rfl (.int .i64 ((k5 : Nat) : Int)) (fun w105 hCw105 => pureAt_of (ex_move _)) ?_
      simp only [pS, pN, pA, pC, pZ]
      refine gw_pure rfl rfl (.pointer (some ⟨n87, k5, none⟩)) (fun w105 hCw105 => pureAt_of (ex_atA (i := k5) Tryd.underlying107 (sizeof_88 _) rfl rfl (by omega))) ?_
      simp only [pS, pN, pA, pC, pZ]
      refine gw_pure rfl rfl (laneV (at0 (rowL Q y) k5)) (fun w105 hCw105 => pureAt_of (ex_load rfl (load1 (nagg_88 _) (St.cell (St.tells S98 hCw105) (i := 0) rfl (lanes_at (Nat.lt_of_lt_of_eq (show k5 < 5 by omega) (rowL_len _ _).symm)))))) ?_
      simp only [pS, pN, pA, pC, pZ]
      refine gw_pure rfl rfl (.int .i64 ((k5 : Nat) : Int)) (fun w105 hCw105 => pureAt_of (ex_move _)) ?_
      simp only [pS, pN, pA, pC, pZ]
      refine gw_pure rfl rfl (.int .i64 (((k5 + 1) : Nat) : Int)) (fun w105 hCw105 => pureAt_of (ex_add (m := ((k5 : Nat) : Int)) (n := (1 : Int)) (r := (((k5 + 1) : Nat) : Int)) rfl rfl (by omega) (by omega) (by omega))) ?_
      simp only [pS, pN, pA, pC, pZ]
      refine gw_pure rfl rfl (.int .i64 ((((k5 + 1) % 5) : Nat) : Int)) (fun w105 hCw105 => pureAt_of (ex_remA (m := (k5 + 1)) (n := 5) rfl rfl (by decide) (by omega))) ?_
      simp only [pS, pN, pA, pC, pZ]
      refine gw_pure rfl rfl (.pointer (some ⟨n87, ((k5 + 1) % 5), none⟩)) (fun w105 hCw105 => pureAt_of (ex_atA (i := ((k5 + 1) % 5)) Tryd.underlying107 (sizeof_88 _) rfl rfl (by omega))) ?_
      simp only [pS, pN, pA, pC, pZ]
      refine gw_pure rfl rfl (laneV (at0 (rowL Q y) ((k5 + 1) % 5))) (fun w105 hCw105 => pureAt_of (ex_load rfl (load1 (nagg_88 _) (St.cell (St.tells S98 hCw105) (i := 0) rfl (lanes_at (Nat.lt_of_lt_of_eq (show ((k5 + 1) % 5) < 5 by omega) (rowL_len _ _).symm)))))) ?_
      simp only [pS, pN, pA, pC, pZ]
      refine gw_pure rfl rfl (laneV (~~~ (at0 (rowL Q y) ((k5 + 1) % 5)))) (fun w105 hCw105 => pureAt_of (ex_notL rfl)) ?_
      simp only [pS, pN, pA, pC, pZ]
      refine gw_pure rfl rfl (.int .i64 ((k5 : Nat) : Int)) (fun w105 hCw105 => pureAt_of (ex_move _)) ?_
      simp only [pS, pN, pA, pC, pZ]
      refine gw_pure rfl rfl (.int .i64 (((k5 + 2) : Nat) : Int)) (fun w105 hCw105 => pureAt_of (ex_add (m := ((k5 : Nat) : Int)) (n := (2 : Int)) (r := (((k5 + 2) : Nat) : Int)) rfl rfl (by omega) (by omega) (by omega))) ?_
      simp only [pS, pN, pA, pC, pZ]
      refine gw_pure rfl rfl (.int .i64 ((((k5 + 2) % 5) : Nat) : Int)) (fun w105 hCw105 => pureAt_of (ex_remA (m := (k5 + 2)) (n := 5) rfl rfl (by decide) (by omega))) ?_
      simp only [pS, pN, pA, pC, pZ]
      refine gw_pure rfl rfl (.pointer (some ⟨n87, ((k5 + 2) % 5), none⟩)) (fun w105 hCw105 => pureAt_of (ex_atA (i := ((k5 + 2) % 5)) Tryd.underlying107 (sizeof_88 _) rfl rfl (by omega))) ?_
      simp only [pS, pN, pA, pC, pZ]
      refine gw_pure rfl rfl (laneV (at0 (rowL Q y) ((k5 + 2) % 5))) (fun w105 hCw105 => pureAt_of (ex_load rfl (load1 (nagg_88 _) (St.cell (St.tells S98 hCw105) (i := 0) rfl (lanes_at (Nat.lt_of_lt_of_eq (show ((k5 + 2) % 5) < 5 by omega) (rowL_len _ _).symm)))))) ?_
      simp only [pS, pN, pA, pC, pZ]
      refine gw_pure rfl rfl (laneV ((~~~ (at0 (rowL Q y) ((k5 + 1) % 5))) &&& (at0 (rowL Q y) ((k5 + 2) % 5)))) (fun w105 hCw105 => pureAt_of (ex_andL rfl rfl)) ?_
      simp only [pS, pN, pA, pC, pZ]
      refine gw_pure rfl rfl (laneV ((at0 (rowL Q y) k5) ^^^ ((~~~ (at0 (rowL Q y) ((k5 + 1) % 5))) &&& (at0 (rowL Q y) ((k5 + 2) % 5))))) (fun w105 hCw105 => pureAt_of (ex_xorL rfl rfl)) ?_
      simp only [pS, pN, pA, pC, pZ]
      refine gw_pure rfl rfl (.pointer (some ⟨rb, 0, none⟩)) (fun w105 hCw105 => pureAt_of (ex_nil rfl)) ?_
      simp only [pS, pN, pA, pC, pZ]
      refine gw_nil ?_
      intro w106 hC108 hF109
      clear hF109
      have S107 := St.tells S98 hC108
      simp only [List.drop_succ_cons, List.drop_zero]
      refine do_ rfl (.pointer (some ⟨rb, (y + k5), none⟩)) (ex_atA (i := (y + k5)) Tryd.underlying90 (sizeof_88 _) rfl rfl (by omega)) ?_
      simp only [pS, pN, pA, pC, pZ]
      refine stStore (i := 2) (v := laneV ((at0 (rowL Q y) k5) ^^^ ((~~~ (at0 (rowL Q y) ((k5 + 1) % 5))) &&& (at0 (rowL Q y) ((k5 + 2) % 5))))) S107 rfl rfl rfl rfl (size_88) (allc1 rfl) (by rw [List.length_map, (chiK_len _ _)]; show (y + k5) + 1 ≤ 25; omega) (fun w110 S111 => ?_)
      simp only [pS, pN, pA, pC, pZ]
      have S111 : St w0 F0 w110 F (⟨n87, ((rowL Q y).map laneV), 107⟩ :: ⟨n2, ((cL Z 5).map laneV), 107⟩ :: ⟨rb, (splice ((chiK Q (y + k5)).map laneV) (y + k5) [laneV ((at0 (rowL Q y) k5) ^^^ ((~~~ (at0 (rowL Q y) ((k5 + 1) % 5))) &&& (at0 (rowL Q y) ((k5 + 2) % 5))))]), 90⟩ :: L0) (M0) := S111
      rw [lanes_set (Nat.lt_of_lt_of_eq (show (y + k5) < 25 by omega) (chiK_len _ _).symm)] at S111
      rw [chi_row hy5 (by omega), chiK_step Q (by omega)] at S111
      have S111 : St w0 F0 w110 F (⟨n87, ((rowL Q y).map laneV), 107⟩ :: ⟨n2, ((cL Z 5).map laneV), 107⟩ :: ⟨rb, ((chiK Q (y + (k5 + 1))).map laneV), 90⟩ :: L0) (M0) := S111
      refine wl_nil (hK103 _ _ ?_)
      refine region_wl ?_
      refine do_ rfl (.int .i64 (((k5 + 1) : Nat) : Int)) (ex_add (m := ((k5 : Nat) : Int)) (n := (1 : Int)) (r := (((k5 + 1) : Nat) : Int)) rfl rfl (by omega) (by omega) (by omega)) ?_
      simp only [pS, pN, pA, pC, pZ]
      refine do_ rfl (.int .i64 (((k5 + 1) : Nat) : Int)) (ex_move _) ?_
      simp only [pS, pN, pA, pC, pZ]
      refine wl_nil ?_
      exact hK100 _ _ _ (by omega) ⟨(k5 + 1), _, rfl, rfl, rfl, S111, (by omega)⟩
     ·refine do_ rfl (.bool false) (ex_lss (m := ((k5 : Nat) : Int)) (n := (5 : Int)) (b := false) rfl rfl (decide_eq_false (by omega))) ?_
      simp only [pS, pN, pA, pC, pZ]
      refine wl_nil (hK101 _ _ ?_)
      refine wp_seq_k (fun K112 hK112 => ?_)
      refine wp_cond_false rfl ?_
      refine wp_exit ?_
      refine hK85 _ _ ?_
      obtain rfl : k5 = 5 := by omega
      refine region_wl ?_
      refine do_ rfl (.int .i64 ((y : Nat) : Int)) (ex_move _) ?_
      simp only [pS, pN, pA, pC, pZ]
      refine do_ rfl (.int .i64 (((y + 5) : Nat) : Int)) (ex_add (m := ((y : Nat) : Int)) (n := (5 : Int)) (r := (((y + 5) : Nat) : Int)) rfl rfl (by omega) (by omega) (by omega)) ?_
      simp only [pS, pN, pA, pC, pZ]
      refine do_ rfl (.int .i64 (((y + 5) : Nat) : Int)) (ex_assign _) ?_
      simp only [pS, pN, pA, pC, pZ]
      refine wl_nil ?_
      have S98 := St.drop S98 (L' := (⟨n2, ((cL Z 5).map laneV), 107⟩ :: ⟨rb, ((chiK Q (y + 5)).map laneV), 90⟩ :: L0)) (.cons _ (List.Sublist.refl _))
      exact hK82 _ _ _ (by omega) ⟨(y + 5), _, rfl, rfl, rfl, S98, (by omega), (by omega)⟩
    ·refine do_ rfl (.bool false) (ex_lss (m := ((y : Nat) : Int)) (n := (25 : Int)) (b := false) rfl rfl (decide_eq_false (by omega))) ?_
     simp only [pS, pN, pA, pC, pZ]
     refine wl_nil (hK84 _ _ ?_)
     refine wp_cond_false rfl ?_
     refine wp_exit ?_
     refine hK73 _ _ ?_
     obtain rfl : y = 25 := by omega
     refine region_gw F 9 [] (by kernel_rfl) (by kernel_rfl) ?_
     simp only [List.take_succ_cons, List.take_zero]
     refine gw_pure rfl rfl (.pointer (some ⟨rb, 0, none⟩)) (fun w113 hCw113 => pureAt_of (ex_move _)) ?_
     simp only [pS, pN, pA, pC, pZ]
     refine gw_pure rfl rfl (.pointer (some ⟨rb, 0, none⟩)) (fun w113 hCw113 => pureAt_of (ex_nil rfl)) ?_
     simp only [pS, pN, pA, pC, pZ]
     refine gw_pure rfl rfl (.pointer (some ⟨rb, 0, none⟩)) (fun w113 hCw113 => pureAt_of (ex_atA (i := 0) Tryd.underlying90 (sizeof_88 _) rfl rfl (by omega))) ?_
     simp only [pS, pN, pA, pC, pZ]
     refine gw_pure rfl rfl (laneV (at0 (chiK Q 25) 0)) (fun w113 hCw113 => pureAt_of (ex_load rfl (load1 (nagg_88 _) (St.cell (St.tells S80 hCw113) (i := 1) rfl (lanes_at (Nat.lt_of_lt_of_eq (show 0 < 25 by omega) (chiK_len _ _).symm)))))) ?_
     simp only [pS, pN, pA, pC, pZ]
     refine gw_pure rfl rfl (.int .i64 ((r : Nat) : Int)) (fun w113 hCw113 => pureAt_of (ex_move _)) ?_
     simp only [pS, pN, pA, pC, pZ]
     refine gw_pure rfl rfl (.pointer (some ⟨2, r, none⟩)) (fun w113 hCw113 => pureAt_of (ex_atA (i := r) Tryd.underlying91 (sizeof_88 _) rfl rfl (by omega))) ?_
     simp only [pS, pN, pA, pC, pZ]
     refine gw_pure rfl rfl (laneV (roundB r)) (fun w113 hCw113 => pureAt_of (ex_load rfl (load1 (nagg_88 _) (((hT.at (St.tells S80 hCw113).gr.below).2.2 r hr))))) ?_
     simp only [pS, pN, pA, pC, pZ]
     refine gw_pure rfl rfl (laneV ((at0 (chiK Q 25) 0) ^^^ (roundB r))) (fun w113 hCw113 => pureAt_of (ex_xorL rfl rfl)) ?_
     simp only [pS, pN, pA, pC, pZ]
     refine gw_pure rfl rfl (.pointer (some ⟨rb, 0, none⟩)) (fun w113 hCw113 => pureAt_of (ex_nil rfl)) ?_
     simp only [pS, pN, pA, pC, pZ]
     refine gw_nil ?_
     intro w114 hC116 hF117
     clear hF117
     have S115 := St.tells S80 hC116
     simp only [List.drop_succ_cons, List.drop_zero]
     refine do_ rfl (.pointer (some ⟨rb, 0, none⟩)) (ex_atA (i := 0) Tryd.underlying90 (sizeof_88 _) rfl rfl (by omega)) ?_
     simp only [pS, pN, pA, pC, pZ]
     refine stStore (i := 1) (v := laneV ((at0 (chiK Q 25) 0) ^^^ (roundB r))) S115 rfl rfl rfl rfl (size_88) (allc1 rfl) (by rw [List.length_map, (chiK_len _ _)]; show 0 + 1 ≤ 25; omega) (fun w118 S119 => ?_)
     simp only [pS, pN, pA, pC, pZ]
     have S119 : St w0 F0 w118 F (⟨n2, ((cL Z 5).map laneV), 107⟩ :: ⟨rb, (splice ((chiK Q 25).map laneV) 0 [laneV ((at0 (chiK Q 25) 0) ^^^ (roundB r))]), 90⟩ :: L0) (M0) := S119
     rw [lanes_set (Nat.lt_of_lt_of_eq (show 0 < 25 by omega) (chiK_len _ _).symm)] at S119
     refine wl_nil ?_
     (try simp only [Exit.then, Exit.inBlock, ↓reduceIte, Nat.reduceEqDiff])
     refine bodyPost_end (v := .tuple #[]) ?_ rfl ?_
     ·exact res_0 rfl
     ·rw [chiK_all] at S119
      have S119 := St.drop S119 (L' := ⟨rb, ((chiL Q).set 0 (at0 (chiL Q) 0 ^^^ roundB r)).map laneV, 90⟩ :: L0) (.cons _ (List.Sublist.refl _))
      rw [hQ, hA, cL_all] at S119
      exact ⟨rfl, S119⟩
end Go.Proofs.YtcanckliggcllaaDoor
namespace Go.Proofs.YtcanckliggcllaaDoor
open Go.RowKit
set_option maxRecDepth 100000
set_option linter.unusedVariables false
set_option linter.unusedSimpArgs false
theorem by_at {E base : Nat} {w : World} {F : Fz} {l : By} {a : Option Addr} {n c : Nat} (h : Own 1 ByC E base w F (.slice a n c) l) {i : Nat} {b : UInt8} (hp : l[i]? = some b) : ∃ g, a = some ⟨g, 0, none⟩ ∧ w.cell? ⟨g, 0 + i * 1, none⟩ = some (bv b) := by
  obtain ⟨g, cs, e, _, r, hr⟩ := h.at hp
  have r : cs = [bv b] := r
  subst r
  refine ⟨g, e, ?_⟩
  have := hr 0 _ rfl
  rw [Nat.zero_add]
  simpa using this
section
variable {P : Program} {ρ : Operand → Value} {w : World} {d : Option Tmp} {t X Y E : TypeId} {pos : String} {after : Array Edge} {guard : Option (Nat × Bool)} {x y : Operand}
theorem or128 (b : UInt8) : bits .or .u8 (b.toNat : Int) 128 = ((b ||| 128).toNat : Int) := by
  have e1 : BitVec.ofInt 8 (b.toNat : Int) = b.toBitVec := by rw [BitVec.ofInt_natCast]; simp
  have e2 : BitVec.ofInt 8 (128 : Int) = (128 : UInt8).toBitVec := by decide
  have e3 : (b ||| 128).toNat = (b.toBitVec ||| (128 : UInt8).toBitVec).toNat := by rw [← UInt8.toBitVec_or]; rfl
  have hlt := (b ||| 128).toNat_lt
  unfold bits
  show IntKind.u8.wrap (((BitVec.ofInt 8 (b.toNat : Int) ||| BitVec.ofInt 8 (128 : Int)).toNat : Nat) : Int) = _
  rw [e1, e2, ← e3, show IntKind.u8.wrap (((b ||| 128).toNat : Nat) : Int) = (((b ||| 128).toNat : Nat) : Int) % 256 from rfl]
  omega
theorem ex_orB {b : UInt8} (hx : ρ x = bv b) (hy : ρ y = .int .u8 128) : (execOp ρ ⟨d, .binOp .or X x y Y, t, pos, after, guard⟩).run P w = .ok (.value (bv (b ||| 128))) w := by
  refine ex_bin hx hy ?_
  rw [run_binInt _ (by simp)]
  show Result.ok (Value.int .u8 (bits .or .u8 (b.toNat : Int) 128)) w = _
  rw [or128]; rfl
theorem ex_quoA {m n : Nat} (hx : ρ x = .int .i64 (m : Int)) (hy : ρ y = .int .i64 (n : Int)) (hn : 0 < n) (hm : m ≤ 9223372036854775807) : (execOp ρ ⟨d, .binOp .quo X x y Y, t, pos, after, guard⟩).run P w = .ok (.value (.int .i64 ((m / n : Nat) : Int))) w := by
  refine ex_bin hx hy ?_
  rw [run_binInt _ (by simp)]
  show (Op.intDiv .quo .i64 m n).run P w = _
  unfold Op.intDiv
  rw [if_neg (by omega)]
  show Result.ok (Value.int .i64 (IntKind.i64.wrap (Int.tdiv (m : Int) (n : Int)))) w = _
  have hle : m / n ≤ m := Nat.div_le_self m n
  rw [Int.tdiv_eq_ediv_of_nonneg (by omega), ← Int.natCast_ediv]
  generalize m / n = q at *
  rw [wrap64_in (by omega) (by omega)]
theorem ex_shlL {a : BitVec 64} {n : Nat} (hx : ρ x = laneV a) (hy : ρ y = .int .i64 (n : Int)) (hn : n ≤ 64) : (execOp ρ ⟨d, .binOp .shl X x y Y, t, pos, after, guard⟩).run P w = .ok (.value (laneV (a <<< n))) w := by
  have e : (eqGuard .shl X x y (.int .u64 (lane a)) (.int .i64 (n : Int))).run P w = .ok () w := rfl
  have h : (binOp .shl X (.int .u64 (lane a)) (.int .i64 (n : Int))).run P w = .ok (laneV (a <<< n)) w := by
    show (Op.shift .shl .u64 (lane a) .i64 (n : Int)).run P w = _
    unfold Op.shift
    rw [if_neg (by omega)]
    show Result.ok (Value.int .u64 (IntKind.u64.wrap (lane a * 2 ^ (min (n : Int).toNat 64)))) w = _
    rw [Int.toNat_natCast, Nat.min_eq_left hn, lane_shl]
  simp only [execOp, hx, hy, Sem.run_bind, e, Result.andThen_ok, h, Sem.run_pure]
theorem ex_shrL {a : BitVec 64} {n : Nat} (hx : ρ x = laneV a) (hy : ρ y = .int .i64 (n : Int)) (hn : n ≤ 64) : (execOp ρ ⟨d, .binOp .shr X x y Y, t, pos, after, guard⟩).run P w = .ok (.value (laneV (a >>> n))) w := by
  have e : (eqGuard .shr X x y (.int .u64 (lane a)) (.int .i64 (n : Int))).run P w = .ok () w := rfl
  have h : (binOp .shr X (.int .u64 (lane a)) (.int .i64 (n : Int))).run P w = .ok (laneV (a >>> n)) w := by
    show (Op.shift .shr .u64 (lane a) .i64 (n : Int)).run P w = _
    unfold Op.shift
    rw [if_neg (by omega)]
    show Result.ok (Value.int .u64 (Int.fdiv (lane a) (2 ^ (min (n : Int).toNat 64)))) w = _
    rw [Int.toNat_natCast, Nat.min_eq_left hn, Int.fdiv_eq_ediv_of_nonneg _ (show (0 : Int) ≤ 2 ^ n from Int.le_of_lt (Int.pow_pos (by decide))), lane_shr]
  simp only [execOp, hx, hy, Sem.run_bind, e, Result.andThen_ok, h, Sem.run_pure]
theorem conv_u64 (b : UInt8) (w : World) : (convert 5 88 (bv b)).run Tryd.prog w = .ok (laneV (BitVec.ofNat 64 b.toNat)) w := by
  have : (convert 5 88 (bv b)).run Tryd.prog w = .ok (.int .u64 (IntKind.u64.wrap (b.toNat : Int))) w := by kernel_rfl
  have hb := b.toNat_lt
  have e : IntKind.u64.wrap (b.toNat : Int) = lane (BitVec.ofNat 64 b.toNat) := by
    rw [wrap_u64]; unfold lane; simp; omega
  rw [this, e]
theorem conv_low (a : BitVec 64) (w : World) : (convert 88 5 (laneV a)).run Tryd.prog w = .ok (bv (UInt8.ofNat (a.toNat % 256))) w := by
  have : (convert 88 5 (laneV a)).run Tryd.prog w = .ok (.int .u8 (IntKind.u8.wrap (lane a))) w := by kernel_rfl
  have e : IntKind.u8.wrap (lane a) = ((UInt8.ofNat (a.toNat % 256)).toNat : Int) := by
    rw [show IntKind.u8.wrap (lane a) = lane a % 256 from rfl]; unfold lane; simp
  rw [this, e]; rfl
end
def padK (b : By) (k : Nat) : By := (b ++ [6]) ++ List.replicate k 0
def padN (b : By) : Nat := (136 - (b.length + 1) % 136) % 136
theorem padK_len (b : By) (k : Nat) : (padK b k).length = b.length + 1 + k := by simp [padK]; omega
theorem padK_step (b : By) (k : Nat) : padK b k ++ [0] = padK b (k + 1) := by
  unfold padK
  rw [List.append_assoc, List.replicate_succ']
theorem padK_zero (b : By) : b ++ [6] = padK b 0 := by simp [padK]
theorem padL_of {b : By} {x : UInt8} (h : (padK b (padN b))[(padK b (padN b)).length - 1]? = some x) : (padK b (padN b)).set ((padK b (padN b)).length - 1) (x ||| 128) = padL b := by
  have e : (padK b (padN b)).getD ((padK b (padN b)).length - 1) 0 = x := by rw [List.getD_eq_getElem?_getD, h]; rfl
  rw [← e]
  unfold padL padK padN
  simp only [List.length_append, List.length_singleton]
theorem padL_len (b : By) : (padL b).length = b.length + 1 + padN b := by
  unfold padL padN
  simp only [List.length_set, List.length_append, List.length_singleton, List.length_replicate]
theorem mix_len (S : List (BitVec 64)) (p : By) : ∀ n, (mixL S p n).length = S.length := by
  intro n
  induction n with
  | zero => rfl
  | succ n ih => unfold mixL at *; rw [List.range_succ, List.foldl_append]; simpa using ih
theorem mix_step (S : List (BitVec 64)) {p : By} {n : Nat} {x : UInt8} (h : p[n]? = some x) : (mixL S p n).set (n / 8) (at0 (mixL S p n) (n / 8) ^^^ (BitVec.ofNat 64 x.toNat <<< (n % 8 * 8))) = mixL S p (n + 1) := by
  have e : p.getD n 0 = x := by rw [List.getD_eq_getElem?_getD, h]; rfl
  rw [← e]
  unfold mixL
  rw [List.range_succ, List.foldl_append]
  rfl
theorem stirL_len (S : List (BitVec 64)) (r : Nat) : (stirL S r).length = 25 := by
  unfold stirL
  simp [chiL, mapL]
theorem stirs_step (S : List (BitVec 64)) (n : Nat) : stirL (stirsL S n) n = stirsL S (n + 1) := by
  unfold stirsL
  rw [List.range_succ, List.foldl_append]
  rfl
theorem stirs_len {S : List (BitVec 64)} (h : S.length = 25) : ∀ n, (stirsL S n).length = 25
  | 0 => h
  | n + 1 => by rw [← stirs_step]; exact stirL_len _ _
theorem absorb_step {Z : List (BitVec 64)} {p : By} (h : 136 ≤ p.length) : absorbL Z p (p.length / 136) = absorbL (stirsL (mixL Z p 136) 24) (p.drop 136) ((p.drop 136).length / 136) := by
  rw [List.length_drop, show p.length / 136 = (p.length - 136) / 136 + 1 from by omega]
  rfl
def outAt (Z : List (BitVec 64)) (i : Nat) : UInt8 := UInt8.ofNat ((at0 Z (i / 8) >>> (i % 8 * 8)).toNat % 256)
def outK (Z : List (BitVec 64)) (k : Nat) : By := (List.range 32).map fun i => if i < k then outAt Z i else 0
theorem outK_len (Z : List (BitVec 64)) (k : Nat) : (outK Z k).length = 32 := by simp [outK]
theorem outK_zero (Z : List (BitVec 64)) : outK Z 0 = List.replicate 32 0 := by unfold outK; rfl
theorem outK_all (Z : List (BitVec 64)) : outK Z 32 = outL Z := by
  unfold outK outL
  exact List.map_congr_left fun i hi => by rw [if_pos (List.mem_range.1 hi)]; rfl
theorem outK_step (Z : List (BitVec 64)) {k : Nat} (h : k < 32) : (outK Z k).set k (outAt Z k) = outK Z (k + 1) := by
  apply List.ext_getElem (by simp [outK])
  intro i h1 h2
  simp only [outK, List.getElem_set, List.getElem_map, List.getElem_range]
  by_cases e : k = i
  · subst e; simp
  · rw [if_neg e]
    by_cases e2 : i < k
    · rw [if_pos e2, if_pos (by omega)]
    · rw [if_neg e2, if_neg (by omega)]
theorem bytes_set {l : By} {j : Nat} {x : UInt8} (h : j < l.length) : splice (l.map bv) j [bv x] = (l.set j x).map bv := by
  unfold splice
  rw [List.map_set, List.set_eq_take_append_cons_drop, if_pos (by simpa using h)]
  simp
theorem zero_90 (w : World) : (zeroValue 90).run Tryd.prog w = .ok (.agg ((List.replicate 25 (0 : BitVec 64)).map laneV).toArray) w := by kernel_rfl
theorem stStir {P : Program} {w0 w : World} {F0 F : Fz} {rb : Nat} {T : TypeId} {L0 : List Blk} {M0 : List RowP} {Z : List (BitVec 64)} {ops : Array Oper} {Q : Exit → Act → World → Prop} {a : Act} {rest : List Oper} {o : Oper} {k : FuncId} {vs : Array Value} (hw : Region.wanted o (yielded ops a.tmps) = true)
    (hr : (execOp a.eval o).run P w = .ok (.enter k vs) w) (hc : Calls P k vs w fun e w' => e = .returned (.tuple #[]) ∧ St w0 F0 w' F (⟨rb, Z.map laneV, T⟩ :: L0) M0)
    (h : ∀ w', St w0 F0 w' F (⟨rb, Z.map laneV, T⟩ :: L0) M0 → WL P ops Q rest (a.put o.dst (.tuple #[])) w') : WL P ops Q (o :: rest) a w :=
  doC hw hr hc fun e w' ⟨he, hS⟩ => ⟨_, he, h w' hS⟩
end Go.Proofs.YtcanckliggcllaaDoor
