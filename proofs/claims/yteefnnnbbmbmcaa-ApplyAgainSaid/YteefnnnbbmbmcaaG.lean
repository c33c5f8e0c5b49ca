/- A region that draws its order, whose operations read, and call what makes memory: one walk in the order of the text serves every order. No program in sight. -/
import Derived.Test.YteefnnnbbmbmcaaA
import Derived.StillTail
namespace Go.Proofs.Yteefnnnbbmbmcaa
open Go.RowKit

/-- What is known of an operation ahead of the walk: it leaves the world alone; it hands back just this; it hands back something of which this holds, now and later. -/
inductive OpSpec where
  | pure
  | const (v : Value)
  | rel (R : Value → World → Prop)
def Stable (R : Value → World → Prop) : Prop := ∀ v w w', R v w → Below w.heap.size w w' → R v w'
abbrev Vals := Nat → Option Value
def upd (Vs : Vals) (i : Nat) (v : Value) : Vals := fun j => if j = i then some v else Vs j
theorem upd_same (Vs : Vals) (i : Nat) (v : Value) : upd Vs i v i = some v := by simp [upd]
theorem upd_comm (Vs : Vals) {i j : Nat} (h : i ≠ j) (v u : Value) : upd (upd Vs i v) j u = upd (upd Vs j u) i v := by
  funext k
  simp only [upd]
  by_cases h1 : k = i
  · subst h1
    simp [h]
  · by_cases h2 : k = j
    · subst h2
      simp [h1]
    · simp [h1, h2]
def factOf (s : OpSpec) (v : Value) (w : World) : Prop := match s with | .rel R => R v w | _ => True
def next (s : OpSpec) (Vs : Vals) (i : Nat) (v : Value) : Vals := match s with | .rel _ => upd Vs i v | _ => Vs
theorem next_comm (s t : OpSpec) (Vs : Vals) {i j : Nat} (h : i ≠ j) (v u : Value) : next t (next s Vs i v) j u = next s (next t Vs j u) i v := by
  cases s <;> cases t <;> simp [next]
  exact upd_comm Vs h v u
/-- Does operation j wait for i, at once or through others? -/
def ancB (md : Region.Mode) (ops : Array Oper) : Nat → Nat → Nat → Bool
  | 0, _, _ => false
  | f + 1, j, i => match ops[j]? with
    | some o => o.after.any fun e => Region.binds md e && (e.on == i || ancB md ops f e.on i)
    | none => false
section
variable {P : Program} {ops : Array Oper} {md : Region.Mode} {C : World → Prop} {Sp : Nat → OpSpec}
theorem anc_listed {n : Nat} {listed : Array Bool} (inv : HeadInv md ops n listed) : ∀ (f x i : Nat), listed.getD x false = true → ancB md ops f x i = true → listed.getD i false = true
  | 0, _, _, _, h => by simp [ancB] at h
  | f + 1, x, i, hx, h => by
    unfold ancB at h
    split at h
    · rename_i o ho
      obtain ⟨e, he, hb⟩ := Array.any_eq_true'.1 h
      simp only [Bool.and_eq_true, Bool.or_eq_true, beq_iff_eq] at hb
      have hl := inv.closed x o ho hx e he hb.1
      rcases hb.2 with h1 | h1
      · rw [h1] at hl; exact hl
      · exact anc_listed inv f e.on i hl h1
    · cases h
theorem anc_ready {n : Nat} {listed : Array Bool} (inv : HeadInv md ops n listed) {j : Nat} (hj : j ∈ Region.ready md ops listed) (f i : Nat) (h : ancB md ops f j i = true) : listed.getD i false = true := by
  cases f with
  | zero => simp [ancB] at h
  | succ f =>
    obtain ⟨_, o, ho, hall⟩ := mem_ready.1 hj
    unfold ancB at h
    rw [ho] at h
    obtain ⟨e, he, hb⟩ := Array.any_eq_true'.1 h
    simp only [Bool.and_eq_true, Bool.or_eq_true, beq_iff_eq] at hb
    have hl := hall e he hb.1
    rcases hb.2 with h1 | h1
    · rw [h1] at hl; exact hl
    · exact anc_listed inv f e.on i hl h1
def Facts (Sp : Nat → OpSpec) (Vs : Vals) (w : World) : Prop := ∀ i v, Vs i = some v → factOf (Sp i) v w
def FactsAt (md : Region.Mode) (ops : Array Oper) (Sp : Nat → OpSpec) (j : Nat) (Vs : Vals) (w : World) : Prop := ∀ i v, ancB md ops ops.size j i = true → Vs i = some v → factOf (Sp i) v w
theorem factsAt_next {i j : Nat} (h : ancB md ops ops.size j i = false) (Vs : Vals) (v : Value) (w : World) : FactsAt md ops Sp j (next (Sp i) Vs i v) w ↔ FactsAt md ops Sp j Vs w := by
  have e : ∀ k, ancB md ops ops.size j k = true → next (Sp i) Vs i v k = Vs k := by
    intro k hk
    cases Sp i with
    | pure => rfl
    | const _ => rfl
    | rel R =>
      show upd Vs i v k = _
      unfold upd
      rw [if_neg (by rintro rfl; rw [h] at hk; cases hk)]
  constructor
  · intro H k u hk hu; exact H k u hk (by rw [e k hk]; exact hu)
  · intro H k u hk hu; exact H k u hk (by rw [← e k hk]; exact hu)
/-- What a call leaves: a value of which this holds. -/
def CallPost (Φ : Value → World → Prop) (e : Ending) (w' : World) : Prop := ∃ v, e = .returned v ∧ Φ v w'
def IsPost (v : Value) (w : World) (u : Value) (w' : World) : Prop := u = v ∧ Below w.heap.size w w'
def RelPost (R : Value → World → Prop) (w : World) (u : Value) (w' : World) : Prop := R u w' ∧ Below w.heap.size w w'
def DoesR (P : Program) (w : World) (Φ : Value → World → Prop) : Result Next → Prop
  | .ok (.value u) w' => Φ u w'
  | .ok .skip w' => Φ undef w'
  | .ok (.enter f args) w' => w' = w ∧ Calls P f args w (CallPost Φ)
  | _ => False
def Does (P : Program) (o : Oper) (a : Act) (w : World) (Φ : Value → World → Prop) : Prop := DoesR P w Φ ((execOp a.eval o).run P w)
def PureR (w : World) (v : Value) : Result Next → Prop
  | .ok (.value u) w' => w' = w ∧ u = v
  | .ok .skip w' => w' = w ∧ undef = v
  | _ => False
def PureAt (P : Program) (o : Oper) (a : Act) (w : World) (v : Value) : Prop := PureR w v ((execOp a.eval o).run P w)
theorem PureAt.unique {o : Oper} {a : Act} {w : World} {v u : Value} (h : PureAt P o a w v) (k : PureAt P o a w u) : v = u := by
  unfold PureAt at *
  generalize (execOp a.eval o).run P w = r at *
  cases r with
  | ok n w' => cases n <;> simp only [PureR] at h k <;> exact h.2.symm.trans k.2
  | halt x w' => simp only [PureR] at h
theorem Oper.wp_of_does {o : Oper} {a : Act} {w : World} {Φ : Value → World → Prop} {K : Act → World → Prop} {Q' : Exit → Act → World → Prop} (h : Does P o a w Φ) (hk : ∀ v w', Φ v w' → K (a.put o.dst v) w') : o.wp P a w K Q' := by
  unfold Does at h
  unfold Oper.wp
  generalize (execOp a.eval o).run P w = r at *
  cases r with
  | ok n w' =>
    cases n <;> simp only [DoesR] at h <;> simp only [Oper.upon]
    case value u => exact hk _ _ h
    case skip => exact hk _ _ h
    case enter f args =>
      obtain ⟨rfl, h⟩ := h
      exact h.mono fun e w'' hh => by obtain ⟨v, he, hw⟩ := hh; subst he; exact hk _ _ hw
  | halt x w' => simp only [DoesR] at h
theorem Oper.wp_of_pure {o : Oper} {a : Act} {w : World} {v : Value} {K : Act → World → Prop} {Q' : Exit → Act → World → Prop} (h : PureAt P o a w v) (hk : K (a.put o.dst v) w) : o.wp P a w K Q' := by
  unfold PureAt at h
  unfold Oper.wp
  generalize (execOp a.eval o).run P w = r at *
  cases r with
  | ok n w' =>
    cases n <;> simp only [PureR] at h <;> simp only [Oper.upon]
    case value u => obtain ⟨rfl, rfl⟩ := h; exact hk
    case skip => obtain ⟨rfl, rfl⟩ := h; exact hk
  | halt x w' => simp only [PureR] at h
/-- What operation i owes, and which values it may leave. -/
def Ob (P : Program) (md : Region.Mode) (ops : Array Oper) (C : World → Prop) (Sp : Nat → OpSpec) (i : Nat) (o : Oper) (a : Act) (Vs : Vals) (S : Value → Prop) : Prop :=
  match Sp i with
  | .pure => ∃ v, S = (fun u => u = v) ∧ ∀ w, C w → PureAt P o a w v
  | .const v => S = (fun u => u = v) ∧ ∀ w, C w → FactsAt md ops Sp i Vs w → Does P o a w (IsPost v w)
  | .rel R => S = (fun _ => True) ∧ ∀ w, C w → FactsAt md ops Sp i Vs w → Does P o a w (RelPost R w)
theorem Ob.some {i : Nat} {o : Oper} {a : Act} {Vs : Vals} {S : Value → Prop} (h : Ob P md ops C Sp i o a Vs S) : ∃ v, S v := by
  unfold Ob at h
  split at h
  · obtain ⟨v, rfl, _⟩ := h; exact ⟨v, rfl⟩
  · rename_i v _; obtain ⟨rfl, _⟩ := h; exact ⟨v, rfl⟩
  · obtain ⟨rfl, _⟩ := h; exact ⟨undef, trivial⟩
theorem Ob.unique (hC : ∃ w, C w) {i : Nat} {o : Oper} {a : Act} {Vs : Vals} {S T : Value → Prop} (h : Ob P md ops C Sp i o a Vs S) (k : Ob P md ops C Sp i o a Vs T) : S = T := by
  obtain ⟨w, hw⟩ := hC
  unfold Ob at h k
  split at h
  · rename_i e
    simp only [e] at k
    obtain ⟨v, rfl, h1⟩ := h
    obtain ⟨u, rfl, k1⟩ := k
    rw [(h1 w hw).unique (k1 w hw)]
  · rename_i v e
    simp only [e] at k
    rw [h.1, k.1]
  · rename_i R e
    simp only [e] at k
    rw [h.1, k.1]
theorem Ob.congr {i : Nat} {o : Oper} {a a' : Act} {Vs Vs' : Vals} {S : Value → Prop} (he : execOp a'.eval o = execOp a.eval o) (hf : ∀ w, FactsAt md ops Sp i Vs' w ↔ FactsAt md ops Sp i Vs w) (h : Ob P md ops C Sp i o a Vs S) : Ob P md ops C Sp i o a' Vs' S := by
  unfold Ob at *
  split
  · rename_i e
    simp only [e] at h
    obtain ⟨v, h1, h2⟩ := h
    exact ⟨v, h1, fun w hw => by have := h2 w hw; unfold PureAt at *; rw [he]; exact this⟩
  · rename_i v e
    simp only [e] at h
    exact ⟨h.1, fun w hw hF => by have := h.2 w hw ((hf w).1 hF); unfold Does at *; rw [he]; exact this⟩
  · rename_i R e
    simp only [e] at h
    exact ⟨h.1, fun w hw hF => by have := h.2 w hw ((hf w).1 hF); unfold Does at *; rw [he]; exact this⟩
/-- Operation number i comes up. -/
def gOp (P : Program) (md : Region.Mode) (ops : Array Oper) (C : World → Prop) (Sp : Nat → OpSpec) (i : Nat) (K : Act → Vals → Prop) (a : Act) (Vs : Vals) : Prop :=
  match ops[i]? with
  | none => K a Vs
  | some o => if Region.wanted o (yielded ops a.tmps) = true then ∃ S, Ob P md ops C Sp i o a Vs S ∧ ∀ v, S v → K (a.put o.dst v) (next (Sp i) Vs i v) else K (a.put o.dst undef) Vs
theorem gOp_mono {i : Nat} {K K' : Act → Vals → Prop} {a : Act} {Vs : Vals} (h : ∀ a Vs, K a Vs → K' a Vs) (hh : gOp P md ops C Sp i K a Vs) : gOp P md ops C Sp i K' a Vs := by
  unfold gOp at *
  split
  · rename_i e; simp only [e] at hh; exact h _ _ hh
  · rename_i o e
    simp only [e] at hh
    split
    · rename_i hw; rw [if_pos hw] at hh; obtain ⟨S, h1, h2⟩ := hh; exact ⟨S, h1, fun v hv => h _ _ (h2 v hv)⟩
    · rename_i hw; rw [if_neg hw] at hh; exact h _ _ hh
theorem gOp_some {i : Nat} {K : Act → Vals → Prop} {a : Act} {Vs : Vals} (hh : gOp P md ops C Sp i K a Vs) : ∃ a' Vs', K a' Vs' := by
  unfold gOp at hh
  split at hh
  · exact ⟨_, _, hh⟩
  · split at hh
    · obtain ⟨S, h1, h2⟩ := hh
      obtain ⟨v, hv⟩ := h1.some
      exact ⟨_, _, h2 v hv⟩
    · exact ⟨_, _, hh⟩
theorem gOp_swap (hC : ∃ w, C w) {i j : Nat} {oi oj : Oper} (hi : ops[i]? = some oi) (hj : ops[j]? = some oj) (hij : i ≠ j) (hap : oi.apart ops oj = true)
    (hsi : ∀ cs b, oi.op ≠ .select cs b) (hsj : ∀ cs b, oj.op ≠ .select cs b) (hni : ancB md ops ops.size j i = false) (hnj : ancB md ops ops.size i j = false)
    {K : Act → Vals → Prop} {a : Act} {Vs : Vals} (h : gOp P md ops C Sp i (gOp P md ops C Sp j K) a Vs) : gOp P md ops C Sp j (gOp P md ops C Sp i K) a Vs := by
  obtain ⟨h1, h2, h3⟩ := Oper.apart_spec hap
  have wj : ∀ (a : Act) (v : Value), Region.wanted oj (yielded ops (a.put oi.dst v).tmps) = Region.wanted oj (yielded ops a.tmps) := fun a v => wanted_put oj a oi.dst v h1
  have wi : ∀ (a : Act) (v : Value), Region.wanted oi (yielded ops (a.put oj.dst v).tmps) = Region.wanted oi (yielded ops a.tmps) := fun a v => wanted_put oi a oj.dst v h3
  have ej : ∀ (a : Act) (v : Value), execOp (a.put oi.dst v).eval oj = execOp a.eval oj := fun a v => execOp_put oj hsj a oi.dst v h1
  have ei : ∀ (a : Act) (v : Value), execOp (a.put oj.dst v).eval oi = execOp a.eval oi := fun a v => execOp_put oi hsi a oj.dst v h3
  unfold gOp at h ⊢
  simp only [hi, hj] at h ⊢
  by_cases Wi : Region.wanted oi (yielded ops a.tmps) = true
  · rw [if_pos Wi] at h
    obtain ⟨S, hS, hall⟩ := h
    obtain ⟨v0, hv0⟩ := hS.some
    by_cases Wj : Region.wanted oj (yielded ops a.tmps) = true
    · rw [if_pos Wj]
      have hall' : ∀ v, S v → ∃ T, Ob P md ops C Sp j oj a Vs T ∧ ∀ u, T u → K ((a.put oi.dst v).put oj.dst u) (next (Sp j) (next (Sp i) Vs i v) j u) := by
        intro v hv
        have := hall v hv
        rw [if_pos (by rw [wj]; exact Wj)] at this
        obtain ⟨T, hT, hK⟩ := this
        exact ⟨T, hT.congr (ej a v).symm (fun w => (factsAt_next hni Vs v w).symm), hK⟩
      obtain ⟨T, hT, _⟩ := hall' v0 hv0
      refine ⟨T, hT, fun u hu => ?_⟩
      rw [if_pos (by rw [wi]; exact Wi)]
      refine ⟨S, hS.congr (ei a u) (fun w => factsAt_next hnj Vs u w), fun v hv => ?_⟩
      obtain ⟨T', hT', hK⟩ := hall' v hv
      have := hK u (by rw [← hT.unique hC hT']; exact hu)
      rwa [Act.put_comm a v u h2, next_comm (Sp i) (Sp j) Vs hij v u] at this
    · rw [if_neg Wj, if_pos (by rw [wi]; exact Wi)]
      refine ⟨S, hS.congr (ei a undef) (fun w => Iff.rfl), fun v hv => ?_⟩
      have := hall v hv
      rw [if_neg (by rw [wj]; exact Wj)] at this
      rwa [Act.put_comm a v undef h2] at this
  · rw [if_neg Wi] at h
    by_cases Wj : Region.wanted oj (yielded ops a.tmps) = true
    · rw [if_pos (by rw [wj]; exact Wj)] at h
      obtain ⟨T, hT, hK⟩ := h
      rw [if_pos Wj]
      refine ⟨T, hT.congr (ej a undef).symm (fun w => Iff.rfl), fun u hu => ?_⟩
      rw [if_neg (by rw [wi]; exact Wi)]
      have := hK u hu
      rwa [Act.put_comm a undef u h2] at this
    · rw [if_neg (by rw [wj]; exact Wj)] at h
      rw [if_neg Wj, if_neg (by rw [wi]; exact Wi)]
      rwa [Act.put_comm a undef undef h2] at h
/-- Whatever order is picked, till the first n are done. -/
def wpAnyG (P : Program) (md : Region.Mode) (ops : Array Oper) (C : World → Prop) (Sp : Nat → OpSpec) (n : Nat) (L : Array Bool → Act → Vals → Prop) : Nat → Array Bool → Act → Vals → Prop
  | 0, listed, a, Vs => L listed a Vs
  | f + 1, listed, a, Vs => Region.ready md ops listed ≠ [] ∧ ∀ i ∈ Region.ready md ops listed, i < n ∧ gOp P md ops C Sp i (wpAnyG P md ops C Sp n L f (listed.setIfInBounds i true)) a Vs
theorem wpAny_of_G (hst : ∀ i v w w', factOf (Sp i) v w → Below w.heap.size w w' → factOf (Sp i) v w') (hCE : ∀ w w', C w → Below w.heap.size w w' → C w') {n g : Nat} {L : Array Bool → Act → Vals → Prop} {Q' : Exit → Act → World → Prop}
    (hL : ∀ listed a Vs w, C w → Facts Sp Vs w → L listed a Vs → wpAny P md ops Q' g listed a w) :
    ∀ (f : Nat) (listed : Array Bool) (a : Act) (Vs : Vals) (w : World), C w → Facts Sp Vs w → wpAnyG P md ops C Sp n L f listed a Vs → wpAny P md ops Q' (f + g) listed a w
  | 0, listed, a, Vs, w, hc, hF, h => by rw [Nat.zero_add]; exact hL _ _ _ _ hc hF h
  | f + 1, listed, a, Vs, w, hc, hF, h => by
    rw [show f + 1 + g = (f + g) + 1 by omega]
    refine ⟨fun h0 => absurd h0 h.1, fun i hi => ?_⟩
    have hg := (h.2 i hi).2
    unfold gOp at hg
    unfold wpOp
    split
    · rename_i e
      simp only [e] at hg
      exact wpAny_of_G hst hCE hL f _ a Vs w hc hF hg
    · rename_i o e
      simp only [e] at hg
      split
      · rename_i hw
        rw [if_pos hw] at hg
        obtain ⟨S, hS, hall⟩ := hg
        left
        unfold Ob at hS
        split at hS
        · rename_i es
          obtain ⟨v, rfl, hp⟩ := hS
          have hn := hall v rfl
          simp only [es, next] at hn
          exact Oper.wp_of_pure (hp w hc) (wpAny_of_G hst hCE hL f _ _ Vs w hc hF hn)
        · rename_i v es
          obtain ⟨rfl, hp⟩ := hS
          have hn := hall v rfl
          simp only [es, next] at hn
          refine Oper.wp_of_does (hp w hc fun i' v' _ hv => hF i' v' hv) fun u w' ⟨hu, hb⟩ => ?_
          subst hu
          exact wpAny_of_G hst hCE hL f _ _ Vs w' (hCE w w' hc hb) (fun i' v' hv => hst i' v' w w' (hF i' v' hv) hb) hn
        · rename_i R es
          obtain ⟨rfl, hp⟩ := hS
          refine Oper.wp_of_does (hp w hc fun i' v' _ hv => hF i' v' hv) fun u w' ⟨hu, hb⟩ => ?_
          have hn := hall u trivial
          refine wpAny_of_G hst hCE hL f _ _ _ w' (hCE w w' hc hb) (fun i' v' hv => ?_) hn
          simp only [es, next] at hv
          unfold upd at hv
          split at hv
          · rename_i e'
            subst e'
            cases hv
            simp only [es, factOf]
            exact hu
          · exact hst i' v' w w' (hF i' v' hv) hb
      · rename_i hw
        rw [if_neg hw] at hg
        exact wpAny_of_G hst hCE hL f _ _ Vs w hc hF hg
theorem wpAnyG_first (hC : ∃ w, C w) {n i : Nat} {oi : Oper} {L : Array Bool → Act → Vals → Prop} (hi : ops[i]? = some oi) (hsel : ∀ (j : Nat) (o : Oper) cs b, ops[j]? = some o → o.op ≠ .select cs b)
    (hs : Region.sinkB md ops n = true) (hc : Region.chainB md ops n = true) (hn : n < ops.size) (hin : i < n)
    (hdone : ∀ listed a Vs, L listed a Vs → ∀ j ∈ Region.ready md ops listed, n ≤ j) :
    ∀ (f : Nat) (listed : Array Bool) (a : Act) (Vs : Vals), HeadInv md ops n listed →
      (∀ j oj, ops[j]? = some oj → j ≠ i → listed.getD j true = false → (∀ e ∈ oj.after, Region.binds md e = true → e.on ≠ i) → oi.apart ops oj = true) →
      i ∈ Region.ready md ops listed →
      gOp P md ops C Sp i (wpAnyG P md ops C Sp n L f (listed.setIfInBounds i true)) a Vs → wpAnyG P md ops C Sp n L (f + 1) listed a Vs := by
  intro f
  induction f with
  | zero =>
    intro listed a Vs inv _ hr H
    have hun := (mem_ready.1 hr).1
    refine ⟨fun h => (by rw [h] at hr; cases hr), fun j hj => ?_⟩
    have hjn : j < n := by
      rcases Nat.lt_or_ge j n with h | h
      · exact h
      · exact absurd hj (tail_waits hs hc hn inv _ i rfl hin hun j h)
    refine ⟨hjn, ?_⟩
    by_cases hji : j = i
    · subst hji; exact H
    · obtain ⟨a', Vs', hL⟩ := gOp_some H
      have := hdone _ _ _ hL j (ready_mono hj hji)
      omega
  | succ f ih =>
    intro listed a Vs inv hfree hr H
    have hun := (mem_ready.1 hr).1
    refine ⟨fun h => (by rw [h] at hr; cases hr), fun j hj => ?_⟩
    have hjn : j < n := by
      rcases Nat.lt_or_ge j n with h | h
      · exact h
      · exact absurd hj (tail_waits hs hc hn inv _ i rfl hin hun j h)
    refine ⟨hjn, ?_⟩
    by_cases hji : j = i
    · subst hji; exact H
    · obtain ⟨hjun, oj, hoj, hall⟩ := mem_ready.1 hj
      have hnot : ∀ e ∈ oj.after, Region.binds md e = true → e.on ≠ i := fun e he hb heq => by
        have h1 := hall e he hb
        rw [heq, getD_both hun] at h1
        cases h1
      have a1 : ancB md ops ops.size j i = false := by
        cases hx : ancB md ops ops.size j i with
        | false => rfl
        | true => have := anc_ready inv hj _ _ hx; rw [getD_both hun] at this; cases this
      have a2 : ancB md ops ops.size i j = false := by
        cases hx : ancB md ops ops.size i j with
        | false => rfl
        | true => have := anc_ready inv hr _ _ hx; rw [getD_both hjun] at this; cases this
      have H1 : gOp P md ops C Sp i (gOp P md ops C Sp j (wpAnyG P md ops C Sp n L f ((listed.setIfInBounds i true).setIfInBounds j true))) a Vs :=
        gOp_mono (fun a' Vs' h => (h.2 j (ready_mono hj hji)).2) H
      have H2 := gOp_swap hC hi hoj (Ne.symm hji) (hfree j oj hoj hji hjun hnot) (fun cs b => hsel i oi cs b hi) (fun cs b => hsel j oj cs b hoj) a1 a2 H1
      have hfree' : ∀ k ok, ops[k]? = some ok → k ≠ i → (listed.setIfInBounds j true).getD k true = false →
          (∀ e ∈ ok.after, Region.binds md e = true → e.on ≠ i) → oi.apart ops ok = true := fun k ok hk hki hun' hno => by
        refine hfree k ok hk hki ?_ hno
        by_cases hjk : j = k
        · subst hjk; exact hjun
        · rw [getD_set_ne true hjk] at hun'; exact hun'
      refine gOp_mono (fun a' Vs' h3 => ih (listed.setIfInBounds j true) a' Vs' (inv.set hj hjn) hfree' (ready_mono hr (Ne.symm hji)) ?_) H2
      rw [Array.setIfInBounds_comm _ _ hji]
      exact h3
/-- The walk in the order of the text. -/
def wpG (P : Program) (md : Region.Mode) (ops : Array Oper) (C : World → Prop) (Sp : Nat → OpSpec) (Lq : Act → Vals → Prop) : List Oper → Nat → Act → Vals → Prop
  | [], _, a, Vs => Lq a Vs
  | o :: l, k, a, Vs => if Region.wanted o (yielded ops a.tmps) = true then ∃ S, Ob P md ops C Sp k o a Vs S ∧ ∀ v, S v → wpG P md ops C Sp Lq l (k + 1) (a.put o.dst v) (next (Sp k) Vs k v) else wpG P md ops C Sp Lq l (k + 1) (a.put o.dst undef) Vs
theorem wpAnyG_lex (hC : ∃ w, C w) {n g : Nat} {Lq : Act → Vals → Prop} (hsel : Region.noSelect ops = true) (hs : Region.sinkB md ops n = true) (hc : Region.chainB md ops n = true) (hn : n < ops.size) :
    ∀ (l : List Oper) (k : Nat) (listed : Array Bool) (a : Act) (Vs : Vals), (∀ j, j < l.length → l[j]? = ops[k + j]?) → k + l.length = n → HeadInv md ops n listed →
    Region.lexHead md ops g l.length k listed = true → wpG P md ops C Sp Lq l k a Vs →
    wpAnyG P md ops C Sp n (fun listed' a' Vs' => Region.seqB md ops g n listed' = true ∧ Lq a' Vs') l.length listed a Vs
  | [], k, listed, a, Vs, _, hk, _, hB, h => by
    have : k = n := by simpa using hk
    subst this
    exact ⟨by simpa [Region.lexHead] using hB, h⟩
  | o :: l, k, listed, a, Vs, hl, hk, inv, hB, h => by
    have h0 : ops[k]? = some o := by simpa using (hl 0 (by simp)).symm
    simp only [List.length_cons, Region.lexHead, Bool.and_eq_true] at hB
    obtain ⟨⟨hr, hf⟩, hB'⟩ := hB
    have hkn : k < n := by simp only [List.length_cons] at hk; omega
    have hr' : k ∈ Region.ready md ops listed := by simpa using hr
    have hg : gOp P md ops C Sp k (wpG P md ops C Sp Lq l (k + 1)) a Vs := by unfold gOp; simp only [h0]; exact h
    exact wpAnyG_first hC h0 (Region.noSelect_spec hsel) hs hc hn hkn (fun listed' a' Vs' hL => seqB_ready hL.1) l.length listed a Vs inv (Region.free_spec h0 hf) hr'
      (gOp_mono (fun a' Vs' h' => wpAnyG_lex hC hsel hs hc hn l (k + 1) _ a' Vs' (fun j hj => by have := hl (j + 1) (by simp; omega); simpa [Nat.add_assoc, Nat.add_comm 1 j] using this) (by simp only [List.length_cons] at hk; omega) (inv.set hr' hkn) hB' h') hg)
end
/-- A region that draws its order: its first n operations in the order of the text, from whatever later world; behind them the rest. -/
theorem wp_region_grow {P : Program} {id : Nat} {Q : Exit → Act → World → Prop} {a : Act} {w : World} {l : List Oper} (n : Nat) (Sp : Nat → OpSpec) (hm : P.follows .mixedOrders = true) (hB : Region.lexTailB .any l.toArray n = true)
    (hst : ∀ i v w w', factOf (Sp i) v w → Below w.heap.size w w' → factOf (Sp i) v w')
    (h : wpG P .any l.toArray (fun w' => Below w.heap.size w w') Sp (fun a' Vs => ∀ w', Below w.heap.size w w' → Facts Sp Vs w' → wpList P l.toArray Q (l.drop n) a' w') (l.take n) 0 a (fun _ => none)) : (Code.region id l.toArray true).wp P Q a w := by
  simp only [Region.lexTailB, Bool.and_eq_true, decide_eq_true_eq] at hB
  obtain ⟨⟨⟨⟨hsel, hn⟩, hs⟩, hc⟩, hlex⟩ := hB
  have hn' : n < l.length := by simpa using hn
  have htl : (l.take n).length = n := by simp; omega
  have hdl : (l.drop n).length = l.toArray.size - n := by simp
  have inv0 : HeadInv .any l.toArray n (Array.replicate l.toArray.size false) :=
    ⟨by simp, fun j oj _ hl => (by rw [getD_replicate_false] at hl; cases hl), fun t _ ht => getD_in (by simpa using ht) (getD_replicate_false _ _)⟩
  have H := wpAnyG_lex (md := .any) (g := l.toArray.size - n) ⟨w, Below.refl _ _⟩ hsel hs hc hn (l.take n) 0 _ a _ (fun j hj => by
    have hj' : j < n := by rw [htl] at hj; exact hj
    simp [hj']) (by simpa using htl) inv0 (by rw [htl]; exact hlex) h
  refine wp_region_any hm ?_
  have := wpAny_of_G (Q' := Q) (g := l.toArray.size - n) hst (fun w1 w2 h1 h2 => h1.trans (h2.mono h1.size)) (fun listed a' Vs w' hC hF hL => by
    have := wpAny_of_seq (md := .any) (Q' := Q) (l.drop n) n listed a' w' (fun j => by simp [List.getElem?_drop]) (by rw [hdl]; exact hL.1) (hL.2 w' hC hF)
    rwa [hdl] at this) _ _ _ _ ({ w with drawn := w.drawn + 1 } : World) (Below.refl w.heap.size w).drew (fun i v h => by cases h) H
  rw [htl, show n + (l.toArray.size - n) = l.toArray.size by omega] at this
  exact this
section
variable {P : Program} {ops : Array Oper} {md : Region.Mode} {C : World → Prop} {Sp : Nat → OpSpec} {Lq : Act → Vals → Prop} {o : Oper} {l : List Oper} {k : Nat} {a : Act} {Vs : Vals}
@[go_sem] theorem DoesR_value (w w' : World) (Φ : Value → World → Prop) (u : Value) : DoesR P w Φ (.ok (.value u) w') = Φ u w' := rfl
@[go_sem] theorem DoesR_enter (w w' : World) (Φ : Value → World → Prop) (f : FuncId) (args : Array Value) : DoesR P w Φ (.ok (.enter f args) w') = (w' = w ∧ Calls P f args w (CallPost Φ)) := rfl
@[go_sem] theorem PureR_value (w w' : World) (v u : Value) : PureR w v (.ok (.value u) w') = (w' = w ∧ u = v) := rfl
theorem wpG_nil (h : Lq a Vs) : wpG P md ops C Sp Lq [] k a Vs := h
theorem wpG_pure (hw : Region.wanted o (yielded ops a.tmps) = true) (hs : Sp k = .pure) (v : Value) (h : ∀ w, C w → PureAt P o a w v) (hn : wpG P md ops C Sp Lq l (k + 1) (a.put o.dst v) Vs) : wpG P md ops C Sp Lq (o :: l) k a Vs := by
  unfold wpG
  rw [if_pos hw]
  refine ⟨fun u => u = v, by unfold Ob; rw [hs]; exact ⟨v, rfl, h⟩, fun u hu => ?_⟩
  subst hu
  rw [hs]
  exact hn
theorem wpG_const (hw : Region.wanted o (yielded ops a.tmps) = true) {v : Value} (hs : Sp k = .const v) (h : ∀ w, C w → FactsAt md ops Sp k Vs w → Does P o a w (IsPost v w)) (hn : wpG P md ops C Sp Lq l (k + 1) (a.put o.dst v) Vs) : wpG P md ops C Sp Lq (o :: l) k a Vs := by
  unfold wpG
  rw [if_pos hw]
  refine ⟨fun u => u = v, by unfold Ob; rw [hs]; exact ⟨rfl, h⟩, fun u hu => ?_⟩
  subst hu
  rw [hs]
  exact hn
theorem wpG_rel (hw : Region.wanted o (yielded ops a.tmps) = true) {R : Value → World → Prop} (hs : Sp k = .rel R) (h : ∀ w, C w → FactsAt md ops Sp k Vs w → Does P o a w (RelPost R w)) (hn : ∀ v, wpG P md ops C Sp Lq l (k + 1) (a.put o.dst v) (upd Vs k v)) : wpG P md ops C Sp Lq (o :: l) k a Vs := by
  unfold wpG
  rw [if_pos hw]
  refine ⟨fun _ => True, by unfold Ob; rw [hs]; exact ⟨rfl, h⟩, fun u _ => ?_⟩
  rw [hs]
  exact hn u
theorem wpG_skip (hw : Region.wanted o (yielded ops a.tmps) = false) (hn : wpG P md ops C Sp Lq l (k + 1) (a.put o.dst undef) Vs) : wpG P md ops C Sp Lq (o :: l) k a Vs := by
  unfold wpG
  rw [if_neg (by rw [hw]; exact Bool.false_ne_true)]
  exact hn
theorem pure_move (x : Operand) (ho : o.op = .move x) (w : World) : PureAt P o a w (a.eval x) := by unfold PureAt execOp; simp [ho, PureR, Sem.run_pure]
theorem pure_assign (x : Operand) (ho : o.op = .assign x) (w : World) : PureAt P o a w (a.eval x) := by unfold PureAt execOp; simp [ho, PureR, Sem.run_pure]
end
/-- A call that makes something, inside such a region. -/
def Made (w0 : World) (F : Fz) (R : Fz → Value → Prop) (v : Value) (w : World) : Prop := ∃ F', Gr w0 F w F' ∧ R F' v
theorem Made.stable {w0 : World} {F : Fz} {R : Fz → Value → Prop} {v : Value} {w w' : World} (h : Made w0 F R v w) (hb : Below w.heap.size w w') : Made w0 F R v w' := by
  obtain ⟨F', g, r⟩ := h
  exact ⟨F', g.trans (Gr.of_below g.sat hb), r⟩
theorem call_made {P : Program} {f : FuncId} {args : Array Value} {w0 w : World} {F : Fz} {R : Fz → Value → Prop} (hs : Sat w0 F) (hC : Below w0.heap.size w0 w) (h : Calls P f args w (Gives w F R)) : Calls P f args w (CallPost (RelPost (Made w0 F R) w)) :=
  h.mono fun e w' hh => by
    obtain ⟨v, F', he, g, r⟩ := hh
    exact ⟨v, he, ⟨F', (Gr.of_below hs hC).trans g, r⟩, g.below⟩
theorem call_const {P : Program} {f : FuncId} {args : Array Value} {w : World} {v : Value} (h : Calls P f args w fun e w' => e = .returned v ∧ w' = w) : Calls P f args w (CallPost (IsPost v w)) :=
  h.mono fun e w' hh => by
    obtain ⟨he, rfl⟩ := hh
    exact ⟨v, he, rfl, Below.refl _ _⟩
theorem call_tells {P : Program} {f : FuncId} {args : Array Value} {w : World} {v : Value} (h : Calls P f args w (Tells w v)) : Calls P f args w (CallPost (IsPost v w)) :=
  h.mono fun _ _ hh => ⟨v, hh.1, rfl, hh.2⟩
/-- The specifications of a region's calls, by the numbers of the operations. -/
inductive Mark where
  | is (v : Value)
  | made (R : Fz → Value → Prop)
  | rel (R : Value → World → Prop) (st : ∀ v w w', R v w → Below w.heap.size w w' → R v w')
def specOf (W : World) (F : Fz) (L : List (Nat × Mark)) (i : Nat) : OpSpec :=
  match L.lookup i with
  | some (.is v) => .const v
  | some (.made R) => .rel (Made W F R)
  | some (.rel R _) => .rel R
  | none => .pure
theorem specOf_stable {W : World} {F : Fz} {L : List (Nat × Mark)} : ∀ i v w w', factOf (specOf W F L i) v w → Below w.heap.size w w' → factOf (specOf W F L i) v w' := by
  intro i v w w' h hb
  unfold specOf at *
  split
  · trivial
  · rename_i R e
    simp only [e] at h
    exact Made.stable h hb
  · rename_i R st e
    simp only [e] at h
    exact st _ _ _ h hb
  · trivial
theorem wp_region_made {P : Program} {id : Nat} {Q : Exit → Act → World → Prop} {a : Act} {W : World} {l : List Oper} (F : Fz) (n : Nat) (L : List (Nat × Mark)) (hm : P.follows .mixedOrders = true) (hB : Region.lexTailB .any l.toArray n = true)
    (h : wpG P .any l.toArray (fun w' => Below W.heap.size W w') (specOf W F L) (fun a' Vs => ∀ w', Below W.heap.size W w' → Facts (specOf W F L) Vs w' → wpList P l.toArray Q (l.drop n) a' w') (l.take n) 0 a (fun _ => none)) : (Code.region id l.toArray true).wp P Q a W :=
  wp_region_grow n (specOf W F L) hm hB specOf_stable h
/-- What is known of operation i's value at the end. -/
theorem Facts.get {W : World} {F : Fz} {L : List (Nat × Mark)} {Vs : Vals} {w : World} (h : Facts (specOf W F L) Vs w) (i : Nat) {v : Value} {R : Fz → Value → Prop} (hv : Vs i = some v) (hL : specOf W F L i = .rel (Made W F R)) : ∃ F', Gr W F w F' ∧ R F' v := by
  have := h i v hv
  rw [hL] at this
  exact this
theorem FactsAt.get {md : Region.Mode} {ops : Array Oper} {W : World} {F : Fz} {L : List (Nat × Mark)} {Vs : Vals} {w : World} {j : Nat} (h : FactsAt md ops (specOf W F L) j Vs w) (i : Nat) {v : Value} {R : Fz → Value → Prop} (ha : ancB md ops ops.size j i = true) (hv : Vs i = some v) (hL : specOf W F L i = .rel (Made W F R)) : ∃ F', Gr W F w F' ∧ R F' v := by
  have := h i v ha hv
  rw [hL] at this
  exact this
/-- Two parts of the heap that no more change, as one. -/
def both (F G : Fz) : Fz := fun b => match F b with | some o => some o | none => G b
theorem both_left (F G : Fz) : Le F (both F G) := fun b o h => by simp [both, h]
theorem both_right {F G : Fz} {w : World} (hF : Sat w F) (hG : Sat w G) : Le G (both F G) := fun b o h => by
  unfold both
  cases hb : F b with
  | none => exact h
  | some x => have h1 := hF b x hb; have h2 := hG b o h; rw [h1] at h2; simpa using h2
theorem Gr.both {w w' : World} {F F1 F2 : Fz} (h : Gr w F w' F1) (k : Gr w F w' F2) : Gr w F w' (both F1 F2) :=
  ⟨h.below, fun b hb => by unfold Proofs.Yteefnnnbbmbmcaa.both; rw [h.old b hb]; cases hf : F b with | none => exact (k.old b hb).trans hf | some o => rfl, fun b o hb => by
    unfold Proofs.Yteefnnnbbmbmcaa.both at hb
    split at hb
    · rename_i x hx; cases hb; exact h.sat b _ hx
    · exact k.sat b o hb⟩
end Go.Proofs.Yteefnnnbbmbmcaa
