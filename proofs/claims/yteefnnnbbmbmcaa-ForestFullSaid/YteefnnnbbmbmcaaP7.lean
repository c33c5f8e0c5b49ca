/- Commits as bytes: plain laws. No program in sight. -/
import Derived.Test.YteefnnnbbmbmcaaP2
namespace Go.Proofs.Yteefnnnbbmbmcaa
open Go.RowKit

def b8 (n : Nat) : UInt8 := UInt8.ofNat n
theorem b8_toNat {n : Nat} (h : n < 256) : (b8 n).toNat = n := by simp [b8]; omega
theorem b8_back (x : UInt8) : b8 x.toNat = x := by simp [b8]
def encPart (p : By) : By := b8 p.length :: p
def encWr (w : Wr) : By := encPart w.name ++ (encPart w.key ++ if w.gone then [255] else encPart w.value)
def encCm (turn : Nat) (ws : List Wr) : By := b8 (turn / 65536) :: b8 (turn / 256) :: b8 turn :: b8 ws.length :: ws.flatMap encWr
structure Rr where
  rest : By
  short : Bool
def takeR (n : Nat) (r : Rr) : By × Rr := if r.short = true ∨ r.rest.length < n then (List.replicate n 0, ⟨r.rest, true⟩) else (r.rest.take n, ⟨r.rest.drop n, false⟩)
def byteR (r : Rr) : Nat × Rr := (((takeR 1 r).1.headD 0).toNat, (takeR 1 r).2)
def partR (r : Rr) : By × Rr := takeR (byteR r).1 (byteR r).2
def wrR (r : Rr) : Wr × Rr :=
  let a := partR r
  let b := partR a.2
  let c := byteR b.2
  if c.1 = 255 then (⟨a.1, b.1, true, []⟩, c.2) else let d := takeR c.1 c.2; (⟨a.1, b.1, false, d.1⟩, d.2)
def wrsR : Nat → Rr → List Wr × Rr
  | 0, r => ([], r)
  | n + 1, r => let a := wrR r; let b := wrsR n a.2; (a.1 :: b.1, b.2)
def decCm (b : By) : Nat × List Wr × Rr :=
  let x := byteR ⟨b, false⟩
  let y := byteR x.2
  let z := byteR y.2
  let n := byteR z.2
  let l := wrsR n.1 n.2
  (x.1 * 65536 + y.1 * 256 + z.1, l.1, l.2)
/-- What is read of a beginning is read of the whole. -/
theorem takeR_more {n : Nat} {b t : By} {r : Rr} (h : (takeR n ⟨b, false⟩).2 = r) (hs : r.short = false) : takeR n ⟨b ++ t, false⟩ = ((takeR n ⟨b, false⟩).1, ⟨r.rest ++ t, false⟩) := by
  subst h
  unfold takeR at *
  by_cases hl : b.length < n
  · simp [hl] at hs
  · have h2 : ¬ (b ++ t).length < n := by simp; omega
    simp only [Bool.false_eq_true, false_or, hl, if_false, h2]
    rw [List.take_append_of_le_length (by omega), List.drop_append_of_le_length (by omega)]
theorem takeR_short {n : Nat} {r : Rr} (h : r.short = true) : (takeR n r).2.short = true := by unfold takeR; rw [if_pos (.inl h)]
theorem takeR_of {n : Nat} {r : Rr} (h : (takeR n r).2.short = false) : r.short = false ∧ n ≤ r.rest.length ∧ r.rest = (takeR n r).1 ++ (takeR n r).2.rest ∧ (takeR n r).1.length = n := by
  unfold takeR at *
  by_cases hc : r.short = true ∨ r.rest.length < n
  · rw [if_pos hc] at h; cases h
  · rw [if_neg hc] at h ⊢
    have h1 : r.short = false := by cases hx : r.short with | false => rfl | true => exact absurd (.inl hx) hc
    have h2 : ¬ r.rest.length < n := fun k => hc (.inr k)
    exact ⟨h1, by omega, by simp, by simp; omega⟩
/-- A reader: what it reads of a beginning it reads of the whole; once short it stays so. -/
structure Reads {α : Type} (f : Rr → α × Rr) : Prop where
  more : ∀ b t, (f ⟨b, false⟩).2.short = false → f ⟨b ++ t, false⟩ = ((f ⟨b, false⟩).1, ⟨(f ⟨b, false⟩).2.rest ++ t, false⟩)
  short : ∀ r, r.short = true → (f r).2.short = true
theorem Rr.eta (r : Rr) (h : r.short = false) : r = ⟨r.rest, false⟩ := by cases r; simp at h; subst h; rfl
theorem reads_take (n : Nat) : Reads (takeR n) := ⟨fun _ _ h => takeR_more rfl h, fun _ h => takeR_short h⟩
theorem Reads.bind {α β : Type} {f : Rr → α × Rr} {g : α → Rr → β × Rr} (hf : Reads f) (hg : ∀ a, Reads (g a)) : Reads fun r => g (f r).1 (f r).2 := by
  refine ⟨fun b t h => ?_, fun r h => (hg _).short _ (hf.short r h)⟩
  cases hs : (f ⟨b, false⟩).2.short with
  | true => rw [(hg _).short _ hs] at h; cases h
  | false =>
    rw [hf.more b t hs]
    have e := Rr.eta _ hs
    rw [e] at h ⊢
    exact (hg _).more _ t h
theorem Reads.map {α β : Type} {f : Rr → α × Rr} (hf : Reads f) (g : α → β) : Reads fun r => (g (f r).1, (f r).2) := by
  refine ⟨fun b t h => ?_, fun r h => hf.short r h⟩
  rw [hf.more b t h]
set_option linter.unusedVariables false
theorem reads_pure {α : Type} (a : α) : Reads fun r => (a, r) := ⟨by intros; rfl, fun _r h => h⟩
theorem reads_byte : Reads byteR := (reads_take 1).map fun b => (b.headD 0).toNat
theorem reads_part : Reads partR := Reads.bind (g := fun n r => takeR n r) reads_byte fun n => reads_take n
theorem reads_wr : Reads wrR := by
  have h : Reads fun r => (fun (a : By) (r : Rr) => (fun (b : By) (r : Rr) => (fun (c : Nat) (r : Rr) => if c = 255 then ((⟨a, b, true, []⟩ : Wr), r) else ((⟨a, b, false, (takeR c r).1⟩ : Wr), (takeR c r).2)) (byteR r).1 (byteR r).2) (partR r).1 (partR r).2) (partR r).1 (partR r).2 := by
    refine Reads.bind (f := partR) (g := fun a r => (fun (b : By) (r : Rr) => (fun (c : Nat) (r : Rr) => if c = 255 then ((⟨a, b, true, []⟩ : Wr), r) else ((⟨a, b, false, (takeR c r).1⟩ : Wr), (takeR c r).2)) (byteR r).1 (byteR r).2) (partR r).1 (partR r).2) reads_part fun a => ?_
    refine Reads.bind (f := partR) (g := fun b r => (fun (c : Nat) (r : Rr) => if c = 255 then ((⟨a, b, true, []⟩ : Wr), r) else ((⟨a, b, false, (takeR c r).1⟩ : Wr), (takeR c r).2)) (byteR r).1 (byteR r).2) reads_part fun b => ?_
    refine Reads.bind (f := byteR) (g := fun c r => if c = 255 then ((⟨a, b, true, []⟩ : Wr), r) else ((⟨a, b, false, (takeR c r).1⟩ : Wr), (takeR c r).2)) reads_byte fun c => ?_
    by_cases hc : c = 255
    · simp only [hc, if_true]; exact reads_pure _
    · simp only [hc, if_false]; exact (reads_take c).map fun v => (⟨a, b, false, v⟩ : Wr)
  exact h
theorem reads_wrs : ∀ n, Reads (wrsR n)
  | 0 => reads_pure []
  | n + 1 => Reads.bind (f := wrR) (g := fun a r => (a :: (wrsR n r).1, (wrsR n r).2)) reads_wr fun a => (reads_wrs n).map fun l => a :: l
def cmR (r : Rr) : (Nat × List Wr) × Rr :=
  let x := byteR r
  let y := byteR x.2
  let z := byteR y.2
  let n := byteR z.2
  let l := wrsR n.1 n.2
  ((x.1 * 65536 + y.1 * 256 + z.1, l.1), l.2)
theorem reads_cm : Reads cmR := by
  refine Reads.bind (f := byteR) (g := fun x r => (((x * 65536 + (byteR r).1 * 256 + (byteR (byteR r).2).1, (wrsR (byteR (byteR (byteR r).2).2).1 (byteR (byteR (byteR r).2).2).2).1) : Nat × List Wr), (wrsR (byteR (byteR (byteR r).2).2).1 (byteR (byteR (byteR r).2).2).2).2)) reads_byte fun x => ?_
  refine Reads.bind (f := byteR) (g := fun y r => (((x * 65536 + y * 256 + (byteR r).1, (wrsR (byteR (byteR r).2).1 (byteR (byteR r).2).2).1) : Nat × List Wr), (wrsR (byteR (byteR r).2).1 (byteR (byteR r).2).2).2)) reads_byte fun y => ?_
  refine Reads.bind (f := byteR) (g := fun z r => (((x * 65536 + y * 256 + z, (wrsR (byteR r).1 (byteR r).2).1) : Nat × List Wr), (wrsR (byteR r).1 (byteR r).2).2)) reads_byte fun z => ?_
  refine Reads.bind (f := byteR) (g := fun n r => (((x * 65536 + y * 256 + z, (wrsR n r).1) : Nat × List Wr), (wrsR n r).2)) reads_byte fun n => ?_
  exact (reads_wrs n).map fun l => (x * 65536 + y * 256 + z, l)
theorem decCm_eq (b : By) : decCm b = ((cmR ⟨b, false⟩).1.1, (cmR ⟨b, false⟩).1.2, (cmR ⟨b, false⟩).2) := rfl
/-! What was written is read. -/
theorem takeR_app (p t : By) : takeR p.length ⟨p ++ t, false⟩ = (p, ⟨t, false⟩) := by unfold takeR; simp
theorem byteR_cons (x : UInt8) (t : By) : byteR ⟨x :: t, false⟩ = (x.toNat, ⟨t, false⟩) := by unfold byteR takeR; simp
theorem partR_enc (p t : By) (h : p.length < 256) : partR ⟨encPart p ++ t, false⟩ = (p, ⟨t, false⟩) := by
  unfold partR encPart
  rw [List.cons_append, byteR_cons, b8_toNat h]
  exact takeR_app p t
theorem wrR_enc (w : Wr) (t : By) (h : WrOk w) : wrR ⟨encWr w ++ t, false⟩ = (w, ⟨t, false⟩) := by
  have h1 := h.name.2
  have h2 := h.key2
  have h3 := h.value
  unfold wrR encWr
  simp only [List.append_assoc]
  rw [partR_enc _ _ (by omega)]
  simp only
  rw [partR_enc _ _ (by omega)]
  simp only
  cases hg : w.gone with
  | true =>
    simp only [if_true, List.cons_append, List.nil_append, byteR_cons]
    rw [if_pos (show ((255 : UInt8).toNat = 255) from rfl)]
    have := h.gone hg
    cases w; simp_all
  | false =>
    simp only [Bool.false_eq_true, if_false, encPart, List.cons_append, byteR_cons]
    rw [b8_toNat (by omega), if_neg (by omega), takeR_app]
    cases w; simp_all
theorem wrsR_enc : ∀ (ws : List Wr) (t : By), (∀ w ∈ ws, WrOk w) → wrsR ws.length ⟨ws.flatMap encWr ++ t, false⟩ = (ws, ⟨t, false⟩)
  | [], t, _ => rfl
  | w :: ws, t, h => by
    simp only [List.length_cons, wrsR, List.flatMap_cons, List.append_assoc]
    rw [wrR_enc w _ (h w (by simp))]
    simp only
    rw [wrsR_enc ws t (fun x hx => h x (by simp [hx]))]
theorem cmR_enc (turn : Nat) (ws : List Wr) (t : By) (h : ∀ w ∈ ws, WrOk w) (hl : ws.length < 256) (ht : turn < 16777216) : cmR ⟨encCm turn ws ++ t, false⟩ = ((turn, ws), ⟨t, false⟩) := by
  unfold cmR encCm
  simp only [List.cons_append, byteR_cons]
  rw [b8_toNat hl, wrsR_enc ws t h, b8_toNat (by omega)]
  have e1 : (b8 (turn / 256)).toNat = turn / 256 % 256 := by simp [b8]
  have e2 : (b8 turn).toNat = turn % 256 := by simp [b8]
  rw [e1, e2]
  congr 2
  omega
/-- What is torn is short. -/
theorem cmR_torn (turn : Nat) (ws : List Wr) (k : Nat) (h : ∀ w ∈ ws, WrOk w) (hl : ws.length < 256) (ht : turn < 16777216) (hk : k < (encCm turn ws).length) : (cmR ⟨(encCm turn ws).take k, false⟩).2.short = true := by
  cases hs : (cmR ⟨(encCm turn ws).take k, false⟩).2.short with
  | true => rfl
  | false =>
    exfalso
    have h1 := reads_cm.more _ ((encCm turn ws).drop k) hs
    rw [List.take_append_drop] at h1
    have h2 := cmR_enc turn ws [] h hl ht
    rw [List.append_nil] at h2
    rw [h2] at h1
    have h3 := congrArg (fun x => x.2.rest.length) h1
    simp at h3
    omega
/-! What is read was written. -/
theorem takeR_inv {n : Nat} {b : By} (h : (takeR n ⟨b, false⟩).2.short = false) : b = (takeR n ⟨b, false⟩).1 ++ (takeR n ⟨b, false⟩).2.rest ∧ (takeR n ⟨b, false⟩).1.length = n := ⟨(takeR_of h).2.2.1, (takeR_of h).2.2.2⟩
theorem byteR_inv {b : By} (h : (byteR ⟨b, false⟩).2.short = false) : b = b8 (byteR ⟨b, false⟩).1 :: (byteR ⟨b, false⟩).2.rest ∧ (byteR ⟨b, false⟩).1 < 256 := by
  have h' : (takeR 1 ⟨b, false⟩).2.short = false := h
  obtain ⟨h1, h2⟩ := takeR_inv h'
  obtain ⟨x, hx⟩ := List.length_eq_one_iff.1 h2
  have e : (byteR ⟨b, false⟩).1 = x.toNat := by unfold byteR; rw [hx]; rfl
  rw [e]
  refine ⟨?_, UInt8.toNat_lt x⟩
  rw [b8_back]
  rw [hx] at h1
  exact h1
theorem partR_inv {b : By} (h : (partR ⟨b, false⟩).2.short = false) : b = encPart (partR ⟨b, false⟩).1 ++ (partR ⟨b, false⟩).2.rest := by
  have h0 : (takeR (byteR ⟨b, false⟩).1 (byteR ⟨b, false⟩).2).2.short = false := h
  obtain ⟨h1, h2, h3, h4⟩ := takeR_of h0
  obtain ⟨h5, h6⟩ := byteR_inv h1
  unfold encPart
  have e : (partR ⟨b, false⟩).1.length = (byteR ⟨b, false⟩).1 := h4
  rw [e, List.cons_append]
  have h7 : (byteR ⟨b, false⟩).2.rest = (partR ⟨b, false⟩).1 ++ (partR ⟨b, false⟩).2.rest := h3
  rw [← h7]
  exact h5
theorem not_short {α : Type} {f : Rr → α × Rr} (hf : Reads f) {r : Rr} (h : (f r).2.short = false) : r = ⟨r.rest, false⟩ := by
  cases hs : r.short with
  | true => rw [hf.short r hs] at h; cases h
  | false => exact Rr.eta r hs
theorem wrR_inv {b : By} (h : (wrR ⟨b, false⟩).2.short = false) : b = encWr (wrR ⟨b, false⟩).1 ++ (wrR ⟨b, false⟩).2.rest ∧ ((wrR ⟨b, false⟩).1.gone = true → (wrR ⟨b, false⟩).1.value = []) := by
  unfold wrR at h ⊢
  simp only at h ⊢
  generalize hA : partR ⟨b, false⟩ = A at *
  generalize hB : partR A.2 = B at *
  generalize hC : byteR B.2 = C at *
  by_cases hc : C.1 = 255
  · rw [if_pos hc] at h ⊢
    simp only at h ⊢
    have hB2 : B.2 = ⟨B.2.rest, false⟩ := not_short reads_byte (by rw [hC]; exact h)
    have hA2 : A.2 = ⟨A.2.rest, false⟩ := not_short reads_part (by rw [hB, hB2])
    have i1 := partR_inv (b := b) (by rw [hA, hA2])
    have i2 := partR_inv (b := A.2.rest) (by rw [← hA2, hB, hB2])
    have i3 := byteR_inv (b := B.2.rest) (by rw [← hB2, hC]; exact h)
    rw [← hA2, hB] at i2
    rw [← hB2, hC] at i3
    rw [hA] at i1
    refine ⟨?_, fun _q => trivial⟩
    unfold encWr
    simp only [if_true, List.append_assoc, List.cons_append, List.nil_append]
    rw [hc] at i3
    rw [show (255 : UInt8) = b8 255 from rfl, ← i3.1, ← i2]
    exact i1
  · rw [if_neg hc] at h ⊢
    simp only at h ⊢
    have hC2 : C.2 = ⟨C.2.rest, false⟩ := not_short (reads_take C.1) h
    have hB2 : B.2 = ⟨B.2.rest, false⟩ := not_short reads_byte (by rw [hC, hC2])
    have hA2 : A.2 = ⟨A.2.rest, false⟩ := not_short reads_part (by rw [hB, hB2])
    have i1 := partR_inv (b := b) (by rw [hA, hA2])
    have i2 := partR_inv (b := A.2.rest) (by rw [← hA2, hB, hB2])
    have i3 := byteR_inv (b := B.2.rest) (by rw [← hB2, hC, hC2])
    obtain ⟨_, _, i4, i5⟩ := takeR_of h
    rw [← hA2, hB] at i2
    rw [← hB2, hC] at i3
    rw [hA] at i1
    refine ⟨?_, fun k => (by cases k)⟩
    unfold encWr
    simp only [Bool.false_eq_true, if_false, List.append_assoc]
    have e : encPart (takeR C.1 C.2).1 ++ (takeR C.1 C.2).2.rest = B.2.rest := by
      unfold encPart
      rw [i5, List.cons_append, ← i4]
      exact i3.1.symm
    rw [e, ← i2]
    exact i1
theorem wrsR_inv : ∀ (n : Nat) (b : By), (wrsR n ⟨b, false⟩).2.short = false → b = (wrsR n ⟨b, false⟩).1.flatMap encWr ++ (wrsR n ⟨b, false⟩).2.rest ∧ (wrsR n ⟨b, false⟩).1.length = n
  | 0, b, _ => ⟨rfl, rfl⟩
  | n + 1, b, h => by
    unfold wrsR at h ⊢
    simp only at h ⊢
    have h2 : (wrR ⟨b, false⟩).2 = ⟨(wrR ⟨b, false⟩).2.rest, false⟩ := not_short (reads_wrs n) h
    obtain ⟨i1, _⟩ := wrR_inv (b := b) (by rw [h2])
    have ih := wrsR_inv n (wrR ⟨b, false⟩).2.rest (by rw [← h2]; exact h)
    rw [← h2] at ih
    refine ⟨?_, by rw [List.length_cons, ih.2]⟩
    rw [List.flatMap_cons, List.append_assoc, ← ih.1]
    exact i1
theorem cmR_inv {b : By} (h : (cmR ⟨b, false⟩).2.short = false) (hr : (cmR ⟨b, false⟩).2.rest = []) : b = encCm (cmR ⟨b, false⟩).1.1 (cmR ⟨b, false⟩).1.2 := by
  unfold cmR at h hr ⊢
  simp only at h hr ⊢
  generalize hX : byteR ⟨b, false⟩ = X at *
  generalize hY : byteR X.2 = Y at *
  generalize hZ : byteR Y.2 = Z at *
  generalize hN : byteR Z.2 = N at *
  have n2 : N.2 = ⟨N.2.rest, false⟩ := not_short (reads_wrs N.1) h
  have z2 : Z.2 = ⟨Z.2.rest, false⟩ := not_short reads_byte (by rw [hN, n2])
  have y2 : Y.2 = ⟨Y.2.rest, false⟩ := not_short reads_byte (by rw [hZ, z2])
  have x2 : X.2 = ⟨X.2.rest, false⟩ := not_short reads_byte (by rw [hY, y2])
  obtain ⟨i1, j1⟩ := byteR_inv (b := b) (by rw [hX, x2])
  obtain ⟨i2, j2⟩ := byteR_inv (b := X.2.rest) (by rw [← x2, hY, y2])
  obtain ⟨i3, j3⟩ := byteR_inv (b := Y.2.rest) (by rw [← y2, hZ, z2])
  obtain ⟨i4, j4⟩ := byteR_inv (b := Z.2.rest) (by rw [← z2, hN, n2])
  obtain ⟨i5, j5⟩ := wrsR_inv N.1 N.2.rest (by rw [← n2]; exact h)
  rw [hX] at i1 j1
  rw [← x2, hY] at i2 j2
  rw [← y2, hZ] at i3 j3
  rw [← z2, hN] at i4 j4
  rw [← n2] at i5 j5
  rw [hr, List.append_nil] at i5
  unfold encCm
  rw [j5, ← i5, ← i4]
  have e1 : (X.1 * 65536 + Y.1 * 256 + Z.1) / 65536 = X.1 := by omega
  have e2 : b8 ((X.1 * 65536 + Y.1 * 256 + Z.1) / 256) = b8 Y.1 := by
    apply UInt8.toNat_inj.1; simp [b8]; omega
  have e3 : b8 (X.1 * 65536 + Y.1 * 256 + Z.1) = b8 Z.1 := by
    apply UInt8.toNat_inj.1; simp [b8]
  rw [e1, e2, e3, ← i3, ← i2]
  exact i1
theorem encWr_len {w : Wr} (h : w.gone = true → w.value = []) : (encWr w).length = 3 + w.name.length + w.key.length + w.value.length := by
  unfold encWr encPart
  cases hg : w.gone with
  | true => simp [h hg]; omega
  | false => simp; omega
end Go.Proofs.Yteefnnnbbmbmcaa
