/- Rules, plain laws and walks: P5 P6 P7 P8 P9 S1 FW FX MN -/
import Derived.Test.YtilgpdpooildcaaGreatDoorDA1
import Derived.Deep.AppendLies
import Derived.Deep.MidRow
namespace Go.Proofs.YtilgpdpooildcaaGreatDoor
set_option maxHeartbeats 8000000
open Go.RowKit

def NR (p : Pr) : By := yR 1 [p.1, p.2]
def CK (bit : Nat) (a b : By) : By := yR 2 [[UInt8.ofNat bit], a, b]
def aX (l : List Pr) : Nat := match l.head?, l.getLast? with
  | some p, some q => (pG p.1 q.1).toNat
  | _, _ => 0
def bC (bit : Nat) (l : List Pr) : Nat := (l.takeWhile fun p => !cY p.1 bit).length
theorem CL (bit : Nat) (l : List Pr) : bC bit l ≤ l.length := (List.takeWhile_prefix _).length_le
def CM : Nat → List Pr → By
  | 0, _ => yR 0 []
  | _ + 1, [] => yR 0 []
  | _ + 1, [p] => NR p
  | n + 1, p :: q :: l => CK (aX (p :: q :: l)) (CM n ((p :: q :: l).take (bC (aX (p :: q :: l)) (p :: q :: l)))) (CM n ((p :: q :: l).drop (bC (aX (p :: q :: l)) (p :: q :: l))))
def dU (l : List Pr) : By := CM l.length l
structure KeysOk (l : List Pr) : Prop where
  key : ∀ p ∈ l, 1 ≤ p.1.length ∧ p.1.length ≤ 16
  rise : fS l
theorem KeysOk.sub {l m : List Pr} (h : KeysOk l) (hs : m.Sublist l) : KeysOk m := ⟨fun p hp => h.key p (hs.subset hp), h.rise.sublist hs⟩
theorem nZ {l : List Pr} (h : KeysOk l) (h2 : 2 ≤ l.length) : aX l < 145 ∧ pG (l[0]'(by omega)).1 (l[l.length - 1]'(by omega)).1 = aX l ∧ cY (l[0]'(by omega)).1 (aX l) = false ∧ cY (l[l.length - 1]'(by omega)).1 (aX l) = true := by
 have e1 : l.head? = some (l[0]'(by omega)) := by rw [List.head?_eq_getElem?, List.getElem?_eq_getElem]
 have e2 : l.getLast? = some (l[l.length - 1]'(by omega)) := by rw [List.getLast?_eq_getElem?, List.getElem?_eq_getElem]
 have hlt : Lt (l[0]'(by omega)).1 (l[l.length - 1]'(by omega)).1 := List.pairwise_iff_getElem.1 h.rise 0 (l.length - 1) (by omega) (by omega) (by omega)
 have hb : aX l = (pG (l[0]'(by omega)).1 (l[l.length - 1]'(by omega)).1).toNat := by unfold aX; rw [e1, e2]
 generalize hx : (l[0]'(by omega)).1 = x at *
 generalize hy : (l[l.length - 1]'(by omega)).1 = y at *
 have hxl : x.length ≤ 16 := by rw [← hx]; exact (h.key _ (List.getElem_mem _)).2
 have hyl : y.length ≤ 16 := by rw [← hy]; exact (h.key _ (List.getElem_mem _)).2
 rcases vS x y with ⟨h0, _⟩ | ⟨m, m1, m2, m3, m4⟩
 ·exact absurd (YO hxl hyl h0) (nJ hlt)
 ·have hbm : aX l = m := by rw [hb, m2]; rfl
  rw [hbm]
  have e := QX (a := x) (b := y) m2
  rw [hlt] at e
  refine ⟨m1, m2, ?_, e⟩
  rw [e] at m3
  cases hq : cY x m with
  | false => rfl
  | true => rw [hq] at m3; exact absurd rfl m3
theorem NS {bit : Nat} {l : List Pr} {i : Nat} (hi : i < bC bit l) (h : i < l.length) : cY l[i].1 bit = false := by
 unfold bC at hi
 have e : (l.takeWhile fun p => !cY p.1 bit)[i] = l[i] := (List.takeWhile_prefix _).getElem hi
 have hp := List.all_eq_true.1 (List.all_takeWhile (p := fun p : Pr => !cY p.1 bit) (l := l)) _ (List.getElem_mem hi)
 rw [e] at hp
 simpa using hp
theorem CN {bit : Nat} : ∀ {l : List Pr} (h : bC bit l < l.length), cY l[bC bit l].1 bit = true
  | [], h => by simp at h
  | p :: l, h => by
    cases hb : cY p.1 bit with
    | true =>
      have : bC bit (p :: l) = 0 := by simp [bC, hb]
      simp only [this, List.getElem_cons_zero]
      exact hb
    | false =>
      have e : bC bit (p :: l) = bC bit l + 1 := by simp [bC, hb]
      simp only [e, List.getElem_cons_succ]
      exact CN (by rw [e] at h; simpa using h)
theorem oF {l : List Pr} (h : KeysOk l) (h2 : 2 ≤ l.length) : 0 < bC (aX l) l ∧ bC (aX l) l < l.length := by
 obtain ⟨b1, b2, b3, b4⟩ := nZ h h2
 constructor
 ·rcases Nat.eq_zero_or_pos (bC (aX l) l) with h0 | h0
  ·have := CN (bit := aX l) (l := l) (by omega)
   simp only [h0] at this
   rw [b3] at this; cases this
  ·exact h0
 ·rcases Nat.lt_or_ge (bC (aX l) l) l.length with h0 | h0
  ·exact h0
  ·have := NS (bit := aX l) (l := l) (i := l.length - 1) (by omega) (by omega)
   rw [b4] at this; cases this
theorem nL {bit : Nat} {l : List Pr} {n : Nat} (hn : n ≤ l.length) (h1 : ∀ (i : Nat) (h : i < l.length), i < n → cY l[i].1 bit = false) (h2 : ∀ h : n < l.length, cY l[n].1 bit = true) : bC bit l = n := by
 rcases Nat.lt_trichotomy (bC bit l) n with h | h | h
 ·have := CN (bit := bit) (l := l) (by omega)
  rw [h1 _ _ h] at this; cases this
 ·exact h
 ·have hl := CL bit l
  have := NS (bit := bit) h (by omega)
  rw [h2 (by omega)] at this; cases this
theorem rP : ∀ (n m : Nat) (l : List Pr), KeysOk l → l.length ≤ n → l.length ≤ m → CM n l = CM m l
  | 0, 0, _, _, _, _ => rfl
  | 0, m + 1, [], _, _, _ => rfl
  | n + 1, 0, [], _, _, _ => rfl
  | n + 1, m + 1, [], _, _, _ => rfl
  | 0, _, _ :: _, _, h, _ => by simp at h
  | _, 0, _ :: _, _, _, h => by simp at h
  | n + 1, m + 1, [p], _, _, _ => rfl
  | n + 1, m + 1, p :: q :: l, hk, h1, h2 => by
    have hs := oF hk (by simp)
    unfold CM
    generalize hL : p :: q :: l = L at *
    have e1 : (L.take (bC (aX L) L)).length < L.length := by rw [List.length_take]; omega
    have e2 : (L.drop (bC (aX L) L)).length < L.length := by rw [List.length_drop]; omega
    rw [rP n m (L.take (bC (aX L) L)) (hk.sub (List.take_sublist _ _)) (by omega) (by omega), rP n m (L.drop (bC (aX L) L)) (hk.sub (List.drop_sublist _ _)) (by omega) (by omega)]
theorem VY (p : Pr) : dU [p] = NR p := rfl
theorem RB {l : List Pr} (h : KeysOk l) (h2 : 2 ≤ l.length) : dU l = CK (aX l) (dU (l.take (bC (aX l) l))) (dU (l.drop (bC (aX l) l))) := by
 have hs := oF h h2
 have e1 : (l.take (bC (aX l) l)).length < l.length := by rw [List.length_take]; omega
 have e2 : (l.drop (bC (aX l) l)).length < l.length := by rw [List.length_drop]; omega
 match l, h2 with
 | p :: q :: l, _ =>
  unfold dU
  rw [rP _ (l.length + 1) _ (h.sub (List.take_sublist _ _)) (Nat.le_refl _) (by simp at e1 ⊢; omega), rP _ (l.length + 1) _ (h.sub (List.drop_sublist _ _)) (Nat.le_refl _) (by simp at e2 ⊢; omega)]
  rfl
theorem uP (l : List Pr) : (dU l).length = 32 := by
 unfold dU
 have : ∀ n l, (CM n l).length = 32 := by
  intro n l
  match n, l with
  | 0, _ => exact rO _ _
  | _ + 1, [] => exact rO _ _
  | _ + 1, [p] => exact rO _ _
  | _ + 1, _ :: _ :: _ => exact rO _ _
 exact this _ _
theorem TreeOk.keys {n : Nat} {l : List Pr} (h : TreeOk n l) : KeysOk l := ⟨fun p hp => ⟨(h.ok p hp).1, (h.ok p hp).2.1⟩, h.rise⟩

structure Stp where
  bit : Nat
  right : Bool
  other : By
def qO (bit : Nat) (r : Bool) (l : List Pr) : List Pr := if r then l.drop (bC bit l) else l.take (bC bit l)
def kP : Nat → List Pr → By → List Stp × Pr
  | 0, l, _ => ([], l.headD ([], []))
  | n + 1, l, k => if l.length ≤ 1 then ([], l.headD ([], [])) else
    let q := kP n (qO (aX l) (cY k (aX l)) l) k
    (⟨aX l, cY k (aX l), dU (qO (aX l) (!cY k (aX l)) l)⟩ :: q.1, q.2)
def up1 (s : Stp) (d : By) : By := if s.right then CK s.bit s.other d else CK s.bit d s.other
structure Prf where
  empty : Bool
  steps : List Stp
  pair : Pr
def aV (l : List Pr) (k : By) : Prf := if l = [] then ⟨true, [], ([], [])⟩ else ⟨false, (kP l.length l k).1, (kP l.length l k).2⟩

def b8 (n : Nat) : UInt8 := UInt8.ofNat n
theorem mM {n : Nat} (h : n < 256) : (b8 n).toNat = n := by simp [b8]; omega
theorem TK (x : UInt8) : b8 x.toNat = x := by simp [b8]
def dK (p : By) : By := b8 p.length :: p
def kT (w : Wr) : By := dK w.name ++ (dK w.key ++ if w.gone then [255] else dK w.value)
def eQ (turn : Nat) (ws : List Wr) : By := b8 (turn / 65536) :: b8 (turn / 256) :: b8 turn :: b8 ws.length :: ws.flatMap kT
structure Rr where
  rest : By
  short : Bool
def CO (n : Nat) (r : Rr) : By × Rr := if r.short = true ∨ r.rest.length < n then (List.replicate n 0, ⟨r.rest, true⟩) else (r.rest.take n, ⟨r.rest.drop n, false⟩)
def wU (r : Rr) : Nat × Rr := (((CO 1 r).1.headD 0).toNat, (CO 1 r).2)
def TL (r : Rr) : By × Rr := CO (wU r).1 (wU r).2
def wrR (r : Rr) : Wr × Rr :=
  let a := TL r
  let b := TL a.2
  let c := wU b.2
  if c.1 = 255 then (⟨a.1, b.1, true, []⟩, c.2) else let d := CO c.1 c.2; (⟨a.1, b.1, false, d.1⟩, d.2)
def Dt : Nat → Rr → List Wr × Rr
  | 0, r => ([], r)
  | n + 1, r => let a := wrR r; let b := Dt n a.2; (a.1 :: b.1, b.2)
structure Reads {α : Type} (f : Rr → α × Rr) : Prop where
  more : ∀ b t, (f ⟨b, false⟩).2.short = false → f ⟨b ++ t, false⟩ = ((f ⟨b, false⟩).1, ⟨(f ⟨b, false⟩).2.rest ++ t, false⟩)
  short : ∀ r, r.short = true → (f r).2.short = true
theorem Reads.map {α β : Type} {f : Rr → α × Rr} (hf : Reads f) (g : α → β) : Reads fun r => (g (f r).1, (f r).2) := by
 refine ⟨fun b t h => ?_, fun r h => hf.short r h⟩
 rw [hf.more b t h]
set_option linter.unusedVariables false
def cmR (r : Rr) : (Nat × List Wr) × Rr :=
  let x := wU r
  let y := wU x.2
  let z := wU y.2
  let n := wU z.2
  let l := Dt n.1 n.2
  ((x.1 * 65536 + y.1 * 256 + z.1, l.1), l.2)
theorem HX (p t : By) : CO p.length ⟨p ++ t, false⟩ = (p, ⟨t, false⟩) := by unfold CO; simp
theorem rQ (x : UInt8) (t : By) : wU ⟨x :: t, false⟩ = (x.toNat, ⟨t, false⟩) := by unfold wU CO; simp
theorem HY (p t : By) (h : p.length < 256) : TL ⟨dK p ++ t, false⟩ = (p, ⟨t, false⟩) := by
 unfold TL dK
 rw [List.cons_append, rQ, mM h]
 exact HX p t
theorem Du (w : Wr) (t : By) (h : WrOk w) : wrR ⟨kT w ++ t, false⟩ = (w, ⟨t, false⟩) := by
 have h1 := h.name.2
 have h2 := h.key2
 have h3 := h.value
 unfold wrR kT
 simp only [List.append_assoc]
 rw [HY _ _ (by omega)]
 simp only
 rw [HY _ _ (by omega)]
 simp only
 cases hg : w.gone with
 | true =>
  simp only [if_true, List.cons_append, List.nil_append, rQ]
  rw [if_pos (show ((255 : UInt8).toNat = 255) from rfl)]
  have := h.gone hg
  cases w; simp_all
 | false =>
  simp only [Bool.false_eq_true, if_false, dK, List.cons_append, rQ]
  rw [mM (by omega), if_neg (by omega), HX]
  cases w; simp_all
theorem NT : ∀ (ws : List Wr) (t : By), (∀ w ∈ ws, WrOk w) → Dt ws.length ⟨ws.flatMap kT ++ t, false⟩ = (ws, ⟨t, false⟩)
  | [], t, _ => rfl
  | w :: ws, t, h => by
    simp only [List.length_cons, Dt, List.flatMap_cons, List.append_assoc]
    rw [Du w _ (h w (by simp))]
    simp only
    rw [NT ws t (fun x hx => h x (by simp [hx]))]
theorem Dv (turn : Nat) (ws : List Wr) (t : By) (h : ∀ w ∈ ws, WrOk w) (hl : ws.length < 256) (ht : turn < 16777216) : cmR ⟨eQ turn ws ++ t, false⟩ = ((turn, ws), ⟨t, false⟩) := by
 unfold cmR eQ
 simp only [List.cons_append, rQ]
 rw [mM hl, NT ws t h, mM (by omega)]
 have e1 : (b8 (turn / 256)).toNat = turn / 256 % 256 := by simp [b8]
 have e2 : (b8 turn).toNat = turn % 256 := by simp [b8]
 rw [e1, e2]
 congr 2
 omega
theorem VZ {w : Wr} (h : w.gone = true → w.value = []) : (kT w).length = 3 + w.name.length + w.key.length + w.value.length := by
 unfold kT dK
 cases hg : w.gone with
 | true => simp [h hg]; omega
 | false => simp; omega

def jC : By → Option (By × By)
  | [] => none
  | x :: t => if t.length < x.toNat then none else some (t.take x.toNat, t.drop x.toNat)
theorem rR (x : UInt8) (t : By) : jC (x :: t) = if t.length < x.toNat then none else some (t.take x.toNat, t.drop x.toNat) := rfl
def yT (c : Bool) (b : By) : Option (By × By) := if c then jC b else some ([], b)
structure Rq where
  name : By
  key : By
  last : By
  value : By
def oG (h : Nat) (b : By) : Option (Rq × By) :=
  match yT (h.testBit 0) b with
  | none => none
  | some n => match yT (h.testBit 1) n.2 with
    | none => none
    | some k => match yT (h.testBit 2) k.2 with
      | none => none
      | some l => match yT (h.testBit 3) l.2 with
        | none => none
        | some v => some (⟨n.1, k.1, l.1, v.1⟩, v.2)
def yU (c : Bool) (p : By) : By := if c then dK p else []
def JO (h : Nat) (r : Rq) : By := yU (h.testBit 0) r.name ++ (yU (h.testBit 1) r.key ++ (yU (h.testBit 2) r.last ++ yU (h.testBit 3) r.value))
theorem WA (p t : By) (h : p.length < 256) : jC (dK p ++ t) = some (p, t) := by
 unfold dK
 rw [List.cons_append, rR, mM h, if_neg (by simp)]
 simp
theorem wV {c : Bool} {p t : By} (h : p.length < 256) (hc : c = false → p = []) : yT c (yU c p ++ t) = some (p, t) := by
 unfold yT yU
 cases c with
 | true => exact WA p t h
 | false => rw [hc rfl]; rfl
structure FitsW (h : Nat) (r : Rq) : Prop where
  name : r.name.length < 256 ∧ (h.testBit 0 = false → r.name = [])
  key : r.key.length < 256 ∧ (h.testBit 1 = false → r.key = [])
  last : r.last.length < 256 ∧ (h.testBit 2 = false → r.last = [])
  value : r.value.length < 256 ∧ (h.testBit 3 = false → r.value = [])
theorem YW {h : Nat} {r : Rq} (hf : FitsW h r) (t : By) : oG h (JO h r ++ t) = some (r, t) := by
 unfold oG JO
 simp only [List.append_assoc]
 rw [wV hf.name.1 hf.name.2]; simp only
 rw [wV hf.key.1 hf.key.2]; simp only
 rw [wV hf.last.1 hf.last.2]; simp only
 rw [wV hf.value.1 hf.value.2]
theorem WB {b : By} {p : By × By} (h : jC b = some p) : b = dK p.1 ++ p.2 ∧ p.1.length < 256 := by
 cases b with
 | nil => cases h
 | cons x b =>
  rw [rR] at h
  by_cases hl : b.length < x.toNat
  ·rw [if_pos hl] at h; cases h
  ·rw [if_neg hl] at h
   cases h
   have hx := UInt8.toNat_lt x
   have e : (b.take x.toNat).length = x.toNat := by simp; omega
   unfold dK
   rw [e, TK]
   exact ⟨by simp, hx⟩
theorem wW {c : Bool} {b : By} {p : By × By} (h : yT c b = some p) : b = yU c p.1 ++ p.2 ∧ p.1.length < 256 ∧ (c = false → p.1 = []) := by
 unfold yT yU at *
 cases c with
 | true => obtain ⟨h1, h2⟩ := WB h; exact ⟨h1, h2, fun k => by cases k⟩
 | false => cases h; exact ⟨rfl, by simp, fun _ => rfl⟩
theorem YX {h : Nat} {b : By} {p : Rq × By} (e : oG h b = some p) : b = JO h p.1 ++ p.2 ∧ FitsW h p.1 := by
 unfold oG at e
 cases e0 : yT (h.testBit 0) b with
 | none => rw [e0] at e; cases e
 | some n =>
  rw [e0] at e; simp only at e
  cases e1 : yT (h.testBit 1) n.2 with
  | none => rw [e1] at e; cases e
  | some k =>
   rw [e1] at e; simp only at e
   cases e2 : yT (h.testBit 2) k.2 with
   | none => rw [e2] at e; cases e
   | some l =>
    rw [e2] at e; simp only at e
    cases e3 : yT (h.testBit 3) l.2 with
    | none => rw [e3] at e; cases e
    | some v =>
     rw [e3] at e; simp only at e
     cases e
     obtain ⟨i0, j0⟩ := wW e0
     obtain ⟨i1, j1⟩ := wW e1
     obtain ⟨i2, j2⟩ := wW e2
     obtain ⟨i3, j3⟩ := wW e3
     refine ⟨?_, j0, j1, j2, j3⟩
     unfold JO
     simp only [List.append_assoc]
     rw [← i3, ← i2, ← i1]
     exact i0

structure Cm where
  turn : Nat
  writes : List Wr
def tJ (f : aO) : List Cm → Option aO
  | [] => some f
  | c :: cs => match fW f c.writes with
    | some g => tJ g cs
    | none => none
def sQ (cs : List Cm) : Nat := (cs.map fun c => c.writes.length).sum
structure CmOk (c : Cm) : Prop where
  turn : 1 ≤ c.turn ∧ c.turn ≤ 1048576
  some : 1 ≤ c.writes.length ∧ c.writes.length ≤ 10
  ok : ∀ w ∈ c.writes, WrOk w
structure HistOk (m : Nat) (cs : List Cm) : Prop where
  turn : ∀ (i : Nat) (h : i < cs.length), cs[i].turn = i + 1
  ok : ∀ c ∈ cs, CmOk c
  size : sQ cs ≤ m
  fits : ∃ f, tJ [] cs = some f
theorem wX (f : aO) (a b : List Cm) : tJ f (a ++ b) = match tJ f a with | some g => tJ g b | none => none := by
 induction a generalizing f with
 | nil => rfl
 | cons c a ih =>
  simp only [List.cons_append, tJ]
  cases fW f c.writes with
  | none => rfl
  | some g => exact ih g
theorem rS (a b : List Cm) : sQ (a ++ b) = sQ a + sQ b := by simp [sQ]
def lE (cs : List Cm) (k : Nat) : aO := (tJ [] (cs.take k)).getD []
theorem CP {m : Nat} {cs : List Cm} (h : HistOk m cs) (k : Nat) : tJ [] (cs.take k) = some (lE cs k) := by
 obtain ⟨f, hf⟩ := h.fits
 rw [← List.take_append_drop k cs, wX] at hf
 unfold lE
 cases e : tJ [] (cs.take k) with
 | none => rw [e] at hf; cases hf
 | some g => rfl
theorem HistOk.take {m : Nat} {cs : List Cm} (h : HistOk m cs) (k : Nat) : HistOk m (cs.take k) := by
 refine ⟨fun i hi => by rw [List.getElem_take]; exact h.turn i _, fun c hc => h.ok c (List.mem_of_mem_take hc), ?_, ⟨_, CP h k⟩⟩
 have h2 := h.size
 rw [← List.take_append_drop k cs, rS] at h2
 omega
theorem CQ {cs : List Cm} {k n : Nat} (h : n ≤ k) : lE (cs.take k) n = lE cs n := by
 unfold lE; rw [List.take_take, Nat.min_eq_left h]
theorem HistOk.nil (m : Nat) : HistOk m [] := ⟨by simp, by simp, by simp [sQ], ⟨[], rfl⟩⟩
theorem HistOk.snoc {m n : Nat} {cs : List Cm} (h : HistOk m cs) {ws : List Wr} (hw : ∀ w ∈ ws, WrOk w) (h1 : 1 ≤ ws.length) (h2 : ws.length ≤ 10) (hm : m + ws.length ≤ n) (hl : cs.length < 1048576) {g : aO} (hg : fW (lE cs cs.length) ws = some g) :
    HistOk n (cs ++ [⟨cs.length + 1, ws⟩]) ∧ lE (cs ++ [⟨cs.length + 1, ws⟩]) (cs.length + 1) = g := by
 have hs := CP h cs.length
 rw [List.take_length] at hs
 have hf : tJ [] (cs ++ [⟨cs.length + 1, ws⟩]) = some g := by rw [wX, hs]; simp [tJ, hg]
 refine ⟨⟨fun i hi => ?_, fun c hc => ?_, ?_, ⟨g, hf⟩⟩, ?_⟩
 ·rw [List.getElem_append]
  split
  ·rename_i h'; exact h.turn i h'
  ·have : i = cs.length := by simp at hi; omega
   subst this; simp
 ·rcases List.mem_append.1 hc with hc | hc
  ·exact h.ok c hc
  ·rw [List.mem_singleton.1 hc]; exact ⟨⟨by simp, by simp; omega⟩, ⟨h1, h2⟩, hw⟩
 ·rw [rS]; have := h.size; simp [sQ] at *; omega
 ·unfold lE
  rw [List.take_of_length_le (by simp), hf]; rfl
def oH (start : Int) (rs : List Rd) (cs : List Cm) : Bool := cs.any fun c => decide (start < c.turn) && c.writes.any fun w => rs.any fun r => eL r w

theorem Gr.grown {w w1 w2 : World} {F F1 : Fz} {row : Option Nat} (h : Gr w F w1 F1) (hg : w1.grownBy w2 row) (hr : ∀ g, row = some g → w.heap.size ≤ g ∧ F1 g = none) : Gr w F w2 F1 :=
  ⟨h.below.grown hg h.below.size (fun k hk => (hr k hk).1), h.old, h.sat.grown hg (fun k hk => (hr k hk).2)⟩
theorem Gr.none {w w' : World} {F F' : Fz} (h : Gr w F w' F') {g : Nat} (hg : g < w.heap.size) (hn : F g = none) : F' g = none := by rw [h.old g hg]; exact hn
structure Own {α : Type} (k : Nat) (R : Fz → List Value → α → Prop) (E base : Nat) (w : World) (F : Fz) (v : Value) (l : List α) : Prop where
  ex : ∃ el : List (List Value), w.ownsRow base E k v l.length el.flatten ∧ AllR (R F) el l ∧ ∀ x ∈ el, x.length = k
  out : ∀ g, v.ownBlock = some g → F g = none
section
variable {α : Type} {k E base : Nat} {R : Fz → List Value → α → Prop} {w w' : World} {F F' : Fz} {v : Value} {l : List α}
theorem Own.nil (w : World) (F : Fz) : Own k R E base w F (.slice none 0 0) [] := ⟨⟨[], World.ownsRow_nil w base E k, trivial, by simp⟩, fun g h => by cases h⟩
theorem Own.lt (h : Own k R E base w F v l) : ∀ g, v.ownBlock = some g → base ≤ g ∧ g < w.heap.size := by
 obtain ⟨el, h1, _⟩ := h.ex
 exact h1.lt
theorem Own.shape (h : Own k R E base w F v l) : ∃ a c, v = .slice a l.length c ∧ l.length ≤ c ∧ c ≤ maxLen := by
 obtain ⟨el, ⟨_, h2⟩, _⟩ := h.ex
 rcases h2 with ⟨rfl, h0⟩ | ⟨g, cap, cur, rfl, _, _, h3, h4, _⟩
 ·exact ⟨none, 0, by rw [h0], by omega, Nat.zero_le _⟩
 ·exact ⟨_, cap, rfl, h3, h4⟩
theorem Own.mono (hR : ∀ F F' x p, Le F F' → R F x p → R F' x p) (h : Own k R E base w F v l) (hl : Le F F') (ho : ∀ g, v.ownBlock = some g → F' g = none) : Own k R E base w F' v l := by
 obtain ⟨el, h1, h2, h3⟩ := h.ex
 exact ⟨⟨el, h1, h2.imp fun x p => hR _ _ x p hl, h3⟩, ho⟩
theorem Own.gr (hR : ∀ F F' x p, Le F F' → R F x p → R F' x p) (h : Own k R E base w F v l) (hs : Sat w F) (g : Gr w F w' F') : Own k R E base w' F' v l := by
 obtain ⟨el, h1, h2, h3⟩ := h.ex
 have hlt := h1.lt
 refine ⟨⟨el, ?_, h2.imp fun x p => hR _ _ x p (g.le hs), h3⟩, fun b hb => g.none (hlt b hb).2 (h.out b hb)⟩
 obtain ⟨e1, e2⟩ := h1
 refine ⟨e1, e2.imp id ?_⟩
 rintro ⟨b, cap, cur, q1, q2, q3, q4⟩
 subst q1
 exact ⟨b, cap, cur, rfl, q2, (g.below.block b (hlt b rfl).2).trans q3, q4⟩
theorem Own.alloc (h : Own k R E base w F v l) (o : Obj) : Own k R E base (w.alloc o) F v l := by
 obtain ⟨el, h1, h2, h3⟩ := h.ex
 exact ⟨⟨el, h1.alloc o, h2, h3⟩, h.out⟩
theorem Own.drew (h : Own k R E base w F v l) : Own k R E base w.drew F v l := ⟨h.ex, h.out⟩
theorem Own.set (h : Own k R E base w F v l) (a : Addr) (u : Value) (ha : v.ownBlock ≠ some a.block) : Own k R E base (w.setCell a u) F v l := by
 obtain ⟨el, ⟨e1, e2⟩, h2, h3⟩ := h.ex
 refine ⟨⟨el, ⟨e1, e2.imp id ?_⟩, h2, h3⟩, h.out⟩
 rintro ⟨b, cap, cur, q1, q2, q3, q4⟩
 subst q1
 exact ⟨b, cap, cur, rfl, q2, GB q3 (fun e => ha (by rw [e]; rfl)) u, q4⟩
theorem Own.rebase {base' : Nat} (h : Own k R E base w F v l) (hb : ∀ g, v.ownBlock = some g → base' ≤ g) : Own k R E base' w F v l := by
 obtain ⟨el, ⟨e1, e2⟩, h2, h3⟩ := h.ex
 refine ⟨⟨el, ⟨e1, e2.imp id ?_⟩, h2, h3⟩, h.out⟩
 rintro ⟨b, cap, cur, q1, q2, q3, q4⟩
 subst q1
 exact ⟨b, cap, cur, rfl, hb b rfl, q3, q4⟩
theorem CR {xs : List Value} {n : Nat} (h : w.ownsRow base E k v n xs) (hs : Sat w F) : ∃ g, Rw (addF F w g) v n xs ∧ (base ≤ g ∨ addF F w g = F) := by
 obtain ⟨g, q1, q2⟩ := Rw.of_owns h hs
 rcases q2 with rfl | q2
 ·obtain ⟨e1, ⟨_, e2⟩ | ⟨_, _, _, e2, _⟩⟩ := h
  ·subst e2
   have : xs = [] := List.eq_nil_of_length_eq_zero (by simpa using e1)
   subst this
   refine ⟨w.heap.size, Rw.nil _, .inr ?_⟩
   funext b
   unfold addF
   cases hb : F b with
   | none =>
    simp only []
    split
    ·rename_i e; subst e; simp
    ·rfl
   | some o => rfl
  ·cases e2
 ·exact ⟨g, q1, .inl q2⟩
theorem Own.freeze (hR : ∀ F F' x p, Le F F' → R F x p → R F' x p) {w0 : World} {F0 : Fz} (h : Own k R E base w F v l) (g : Gr w0 F0 w F) (hb : w0.heap.size ≤ base) : ∃ F', Gr w0 F0 w F' ∧ Le F F' ∧ Sl k R F' v l := by
 obtain ⟨el, h1, h2, h3⟩ := h.ex
 obtain ⟨b, q1, q2⟩ := CR h1 g.sat
 have hle : Le F (addF F w b) := fun b' o hb' => rI _ _ _ _ _ hb'
 refine ⟨_, ?_, hle, el, q1, h2.imp fun x p => hR _ _ x p hle, h3⟩
 rcases q2 with q2 | q2
 ·exact g.add (Nat.le_trans hb q2)
 ·rw [q2]; exact g
theorem Own.peek (hR : ∀ F F' x p, Le F F' → R F x p → R F' x p) (h : Own k R E base w F v l) (hs : Sat w F) : ∃ F', Sat w F' ∧ Le F F' ∧ Sl k R F' v l := by
 obtain ⟨el, h1, h2, h3⟩ := h.ex
 obtain ⟨b, q1, q2⟩ := CR h1 hs
 have hle : Le F (addF F w b) := fun b' o hb' => rI _ _ _ _ _ hb'
 exact ⟨_, hs.addF b, hle, el, q1, h2.imp fun x p => hR _ _ x p hle, h3⟩
end
def PrC (F : Fz) (cs : List Value) (p : List UInt8 × List UInt8) : Prop := ∃ a b, cs = [a, b] ∧ Bs F a p.1 ∧ Bs F b p.2
theorem PrC.mono (F F' : Fz) (x : List Value) (p : List UInt8 × List UInt8) (hl : Le F F') (h : PrC F x p) : PrC F' x p := by
 obtain ⟨a, b, h1, h2, h3⟩ := h
 exact ⟨a, b, h1, h2.mono hl, h3.mono hl⟩
abbrev Prs (F : Fz) (v : Value) (l : List (List UInt8 × List UInt8)) : Prop := Sl 2 PrC F v l
theorem Bs.oneCell {F : Fz} {v : Value} {l : List UInt8} (h : Bs F v l) : v.oneCell' = true := by
 obtain ⟨a, c, rfl, _⟩ := h.shape; rfl
theorem PrC.oneCell {F : Fz} {cs : List Value} {p : List UInt8 × List UInt8} (h : PrC F cs p) : ∀ u ∈ cs, u.oneCell' = true := by
 obtain ⟨a, b, rfl, h2, h3⟩ := h
 intro u hu
 rcases List.mem_cons.1 hu with rfl | hu
 ·exact h2.oneCell
 ·rw [List.mem_singleton.1 hu]; exact h3.oneCell
theorem Prs.at {F : Fz} {a : Option Addr} {n c : Nat} {l : List (List UInt8 × List UInt8)} (h : Prs F (.slice a n c) l) (hn : 0 < n) :
    ∃ b o, a = some ⟨b, o, none⟩ ∧ ∀ (i : Nat) (hi : i < l.length), ∃ x y, bM F b (o + i * 2) = some x ∧ bM F b (o + i * 2 + 1) = some y ∧ Bs F x l[i].1 ∧ Bs F y l[i].2 := by
 obtain ⟨b, o, e, h1⟩ := Sl.at h (by omega) hn
 refine ⟨b, o, e, fun i hi => ?_⟩
 obtain ⟨cs, q1, ⟨x, y, rfl, q2, q3⟩, q4⟩ := h1 i hi
 refine ⟨x, y, ?_, ?_, q2, q3⟩
 ·have := q4 0 (by simp); simpa using this
 ·have := q4 1 (by simp); simpa [Nat.add_assoc] using this
theorem Sl.len {α : Type} {k : Nat} {R : Fz → List Value → α → Prop} {F : Fz} {a : Option Addr} {n c : Nat} {l : List α} (h : Sl k R F (.slice a n c) l) : n = l.length := by
 obtain ⟨a', c', h1, _⟩ := h.shape
 cases h1; rfl

structure Blk where
  n : Nat
  c : List Value
  t : TypeId
structure RowP where
  ob : Option Nat
  holds : World → Fz → Prop
  stable : ∀ w w' F F', holds w F → (∀ g, ob = some g → w'.heap[g]? = w.heap[g]?) → Le F F' → (∀ g, ob = some g → F' g = none) → holds w' F'
structure St (w0 : World) (F0 : Fz) (w : World) (F : Fz) (L : List Blk) (M : List RowP) : Prop where
  gr : Gr w0 F0 w F
  blk : ∀ x ∈ L, w.heap[x.n]? = some (.cells x.c.toArray x.t (0, 0)) ∧ F x.n = none ∧ w0.heap.size ≤ x.n
  row : ∀ r ∈ M, r.holds w F ∧ ∀ g, r.ob = some g → g < w.heap.size ∧ F g = none ∧ w0.heap.size ≤ g
  bb : L.Pairwise fun x y => x.n ≠ y.n
  rb : ∀ r ∈ M, ∀ x ∈ L, r.ob ≠ some x.n
  rr : M.Pairwise fun r s => ∀ g, r.ob = some g → s.ob ≠ some g
section
variable {w0 w w' : World} {F0 F F' : Fz} {L : List Blk} {M : List RowP}
theorem St.sat (S : St w0 F0 w F L M) : Sat w F := S.gr.sat
theorem St.start (hs : Sat w F) : St w F w F [] [] := ⟨Gr.refl hs, by simp, by simp, by simp, by simp, by simp⟩
theorem St.blk_lt (S : St w0 F0 w F L M) {x : Blk} (h : x ∈ L) : x.n < w.heap.size := (Array.getElem?_eq_some_iff.1 (S.blk x h).1).1
theorem St.mem {i : Nat} {x : Blk} (h : L[i]? = some x) : x ∈ L := by obtain ⟨h1, rfl⟩ := List.getElem?_eq_some_iff.1 h; exact List.getElem_mem h1
theorem St.cell (S : St w0 F0 w F L M) {i : Nat} {n : Nat} {c : List Value} {t : TypeId} (h : L[i]? = some ⟨n, c, t⟩) {j : Nat} {v : Value} (hv : c[j]? = some v) : w.cell? ⟨n, j, none⟩ = some v := by
 have := (S.blk _ (St.mem h)).1
 simp only at this
 simp [World.cell?, this, hv]
theorem St.range (S : St w0 F0 w F L M) {i : Nat} {n : Nat} {c : List Value} {t : TypeId} (h : L[i]? = some ⟨n, c, t⟩) (j : Nat) (cs : List Value) (hv : ∀ (k : Nat) v, cs[k]? = some v → c[j + k]? = some v) : w.rangeAt n j cs := fun k v hk => S.cell h (hv k v hk)
theorem St.fz (S : St w0 F0 w F L M) {b o : Nat} {v : Value} (h : bM F b o = some v) : w.cell? ⟨b, o, none⟩ = some v := S.sat.cell h
theorem St.gives (S : St w0 F0 w F L M) (g : Gr w F w' F') : St w0 F0 w' F' L M :=
  ⟨S.gr.trans g, fun x hx => ⟨(g.below.block _ (S.blk_lt hx)).trans (S.blk x hx).1, g.none (S.blk_lt hx) (S.blk x hx).2.1, (S.blk x hx).2.2⟩,
    fun r hr => ⟨r.stable _ _ _ _ (S.row r hr).1 (fun b hb => g.below.block _ ((S.row r hr).2 b hb).1) (g.le S.sat) (fun b hb => g.none ((S.row r hr).2 b hb).1 ((S.row r hr).2 b hb).2.1),
      fun b hb => ⟨Nat.lt_of_lt_of_le ((S.row r hr).2 b hb).1 g.below.size, g.none ((S.row r hr).2 b hb).1 ((S.row r hr).2 b hb).2.1, ((S.row r hr).2 b hb).2.2⟩⟩, S.bb, S.rb, S.rr⟩
theorem St.tells (S : St w0 F0 w F L M) (h : Below w.heap.size w w') : St w0 F0 w' F L M := S.gives (Gr.of_below S.sat h)
theorem St.alloc (S : St w0 F0 w F L M) (cs : Array Value) (T : TypeId) : St w0 F0 (w.alloc (.cells cs T)) F (⟨w.heap.size, cs.toList, T⟩ :: L) M := by
 have S' := S.gives ((Gr.refl S.sat).new (.cells cs T))
 refine ⟨S'.gr, fun x hx => ?_, S'.row, ?_, fun r hr x hx => ?_, S.rr⟩
 ·rcases List.mem_cons.1 hx with rfl | hx
  ·exact ⟨MZ w _ rfl, S.sat.out (Nat.le_refl _), S.gr.below.size⟩
  ·exact S'.blk x hx
 ·refine List.pairwise_cons.2 ⟨fun y hy => ?_, S.bb⟩
  have := S.blk_lt hy
  simp only
  omega
 ·rcases List.mem_cons.1 hx with rfl | hx
  ·intro e
   have := ((S.row r hr).2 _ e).1
   simp at this
  ·exact S.rb r hr x hx
def cA (c : List Value) (j : Nat) (vs : List Value) : List Value := c.take j ++ vs ++ c.drop (j + vs.length)
theorem cI {c vs : List Value} {j : Nat} (h : j + vs.length ≤ c.length) : (cA c j vs).length = c.length := by unfold cA; simp; omega
theorem mG {n : Nat} {T : TypeId} {fr : Nat × Nat} : ∀ (vs : List Value) (j : Nat) (w : World) (c : List Value), w.heap[n]? = some (.cells c.toArray T fr) → j + vs.length ≤ c.length → (w.setCells n j vs).heap[n]? = some (.cells (cA c j vs).toArray T fr)
  | [], j, w, c, h, _ => by simp [World.setCells, cA, h]
  | v :: vs, j, w, c, h, hl => by
    simp only [List.length_cons] at hl
    have h1 : (w.setCell ⟨n, j, none⟩ v).heap[n]? = some (.cells (c.set j v).toArray T fr) := by
      rw [NB h]; simp
    have h2 := mG vs (j + 1) (w.setCell ⟨n, j, none⟩ v) (c.set j v) h1 (by simp; omega)
    simp only [World.setCells]
    rw [h2]
    have e : cA (c.set j v) (j + 1) vs = cA c j (v :: vs) := ?_
    · rw [e]
    unfold cA
    apply List.ext_getElem?
    intro m
    simp only [List.getElem?_append, List.getElem?_take, List.length_take, List.length_set, List.length_append, List.getElem?_drop, List.length_cons, List.getElem?_set, List.getElem?_cons]
    grind
theorem gK {n : Nat} : ∀ (vs : List Value) (j : Nat) (w : World) {b : Nat}, b ≠ n → (w.setCells n j vs).heap[b]? = w.heap[b]?
  | [], _, _, _, _ => rfl
  | v :: vs, j, w, b, h => by
    simp only [World.setCells]
    rw [gK vs (j + 1) _ h]
    exact Below.heap_setCell w _ v b h
theorem lF {B n : Nat} (hB : B ≤ n) : ∀ (vs : List Value) (j : Nat) (a w : World), Below B a w → Below B a (w.setCells n j vs)
  | [], _, _, _, h => h
  | v :: vs, j, a, w, h => lF hB vs (j + 1) a _ (h.setCell hB v)
theorem vN {n : Nat} : ∀ (vs : List Value) (j : Nat) (w : World), (w.setCells n j vs).heap.size = w.heap.size
  | [], _, _ => rfl
  | v :: vs, j, w => by simp only [World.setCells]; rw [vN vs]; simp
theorem wY {n : Nat} (hn : F n = none) : ∀ (vs : List Value) (j : Nat) (w : World), Sat w F → Sat (w.setCells n j vs) F
  | [], _, _, h => h
  | v :: vs, j, w, h => wY hn vs (j + 1) _ (h.setCell hn v)
theorem St.store (S : St w0 F0 w F L M) {i n : Nat} {c : List Value} {t : TypeId} (h : L[i]? = some ⟨n, c, t⟩) (j : Nat) (vs : List Value) (hl : j + vs.length ≤ c.length) : St w0 F0 (w.setCells n j vs) F (L.set i ⟨n, cA c j vs, t⟩) M := by
 obtain ⟨hi, he⟩ := List.getElem?_eq_some_iff.1 h
 obtain ⟨b1, b2, b3⟩ := S.blk _ (St.mem h)
 simp only at b1 b2 b3
 have hne : ∀ k (hk : k < L.length), k ≠ i → L[k].n ≠ n := by
  intro k hk hki
  have hp := List.pairwise_iff_getElem.1 S.bb
  rcases Nat.lt_or_gt_of_ne hki with h1 | h1
  ·have := hp k i hk hi h1; rw [he] at this; exact this
  ·have := hp i k hi hk h1; rw [he] at this; exact this.symm
 refine ⟨⟨lF b3 vs j _ _ S.gr.below, S.gr.old, wY b2 vs j w S.sat⟩, fun x hx => ?_, fun r hr => ?_, ?_, fun r hr x hx => ?_, S.rr⟩
 ·obtain ⟨k, hk, rfl⟩ := List.mem_iff_getElem.1 hx
  rw [List.getElem_set]
  split
  ·exact ⟨mG vs j w c b1 hl, b2, b3⟩
  ·rename_i hki
   have hk' : k < L.length := by simpa using hk
   have := S.blk _ (List.getElem_mem hk')
   exact ⟨(gK vs j w (hne k hk' (fun e => hki e.symm))).trans this.1, this.2⟩
 ·have hr1 := S.row r hr
  have hn : ∀ g, r.ob = some g → g ≠ n := fun g hg e => S.rb r hr _ (St.mem h) (by rw [hg, e])
  exact ⟨r.stable _ _ _ _ hr1.1 (fun g hg => gK vs j w (hn g hg)) (Le.refl _) (fun g hg => (hr1.2 g hg).2.1), fun g hg => ⟨by rw [vN]; exact (hr1.2 g hg).1, (hr1.2 g hg).2⟩⟩
 ·refine List.pairwise_iff_getElem.2 fun k m hk hm hkm => ?_
  have hk' : k < L.length := by simpa using hk
  have hm' : m < L.length := by simpa using hm
  have hp := List.pairwise_iff_getElem.1 S.bb k m hk' hm' hkm
  rw [List.getElem_set, List.getElem_set]
  split
  ·split
   ·omega
   ·exact (hne m hm' (by omega)).symm
  ·split
   ·exact hne k hk' (by omega)
   ·exact hp
 ·obtain ⟨k, hk, rfl⟩ := List.mem_iff_getElem.1 hx
  have hk' : k < L.length := by simpa using hk
  rw [List.getElem_set]
  split
  ·exact S.rb r hr ⟨n, c, t⟩ (St.mem h)
  ·exact S.rb r hr _ (List.getElem_mem hk')
theorem St.there (S : St w0 F0 w F L M) {i n : Nat} {c : List Value} {t : TypeId} (h : L[i]? = some ⟨n, c, t⟩) (j k : Nat) (hl : j + k ≤ c.length) : w.there n j k := fun m hm => by
  have := (S.blk _ (St.mem h)).1
  simp only at this
  have hm' : j + m < c.length := by omega
  exact ⟨by simp [World.cell?, this, hm'], by simp [World.frozen?, this]⟩
theorem St.drop (S : St w0 F0 w F L M) {L' : List Blk} (h : L'.Sublist L) : St w0 F0 w F L' M := ⟨S.gr, fun x hx => S.blk x (h.subset hx), S.row, S.bb.sublist h, fun r hr x hx => S.rb r hr x (h.subset hx), S.rr⟩
theorem St.dropRow (S : St w0 F0 w F L M) {M' : List RowP} (h : M'.Sublist M) : St w0 F0 w F L M' := ⟨S.gr, S.blk, fun x hx => S.row x (h.subset hx), S.bb, fun r hr => S.rb r (h.subset hr), S.rr.sublist h⟩
theorem St.freezeBlk (S : St w0 F0 w F L M) {i n : Nat} {c : List Value} {t : TypeId} (h : L[i]? = some ⟨n, c, t⟩) : St w0 F0 w (addF F w n) (L.eraseIdx i) M ∧ Le F (addF F w n) ∧ ∀ j v, c[j]? = some v → bM (addF F w n) n j = some v := by
 obtain ⟨hi, he⟩ := List.getElem?_eq_some_iff.1 h
 obtain ⟨b1, b2, b3⟩ := S.blk _ (St.mem h)
 simp only at b1 b2 b3
 have hsub := List.eraseIdx_sublist L i
 have hne : ∀ x ∈ L.eraseIdx i, x.n ≠ n := by
  intro x hx
  obtain ⟨k, hk, rfl⟩ := List.mem_iff_getElem.1 hx
  have hp := List.pairwise_iff_getElem.1 S.bb
  rw [List.length_eraseIdx] at hk
  rw [List.getElem_eraseIdx]
  split
  ·rename_i hlt
   have := hp k i (by omega) hi hlt
   rw [he] at this; exact this
  ·rename_i hge
   rw [if_pos hi] at hk
   have := hp i (k + 1) hi (by omega) (by omega)
   rw [he] at this; exact this.symm
 have hle : Le F (addF F w n) := fun b o hb => rI _ _ _ _ _ hb
 refine ⟨⟨S.gr.add b3, fun x hx => ?_, fun r hr => ?_, S.bb.sublist hsub, fun r hr x hx => S.rb r hr x (hsub.subset hx), S.rr⟩, hle, fun j v hv => ?_⟩
 ·have := S.blk x (hsub.subset hx)
  exact ⟨this.1, by rw [qG (hne x hx)]; exact this.2.1, this.2.2⟩
 ·have hr1 := S.row r hr
  have hn : ∀ g, r.ob = some g → addF F w n g = none := fun g hg => by
   rw [qG (fun e => S.rb r hr _ (St.mem h) (by rw [hg, e]))]
   exact (hr1.2 g hg).2.1
  exact ⟨r.stable _ _ _ _ hr1.1 (fun _ _ => rfl) hle hn, fun g hg => ⟨(hr1.2 g hg).1, hn g hg, (hr1.2 g hg).2.2⟩⟩
 ·unfold bM addF
  simp [b2, b1, hv]
end
def bZ {α : Type} (k : Nat) (R : Fz → List Value → α → Prop) (hR : ∀ F F' x p, Le F F' → R F x p → R F' x p) (E base : Nat) (v : Value) (l : List α) : RowP where
  ob := v.ownBlock
  holds w F := Own k R E base w F v l
  stable := by
    intro w w' F F' h hh hl hn
    obtain ⟨el, ⟨e1, e2⟩, h2, h3⟩ := h.ex
    refine ⟨⟨el, ⟨e1, e2.imp id ?_⟩, h2.imp fun x p => hR _ _ x p hl, h3⟩, hn⟩
    rintro ⟨b, cap, cur, q1, q2, q3, q4⟩
    subst q1
    exact ⟨b, cap, cur, rfl, q2, (hh b rfl).trans q3, q4⟩
section
variable {w0 w w' : World} {F0 F F' : Fz} {L : List Blk} {M : List RowP} {α : Type} {k E base : Nat} {R : Fz → List Value → α → Prop} {hR : ∀ F F' x p, Le F F' → R F x p → R F' x p} {v : Value} {l : List α}
theorem St.own (S : St w0 F0 w F L M) {i : Nat} (h : M[i]? = some (bZ k R hR E base v l)) : Own k R E base w F v l := by
 obtain ⟨h1, h2⟩ := List.getElem?_eq_some_iff.1 h
 have := (S.row _ (List.getElem_mem h1)).1
 rw [h2] at this
 exact this
theorem St.addNil (S : St w0 F0 w F L M) (k : Nat) (R : Fz → List Value → α → Prop) (hR : ∀ F F' x p, Le F F' → R F x p → R F' x p) (E base : Nat) : St w0 F0 w F L (bZ k R hR E base (.slice none 0 0) [] :: M) :=
  ⟨S.gr, S.blk, fun r hr => by
    rcases List.mem_cons.1 hr with rfl | hr
    · exact ⟨Own.nil w F, fun g hg => by cases hg⟩
    · exact S.row r hr, S.bb, fun r hr x hx => by
    rcases List.mem_cons.1 hr with rfl | hr
    · intro h
      cases h
    · exact S.rb r hr x hx, List.pairwise_cons.2 ⟨fun s _ g hg => (by cases hg), S.rr⟩⟩
theorem yV {M : List RowP} {i : Nat} {r' : RowP} (h : M.Pairwise fun r s => ∀ g, r.ob = some g → s.ob ≠ some g) (hi : ∀ k (hk : k < M.length), k ≠ i → ∀ g, r'.ob = some g → M[k].ob ≠ some g) : (M.set i r').Pairwise fun r s => ∀ g, r.ob = some g → s.ob ≠ some g := by
 rw [List.pairwise_iff_getElem] at h ⊢
 intro a b ha hb hab
 simp only [List.length_set] at ha hb
 rw [List.getElem_set, List.getElem_set]
 split
 ·split
  ·omega
  ·intro g hg; exact hi b hb (by omega) g hg
 ·split
  ·intro g hg hg'; exact hi a ha (by omega) g hg' hg
  ·exact h a b ha hb hab
theorem St.grown (S : St w0 F0 w F L M) {i : Nat} (h : M[i]? = some (bZ k R hR E base v l)) (hb : w0.heap.size ≤ base) {v' : Value} {l' : List α} (hg : w.grownBy w' v.ownBlock) (ho : Own k R E base w' F v' l') (hf : ∀ g, v'.ownBlock = some g → v.ownBlock = some g ∨ w.heap.size ≤ g) : St w0 F0 w' F L (M.set i (bZ k R hR E base v' l')) := by
 obtain ⟨hi, he⟩ := List.getElem?_eq_some_iff.1 h
 have hm : bZ k R hR E base v l ∈ M := by rw [← he]; exact List.getElem_mem hi
 have hown := S.own h
 have hr0 := S.row _ hm
 have hlt := ho.lt
 have hother : ∀ k' (hk : k' < M.length), k' ≠ i → ∀ g, v'.ownBlock = some g → M[k'].ob ≠ some g := by
  intro k' hk hne g hg' hc
  rcases hf g hg' with h1 | h1
  ·have hp := List.pairwise_iff_getElem.1 S.rr
   rcases Nat.lt_or_gt_of_ne hne with h2 | h2
   ·have := hp k' i hk hi h2 g hc; rw [he] at this; exact this h1
   ·have := hp i k' hi hk h2 g (by rw [he]; exact h1); exact this hc
  ·have := ((S.row _ (List.getElem_mem hk)).2 g hc).1
   omega
 refine ⟨S.gr.grown hg (fun g hg' => ⟨(hr0.2 g hg').2.2, (hr0.2 g hg').2.1⟩), fun x hx => ?_, fun r hr => ?_, S.bb, fun r hr x hx => ?_, yV S.rr hother⟩
 ·have := S.blk x hx
  have hne : v.ownBlock ≠ some x.n := S.rb _ hm x hx
  exact ⟨(hg.block _ (S.blk_lt hx) (fun e => hne e.symm)).trans this.1, this.2⟩
 ·obtain ⟨k', hk, rfl⟩ := List.mem_iff_getElem.1 hr
  have hk' : k' < M.length := by simpa using hk
  rw [List.getElem_set]
  split
  ·refine ⟨ho, fun g hg' => ⟨(hlt g hg').2, ho.out g hg', Nat.le_trans hb (hlt g hg').1⟩⟩
  ·rename_i hki
   have hr1 := S.row _ (List.getElem_mem hk')
   have hne : ∀ g, M[k'].ob = some g → v.ownBlock ≠ some g := fun g hg' hv => by
    have hp := List.pairwise_iff_getElem.1 S.rr
    rcases Nat.lt_or_gt_of_ne (fun e => hki e.symm : k' ≠ i) with h2 | h2
    ·have := hp k' i hk' hi h2 g hg'; rw [he] at this; exact this hv
    ·have := hp i k' hi hk' h2 g (by rw [he]; exact hv); exact this hg'
   exact ⟨RowP.stable _ _ _ _ _ hr1.1 (fun g hg' => hg.block _ (hr1.2 g hg').1 (fun e => hne g hg' e.symm)) (Le.refl _) (fun g hg' => (hr1.2 g hg').2.1), fun g hg' => ⟨Nat.lt_of_lt_of_le (hr1.2 g hg').1 hg.size, (hr1.2 g hg').2⟩⟩
 ·obtain ⟨k', hk, rfl⟩ := List.mem_iff_getElem.1 hr
  have hk' : k' < M.length := by simpa using hk
  rw [List.getElem_set]
  split
  ·intro e
   rcases hf x.n e with h1 | h1
   ·exact S.rb _ hm x hx h1
   ·have := S.blk_lt hx; omega
  ·exact S.rb _ (List.getElem_mem hk') x hx
theorem St.freeze (S : St w0 F0 w F L M) {i : Nat} (h : M[i]? = some (bZ k R hR E base v l)) (hb : w0.heap.size ≤ base) : ∃ F', St w0 F0 w F' L (M.eraseIdx i) ∧ Le F F' ∧ Sl k R F' v l := by
 obtain ⟨hi, he⟩ := List.getElem?_eq_some_iff.1 h
 have hm : bZ k R hR E base v l ∈ M := by rw [← he]; exact List.getElem_mem hi
 have hown := S.own h
 obtain ⟨el, h1, h2, h3⟩ := hown.ex
 have hsub := List.eraseIdx_sublist M i
 have hother : ∀ r ∈ M.eraseIdx i, ∀ g, v.ownBlock = some g → r.ob ≠ some g := by
  intro r hr g hg hc
  obtain ⟨k', hk, rfl⟩ := List.mem_iff_getElem.1 hr
  have hp := List.pairwise_iff_getElem.1 S.rr
  rw [List.length_eraseIdx, if_pos hi] at hk
  rw [List.getElem_eraseIdx] at hc
  split at hc
  ·rename_i hlt
   have := hp k' i (by omega) hi hlt g hc; rw [he] at this; exact this hg
  ·have := hp i (k' + 1) hi (by omega) (by omega) g (by rw [he]; exact hg); exact this hc
 rcases h1.2 with ⟨hv, hn⟩ | ⟨g, cap, cur, hv, q2, q3, q4⟩
 ·have hl : l = [] := List.eq_nil_of_length_eq_zero hn
  subst hl
  subst hv
  exact ⟨F, ⟨S.gr, S.blk, fun r hr => S.row r (hsub.subset hr), S.bb, fun r hr => S.rb r (hsub.subset hr), S.rr.sublist hsub⟩, Le.refl _, Sl.nil k R F⟩
 ·have hle : Le F (addF F w g) := fun b o hb => rI _ _ _ _ _ hb
  have hr0 := (S.row _ hm).2 g (by show v.ownBlock = _; rw [hv]; rfl)
  have hF : addF F w g g = some (.cells cur E (0, 0)) := by unfold addF; rw [hr0.2.1]; simp [q3]
  refine ⟨addF F w g, ⟨S.gr.add hr0.2.2, fun x hx => ?_, fun r hr => ?_, S.bb, fun r hr => S.rb r (hsub.subset hr), S.rr.sublist hsub⟩, hle, el, ?_, h2.imp fun x p => hR _ _ x p hle, h3⟩
  ·have := S.blk x hx
   have hne : x.n ≠ g := fun e => S.rb _ hm x hx (by show v.ownBlock = _; rw [hv, e]; rfl)
   exact ⟨this.1, by rw [qG hne]; exact this.2.1, this.2.2⟩
  ·have hr1 := S.row r (hsub.subset hr)
   have hn : ∀ b, r.ob = some b → addF F w g b = none := fun b hb' => by
    rw [qG (fun e => hother r hr g (by rw [hv]; rfl) (by rw [hb', e]))]
    exact (hr1.2 b hb').2.1
   exact ⟨r.stable _ _ _ _ hr1.1 (fun _ _ => rfl) hle hn, fun b hb' => ⟨(hr1.2 b hb').1, hn b hb', (hr1.2 b hb').2.2⟩⟩
  ·subst hv
   refine Rw.of_cells q4.1 q4.2.1 fun j u hu => ?_
   rw [← q4.2.2.2, List.getElem?_take] at hu
   split at hu
   ·unfold bM; rw [hF, Nat.zero_add]; simpa using hu
   ·cases hu
end
structure WL (P : Program) (ops : Array Oper) (Q : Exit → Act → World → Prop) (l : List Oper) (a : Act) (w : World) : Prop where
  out : wpList P ops Q l a w
structure GW (P : Program) (md : Region.Mode) (ops : Array Oper) (C : World → Prop) (Sp : Nat → OpSpec) (Lq : Act → eX → Prop) (l : List Oper) (k : Nat) (a : Act) (Vs : eX) : Prop where
  out : wpG P md ops C Sp Lq l k a Vs
section
variable {P : Program} {ops : Array Oper} {Q : Exit → Act → World → Prop} {a : Act} {w w' : World} {rest : List Oper} {o : Oper}
theorem aB {id : Nat} {l : List Oper} (h : WL P l.toArray Q l a w) : (Code.region id l.toArray false).wp P Q a w := wp_region_lit h.out
theorem aG (h : Q .normal a w) : WL P ops Q [] a w := ⟨wpList_nil h⟩
theorem do_ (hw : Region.wanted o (yielded ops a.tmps) = true) (v : Value) (hr : (execOp a.eval o).run P w = .ok (.value v) w') (h : WL P ops Q rest (a.put o.dst v) w') : WL P ops Q (o :: rest) a w := by
 refine ⟨?_⟩
 unfold wpList; rw [if_pos hw]; left; unfold Oper.wp; rw [hr]; exact h.out
theorem doS (hw : Region.wanted o (yielded ops a.tmps) = true) (hr : (execOp a.eval o).run P w = .ok .skip w') (h : WL P ops Q rest (a.put o.dst undef) w') : WL P ops Q (o :: rest) a w := by
 refine ⟨?_⟩
 unfold wpList; rw [if_pos hw]; left; unfold Oper.wp; rw [hr]; exact h.out
theorem doC {k : FuncId} {vs : Array Value} {R : Ending → World → Prop} (hw : Region.wanted o (yielded ops a.tmps) = true) (hr : (execOp a.eval o).run P w = .ok (.enter k vs) w) (hc : Calls P k vs w R)
    (h : ∀ e w', R e w' → ∃ v, e = .returned v ∧ WL P ops Q rest (a.put o.dst v) w') : WL P ops Q (o :: rest) a w := by
 refine ⟨?_⟩
 unfold wpList; rw [if_pos hw]; left; unfold Oper.wp; rw [hr]
 exact hc.mono fun e w' hR => by obtain ⟨v, rfl, hv⟩ := h e w' hR; exact hv.out
theorem doN (hw : Region.wanted o (yielded ops a.tmps) = false) (h : WL P ops Q rest (a.put o.dst undef) w) : WL P ops Q (o :: rest) a w := ⟨wpList_skip hw h.out⟩
end
section
variable {P : Program} {ρ : Operand → Value} {w : World} {d : Option Tmp} {t : TypeId} {pos : String} {after : Array Edge} {guard : Option (Nat × Bool)}
theorem fF (x : Operand) : (execOp ρ ⟨d, .move x, t, pos, after, guard⟩).run P w = .ok (.value (ρ x)) w := rfl
theorem qP (x : Operand) : (execOp ρ ⟨d, .assign x, t, pos, after, guard⟩).run P w = .ok (.value (ρ x)) w := rfl
theorem pI {c x y : Operand} {b : Bool} (h : ρ c = .bool b) : (execOp ρ ⟨d, .pick c x y, t, pos, after, guard⟩).run P w = .ok (.value (if b then ρ x else ρ y)) w := by
 simp only [execOp, h]; cases b <;> rfl
theorem bV {x : Operand} {i : Nat} {vs : Array Value} {v : Value} (h : ρ x = .tuple vs) (hv : vs[i]? = some v) : (execOp ρ ⟨d, .extract x i, t, pos, after, guard⟩).run P w = .ok (.value v) w := by
 simp [execOp, h, Instr.extract, hv]
theorem pW {x : Operand} {T E : TypeId} {A : Option Addr} {n c : Nat} (hT : P.underlying T = some (.slice E)) (h : ρ x = .slice A n c) : (execOp ρ ⟨d, .call ⟨.builtin .len, #[x], #[T]⟩, t, pos, after, guard⟩).run P w = .ok (.value (.int .i64 n)) w := by
 simp [execOp, resolve, invoke, builtin, Builtin.len_, h, run_underlying hT w]; rfl
theorem lX {x : Operand} {p : Addr} (h : ρ x = .pointer (some p)) : (execOp ρ ⟨d, .nilCheck x, t, pos, after, guard⟩).run P w = .ok (.value (.pointer (some p))) w := by
 simp only [execOp, h]; rfl
theorem aD {x : Operand} {T : TypeId} {p : Addr} {v : Value} (h : ρ x = .pointer (some p)) (hl : (loadVar T p).run P w = .ok v w) : (execOp ρ ⟨d, .load T x, t, pos, after, guard⟩).run P w = .ok (.value v) w := by
 simp [execOp, h, Instr.loadAt, Instr.sureAddr, hl]
theorem wZ {x y : Operand} {T : TypeId} {p : Addr} {w' : World} (h : ρ x = .pointer (some p)) (hl : (storeVar T p (ρ y)).run P w = .ok () w') : (execOp ρ ⟨d, .store T x y, t, pos, after, guard⟩).run P w = .ok .skip w' := by
 simp [execOp, h, Instr.storeAt, Instr.sureAddr, hl]
theorem cK {xs : Array Operand} {ats : Array TypeId} {k : FuncId} {vs : Array Value} (hv : xs.map ρ = vs) (hf : ρ (.func k) = .func (.func k) #[] #[]) (hk : (callFunc k vs).run P w = .ok (.enter k vs) w) : (execOp ρ ⟨d, .call ⟨.value (.func k), xs, ats⟩, t, pos, after, guard⟩).run P w = .ok (.enter k vs) w := by
 subst hv
 have : (#[] : Array Value) ++ Array.map ρ xs ++ #[] = Array.map ρ xs := by simp
 simp only [execOp, resolve, hf, Deferred.ofValue, Sem.run_bind, Sem.run_pure, Result.andThen_ok, invoke, this]
 exact hk
theorem RC {xs : Array Operand} {ats : Array TypeId} {k : FuncId} {vs : Array Value} {v : Value} (hv : xs.map ρ = vs) (hf : ρ (.func k) = .func (.func k) #[] #[]) (hk : (callFunc k vs).run P w = .ok (.value v) w) : (execOp ρ ⟨d, .call ⟨.value (.func k), xs, ats⟩, t, pos, after, guard⟩).run P w = .ok (.value v) w := by
 subst hv
 have : (#[] : Array Value) ++ Array.map ρ xs ++ #[] = Array.map ρ xs := by simp
 simp only [execOp, resolve, hf, Deferred.ofValue, Sem.run_bind, Sem.run_pure, Result.andThen_ok, invoke, this]
 exact hk
theorem qQ {c : Operand} {xs : Array Operand} {ats : Array TypeId} {k : FuncId} {fs cs vs : Array Value} (hf : ρ c = .func (.func k) fs cs) (hv : fs ++ xs.map ρ ++ cs = vs) (hk : (callFunc k vs).run P w = .ok (.enter k vs) w) : (execOp ρ ⟨d, .call ⟨.value c, xs, ats⟩, t, pos, after, guard⟩).run P w = .ok (.enter k vs) w := by
 subst hv
 simp only [execOp, resolve, hf, Deferred.ofValue, Sem.run_bind, Sem.run_pure, Result.andThen_ok, invoke]
 exact hk
end
section
variable {P : Program} {ρ : Operand → Value} {w : World} {d : Option Tmp} {t : TypeId} {pos : String} {after : Array Edge} {guard : Option (Nat × Bool)} {x y : Operand} {X Y : TypeId} {k : IntKind} {m n : Int}
theorem eS (op : BinOp) (hop : op ≠ .shl ∧ op ≠ .shr) : (binOp op X (.int k m) (.int k n)).run P w = (match op with
    | .add | .sub | .mul => Op.intArith op k m n
    | .quo | .rem => Op.intDiv op k m n
    | .and | .or | .xor | .andNot => Op.intBits op k m n
    | _ => Op.intCmp op m n).run P w := by
  cases op <;> simp [binOp] <;> simp_all
theorem kQ {op : BinOp} {v : Value} (hx : ρ x = .int k m) (hy : ρ y = .int k n) (h : (binOp op X (.int k m) (.int k n)).run P w = .ok v w) : (execOp ρ ⟨d, .binOp op X x y Y, t, pos, after, guard⟩).run P w = .ok (.value v) w := by
 have e : (eqGuard op X x y (.int k m) (.int k n)).run P w = .ok () w := by
  unfold eqGuard
  cases op <;> rfl
 simp only [execOp, hx, hy, Sem.run_bind, e, Result.andThen_ok, h, Sem.run_pure]
theorem oI {b : Bool} (hx : ρ x = .int k m) (hy : ρ y = .int k n) (h : decide (m < n) = b) : (execOp ρ ⟨d, .binOp .lss X x y Y, t, pos, after, guard⟩).run P w = .ok (.value (.bool b)) w := by
 subst h; exact kQ hx hy (by rw [eS _ (by simp)]; rfl)
theorem YY {b : Bool} (hx : ρ x = .int k m) (hy : ρ y = .int k n) (h : decide (m ≤ n) = b) : (execOp ρ ⟨d, .binOp .leq X x y Y, t, pos, after, guard⟩).run P w = .ok (.value (.bool b)) w := by
 subst h; exact kQ hx hy (by rw [eS _ (by simp)]; rfl)
theorem tK {b : Bool} (hx : ρ x = .int k m) (hy : ρ y = .int k n) (h : decide (n < m) = b) : (execOp ρ ⟨d, .binOp .gtr X x y Y, t, pos, after, guard⟩).run P w = .ok (.value (.bool b)) w := by
 subst h; exact kQ hx hy (by rw [eS _ (by simp)]; rfl)
theorem yW {b : Bool} (hx : ρ x = .int k m) (hy : ρ y = .int k n) (h : decide (n ≤ m) = b) : (execOp ρ ⟨d, .binOp .geq X x y Y, t, pos, after, guard⟩).run P w = .ok (.value (.bool b)) w := by
 subst h; exact kQ hx hy (by rw [eS _ (by simp)]; rfl)
theorem cF {b : Bool} (hx : ρ x = .int k m) (hy : ρ y = .int k n) (h : (m == n) = b) : (execOp ρ ⟨d, .binOp .eql X x y Y, t, pos, after, guard⟩).run P w = .ok (.value (.bool b)) w := by
 subst h; exact kQ hx hy (by rw [eS _ (by simp)]; rfl)
theorem cG {b : Bool} (hx : ρ x = .int k m) (hy : ρ y = .int k n) (h : (m != n) = b) : (execOp ρ ⟨d, .binOp .neq X x y Y, t, pos, after, guard⟩).run P w = .ok (.value (.bool b)) w := by
 subst h; exact kQ hx hy (by rw [eS _ (by simp)]; rfl)
theorem lY {z : Int} (h1 : -9223372036854775808 ≤ z) (h2 : z ≤ 9223372036854775807) : IntKind.i64.wrap z = z := IntWalk.i64_in z ⟨h1, h2⟩
theorem iC {r : Int} (hx : ρ x = .int .i64 m) (hy : ρ y = .int .i64 n) (e : m + n = r) (h1 : -9223372036854775808 ≤ r) (h2 : r ≤ 9223372036854775807) : (execOp ρ ⟨d, .binOp .add X x y Y, t, pos, after, guard⟩).run P w = .ok (.value (.int .i64 r)) w := by
 subst e
 refine kQ hx hy ?_
 rw [eS _ (by simp)]
 show Result.ok (Value.int .i64 (IntKind.i64.wrap (m + n))) w = _
 rw [lY h1 h2]
theorem tL {r : Int} (hx : ρ x = .int .i64 m) (hy : ρ y = .int .i64 n) (e : m - n = r) (h1 : -9223372036854775808 ≤ r) (h2 : r ≤ 9223372036854775807) : (execOp ρ ⟨d, .binOp .sub X x y Y, t, pos, after, guard⟩).run P w = .ok (.value (.int .i64 r)) w := by
 subst e
 refine kQ hx hy ?_
 rw [eS _ (by simp)]
 show Result.ok (Value.int .i64 (IntKind.i64.wrap (m - n))) w = _
 rw [lY h1 h2]
theorem YZ {r : Int} (hx : ρ x = .int .i64 m) (hy : ρ y = .int .i64 n) (e : m * n = r) (h1 : -9223372036854775808 ≤ r) (h2 : r ≤ 9223372036854775807) : (execOp ρ ⟨d, .binOp .mul X x y Y, t, pos, after, guard⟩).run P w = .ok (.value (.int .i64 r)) w := by
 subst e
 refine kQ hx hy ?_
 rw [eS _ (by simp)]
 show Result.ok (Value.int .i64 (IntKind.i64.wrap (m * n))) w = _
 rw [lY h1 h2]
theorem CS {b c : Bool} (hx : ρ x = .bool b) (h : (!b) = c) : (execOp ρ ⟨d, .unOp .not X x, t, pos, after, guard⟩).run P w = .ok (.value (.bool c)) w := by
 subst h; simp only [execOp, hx]; rfl
theorem nM {b c r : Bool} (hX : P.underlying X = some .bool) (hx : ρ x = .bool b) (hy : ρ y = .bool c) (h : (b == c) = r) : (execOp ρ ⟨d, .binOp .eql X x y Y, t, pos, after, guard⟩).run P w = .ok (.value (.bool r)) w := by
 subst h
 have e : (binOp .eql X (.bool b) (.bool c)).run P w = .ok (.bool (b == c)) w := by
  simp only [binOp, Sem.run_bind, run_equal_bool w X b c hX, Result.andThen_ok, Sem.run_pure]
 have e2 : (eqGuard .eql X x y (.bool b) (.bool c)).run P w = .ok () w := rfl
 simp only [execOp, hx, hy, Sem.run_bind, e2, Result.andThen_ok, e, Sem.run_pure]
theorem bP {T : TypeId} {E : TypeId} {b o l c : Nat} {i : Nat} {sz q : Nat} (hT : P.underlying T = some (.slice E)) (hs : (sizeOf E).run P w = .ok sz w) {A : Option Addr} (hx : ρ x = .slice A l c) (hA : A = some ⟨b, o, none⟩) (hy : ρ y = .int .i64 i) (hi : i < l) (hq : o + i * sz = q) :
    (execOp ρ ⟨d, .indexAddr T x y, t, pos, after, guard⟩).run P w = .ok (.value (.pointer (some ⟨b, q, none⟩))) w := by
 subst hq
 subst hA
 have hadd : (⟨b, o, none⟩ : Addr).add (i * sz) = ⟨b, o + i * sz, none⟩ := Addr.add_mid b o (i * sz)
 have hlt : (0 : Int) ≤ (i : Int) ∧ (i : Int) < (l : Int) := by omega
 simp [execOp, hx, hy, Instr.indexAt, asIntOf, Sem.run_bind, run_underlying hT w, hs, hadd]
 intro h; omega
theorem xA {p q : Addr} {f : Nat} (hx : ρ x = .pointer (some p)) (hf : ∀ w, (Instr.fieldAt X (.pointer (some p)) f).run P w = .ok (.pointer (some q)) w) : (execOp ρ ⟨d, .fieldAddr X x f, t, pos, after, guard⟩).run P w = .ok (.value (.pointer (some q))) w := by
 simp [execOp, hx, hf]
theorem aL {parts : Array (Nat × Operand)} {cells : Array Value} {ps : Array (Nat × Value)} (hp : (parts.map fun (i, x) => (i, ρ x)) = ps) (h : (Instr.build X ps).run P w = .ok (.agg cells) w) : (execOp ρ ⟨d, .build X parts, t, pos, after, guard⟩).run P w = .ok (.value (.agg cells)) w := by
 subst hp
 simp only [execOp, Sem.run_bind, h, Result.andThen_ok, Sem.run_pure]
theorem bJ {E : TypeId} {A : Option Addr} {n c : Nat} {lo hi : Option Operand} {l h : Nat} {sz : Nat} {v : Value} (hX : P.underlying X = some (.slice E)) (hx : ρ x = .slice A n c) (hsz : (sizeOf E).run P w = .ok sz w)
    (hl : (lo = none ∧ l = 0) ∨ ∃ q, lo = some q ∧ ρ q = .int .i64 l) (hh : (hi = none ∧ h = n) ∨ ∃ q, hi = some q ∧ ρ q = .int .i64 h) (h1 : l ≤ h) (h2 : h ≤ c)
    (hv : v = .slice (if c = l then A else A.map (·.add (l * sz))) (h - l) (c - l)) : (execOp ρ ⟨d, .slice X x lo hi none, t, pos, after, guard⟩).run P w = .ok (.value v) w := by
 subst hv
 have hb : (Instr.sliceBounds true n c (lo.map ρ) (hi.map ρ) none).run P w = .ok (l, h, c) w := by
  have b1 : ∀ (z y : Nat) (code : BoundsCode), z ≤ y → (Instr.sliceBound (.int .i64 z) y code).run P w = .ok z w := by
   intro z y code hzy
   have : (0 : Int) ≤ (z : Int) ∧ (z : Int) ≤ (y : Int) := by omega
   simp [Instr.sliceBound, asIntOf, this]
  rcases hl with ⟨rfl, rfl⟩ | ⟨q, rfl, hq⟩ <;> rcases hh with ⟨rfl, rfl⟩ | ⟨q', rfl, hq'⟩
  ·simp [Instr.sliceBounds]
  ·simp [Instr.sliceBounds, hq', b1 _ _ _ h2]
  ·simp [Instr.sliceBounds, hq, b1 _ _ _ h1]
  ·simp [Instr.sliceBounds, hq', hq, b1 _ _ _ h2, b1 _ _ _ h1]
 have hs : (Instr.sliceAt X (.slice A n c) (lo.map ρ) (hi.map ρ) none).run P w = .ok (.slice (if c = l then A else A.map (·.add (l * sz))) (h - l) (c - l)) w := by
  simp [Instr.sliceAt, Sem.run_bind, run_underlying hX w, Instr.slice, hb, hsz]
 simp [execOp, hx, hs]
end
section
variable {P : Program} {w0 w w' : World} {F0 F : Fz} {L : List Blk} {M : List RowP}
theorem aW {T : TypeId} {b o : Nat} {v : Value} (hT : (isAgg T).run P w = .ok false w) (hc : w.cell? ⟨b, o, none⟩ = some v) : (loadVar T ⟨b, o, none⟩).run P w = .ok v w := by
 simp [loadVar, Sem.run_bind, hT, hc]
theorem jD {T : TypeId} {b o : Nat} {cs : List Value} {d : TypeDesc} (hu : P.underlying T = some d) (hd : d.isRow = true) (hi : (P.info? T).map (·.size) = some cs.length) (hc : w.rangeAt b o cs) : (loadVar T ⟨b, o, none⟩).run P w = .ok (.agg cs.toArray) w := run_loadVar_mid w b o T cs d hc hu hd hi
theorem JP {T : TypeId} {b o : Nat} {v : Value} (hi : (P.info? T).map (·.size) = some v.cells.size) (ht : w.there b o v.cells.size) (h1 : v.cells.all (·.oneCell') = true) : (storeVar T ⟨b, o, none⟩ v).run P w = .ok () (w.setCells b o v.cells.toList) := by
 have := run_storeVar_mid w b o T v.cells ht hi h1
 unfold storeVar at *
 exact this
theorem CT {ρ : Operand → Value} {d : Option Tmp} {t T : TypeId} {pos : String} {after : Array Edge} {guard : Option (Nat × Bool)} {z : Value} (hz : (zeroValue T).run P w = .ok z w) :
    (execOp ρ ⟨d, .alloc T, t, pos, after, guard⟩).run P w = .ok (.value (.pointer (some ⟨w.heap.size, 0, none⟩))) (w.alloc (.cells z.cells T)) := by
 simp only [execOp, Instr.alloc, Sem.run_bind, hz, Result.andThen_ok]
 rfl
theorem cB {ρ : Operand → Value} {d : Option Tmp} {t T : TypeId} {x : Operand} {pos : String} {after : Array Edge} {guard : Option (Nat × Bool)} {v : Value} (hx : ρ x = v) :
    (execOp ρ ⟨d, .box T x, t, pos, after, guard⟩).run P w = .ok (.value (.pointer (some ⟨w.heap.size, 0, none⟩))) (w.alloc (.cells v.cells T)) := by
 subst hx
 simp only [execOp, Instr.box, Sem.run_bind]
 rfl
theorem bS {ρ : Operand → Value} {d : Option Tmp} {t T E : TypeId} {n : Nat} {parts : Array (Nat × Operand)} {ps : Array (Nat × Value)} {pos : String} {after : Array Edge} {guard : Option (Nat × Bool)} {cells : Array Value} (hp : (parts.map fun (i, x) => (i, ρ x)) = ps)
    (h : ∀ w, (Instr.buildSlice T n ps).run P w = .ok (.slice (some ⟨w.heap.size, 0, none⟩) n n) (w.alloc (.cells cells E))) :
    (execOp ρ ⟨d, .buildSlice T n parts, t, pos, after, guard⟩).run P w = .ok (.value (.slice (some ⟨w.heap.size, 0, none⟩) n n)) (w.alloc (.cells cells E)) := by
 subst hp
 simp only [execOp, Sem.run_bind, h, Result.andThen_ok, Sem.run_pure]
theorem bD {ops : Array Oper} {Q : Exit → Act → World → Prop} {a : Act} {rest : List Oper} {o : Oper} {cs : Array Value} {T : TypeId} {v : Nat → Value} (S : St w0 F0 w F L M) (hw : Region.wanted o (yielded ops a.tmps) = true)
    (hr : (execOp a.eval o).run P w = .ok (.value (v w.heap.size)) (w.alloc (.cells cs T)))
    (h : ∀ n w', St w0 F0 w' F (⟨n, cs.toList, T⟩ :: L) M → WL P ops Q rest (a.put o.dst (v n)) w') : WL P ops Q (o :: rest) a w :=
  do_ hw _ hr (h _ _ (S.alloc cs T))
theorem fL {ops : Array Oper} {Q : Exit → Act → World → Prop} {a : Act} {rest : List Oper} {d : Option Tmp} {t T T' : TypeId} {x y : Operand} {pos : String} {after : Array Edge} {guard : Option (Nat × Bool)} {i n j : Nat} {c : List Value} {v : Value} (S : St w0 F0 w F L M)
    (hw : Region.wanted ⟨d, .store T x y, t, pos, after, guard⟩ (yielded ops a.tmps) = true) (hx : a.eval x = .pointer (some ⟨n, j, none⟩)) (hy : a.eval y = v) (hL : L[i]? = some ⟨n, c, T'⟩)
    (hi : (P.info? T).map (·.size) = some v.cells.size) (h1 : v.cells.all (·.oneCell') = true) (hl : j + v.cells.size ≤ c.length)
    (h : ∀ w', St w0 F0 w' F (L.set i ⟨n, cA c j v.cells.toList, T'⟩) M → WL P ops Q rest (a.put d undef) w') : WL P ops Q (⟨d, .store T x y, t, pos, after, guard⟩ :: rest) a w := by
 have hs := JP (P := P) (T := T) (v := v) hi (S.there hL j v.cells.size hl) h1
 refine doS hw (wZ hx (by rw [hy]; exact hs)) (h _ (S.store hL j v.cells.toList (by simpa using hl)))
theorem aR {ops : Array Oper} {Q : Exit → Act → World → Prop} {a : Act} {rest : List Oper} {o : Oper} {k : FuncId} {vs : Array Value} {R : Fz → Value → Prop} (S : St w0 F0 w F L M) (hw : Region.wanted o (yielded ops a.tmps) = true)
    (hr : (execOp a.eval o).run P w = .ok (.enter k vs) w) (hc : Calls P k vs w (dB w F R))
    (h : ∀ v w' F', St w0 F0 w' F' L M → Le F F' → R F' v → WL P ops Q rest (a.put o.dst v) w') : WL P ops Q (o :: rest) a w :=
  doC hw hr hc fun e w' ⟨v, F', he, g, hR⟩ => ⟨v, he, h v w' F' (S.gives g) (g.le S.sat) hR⟩
theorem aI {ops : Array Oper} {Q : Exit → Act → World → Prop} {a : Act} {rest : List Oper} {o : Oper} {k : FuncId} {vs : Array Value} {v : Value} (S : St w0 F0 w F L M) (hw : Region.wanted o (yielded ops a.tmps) = true)
    (hr : (execOp a.eval o).run P w = .ok (.enter k vs) w) (hc : Calls P k vs w (cU w v))
    (h : ∀ w', St w0 F0 w' F L M → WL P ops Q rest (a.put o.dst v) w') : WL P ops Q (o :: rest) a w :=
  doC hw hr hc fun e w' ⟨he, hb⟩ => ⟨v, he, h w' (S.tells hb)⟩
theorem eI {k : FuncId} {vs : Array Value} {v : Value} (h : Calls P k vs w fun e w' => e = .returned v ∧ w' = w) : Calls P k vs w (cU w v) := h.mono fun e w' ⟨he, hw⟩ => ⟨he, by subst hw; exact Below.refl _ _⟩
theorem eN {ops : Array Oper} {Q : Exit → Act → World → Prop} {a : Act} {rest : List Oper} {d : Option Tmp} {t T E : TypeId} {x s : Operand} {pos : String} {after : Array Edge} {guard : Option (Nat × Bool)} {α : Type} {k base : Nat} {R : Fz → List Value → α → Prop} {hR : ∀ F F' x p, Le F F' → R F x p → R F' x p}
    {v : Value} {l : List α} {p : α} {i r n cp : Nat} {cs : List Value} {T' : TypeId} (S : St w0 F0 w F L M) (hw : Region.wanted ⟨d, .call ⟨.builtin .append, #[s, x], #[T, T]⟩, t, pos, after, guard⟩ (yielded ops a.tmps) = true)
    (inf : TypeInfo) (z : Value) (bytes : Nat) (ht : P.underlying T = some (.slice E)) (hi : P.info? E = some inf) (hz : inf.zero = some z) (hsize : inf.size = k) (hby : inf.bytes = bytes) (hzs : z.cells.size = k) (hsz : 0 < k)
    (hs : a.eval s = v) (hx : a.eval x = .slice (some ⟨n, 0, none⟩) 1 cp) (hM : M[r]? = some (bZ k R hR E base v l)) (hL : L[i]? = some ⟨n, cs, T'⟩) (hl : cs.length = k) (h1 : ∀ u ∈ cs, u.oneCell' = true) (hp : R F cs p)
    (hb : w0.heap.size ≤ base) (hb2 : base ≤ w.heap.size) (a0 : l.length + 1 ≤ maxLen) (hbytes : (l.length + 1) * bytes ≤ 140737488355328)
    (h : ∀ v' w', St w0 F0 w' F L (M.set r (bZ k R hR E base v' (l ++ [p]))) → v' ≠ .slice none 0 0 → WL P ops Q rest (a.put d v') w') : WL P ops Q (⟨d, .call ⟨.builtin .append, #[s, x], #[T, T]⟩, t, pos, after, guard⟩ :: rest) a w := by
 obtain ⟨el, e1, e2, e3⟩ := (S.own hM).ex
 have hbk := (S.blk _ (St.mem hL)).1
 obtain ⟨g, cap, w', hrun, h2, h3, h4, h5⟩ := run_append_lies w T t base E inf z k bytes ht hi hz hsize hby hzs hsz v l.length el.flatten e1 ⟨n, 0, none⟩ 1 cp cs (by rw [hl]; omega) (fun j u hu => World.news_of_block hbk j u (by simpa using hu)) h1 (by omega) a0 hbytes hb2 w.heap.size rfl (P := P)
 have hout : ∀ g', (Value.slice (some ⟨g, 0, none⟩) (l.length + 1) cap).ownBlock = some g' → F g' = none := by
  intro g' hg'
  cases hg'
  rcases h4 with h4 | h4
  ·exact (S.own hM).out _ h4
  ·subst h4; exact S.sat.out (Nat.le_refl _)
 have hown : Own k R E base w' F (.slice (some ⟨g, 0, none⟩) (l.length + 1) cap) (l ++ [p]) := by
  refine ⟨⟨el ++ [cs], ?_, e2.append ⟨hp, trivial⟩, fun y hy => ?_⟩, hout⟩
  ·rw [List.flatten_append, List.length_append]
   simpa using h2
  ·rcases List.mem_append.1 hy with hy | hy
   ·exact e3 y hy
   ·rw [List.mem_singleton.1 hy]; exact hl
 refine do_ hw (.slice (some ⟨g, 0, none⟩) (l.length + 1) cap) ?_ (h _ w' (S.grown hM hb h3 hown (fun g' hg' => ?_)) (by simp))
 ·simp only [execOp, resolve, invoke, builtin, Sem.run_bind, Sem.run_pure, Result.andThen_ok, List.map_toArray, List.map_cons, List.map_nil, hs, hx, hrun]
 ·cases hg'
  rcases h4 with h4 | h4
  ·exact .inl h4
  ·exact .inr (Nat.le_of_eq h4.symm)
end
theorem dC {c cs : List Value} (j : Nat) (h : (c.drop j).take cs.length = cs) : ∀ (k : Nat) v, cs[k]? = some v → c[j + k]? = some v := by
 intro k v hk
 rw [← h, List.getElem?_take] at hk
 split at hk
 ·rwa [List.getElem?_drop] at hk
 ·cases hk
section
variable {w : World} {b o : Nat} {x y z u : Value}
theorem kC (h0 : w.cell? ⟨b, o, none⟩ = some x) (h1 : w.cell? ⟨b, o + 1, none⟩ = some y) : w.rangeAt b o [x, y] := fun j v hv => by
  match j, hv with
  | 0, hv => cases hv; exact h0
  | 1, hv => cases hv; exact h1
theorem rT (h0 : w.cell? ⟨b, o, none⟩ = some x) (h1 : w.cell? ⟨b, o + 1, none⟩ = some y) (h2 : w.cell? ⟨b, o + 2, none⟩ = some z) : w.rangeAt b o [x, y, z] := fun j v hv => by
  match j, hv with
  | 0, hv => cases hv; exact h0
  | 1, hv => cases hv; exact h1
  | 2, hv => cases hv; exact h2
theorem eW (h0 : w.cell? ⟨b, o, none⟩ = some x) (h1 : w.cell? ⟨b, o + 1, none⟩ = some y) (h2 : w.cell? ⟨b, o + 2, none⟩ = some z) (h3 : w.cell? ⟨b, o + 3, none⟩ = some u) : w.rangeAt b o [x, y, z, u] := fun j v hv => by
  match j, hv with
  | 0, hv => cases hv; exact h0
  | 1, hv => cases hv; exact h1
  | 2, hv => cases hv; exact h2
  | 3, hv => cases hv; exact h3
theorem gL {A : Option Addr} {c sz n l c' : Nat} (h : l = n := by rfl) (hc : c' = c := by rfl) : (Value.slice A l c') = .slice (if c = 0 then A else A.map (·.add (0 * sz))) (n - 0) (c - 0) := by
 subst h; subst hc
 split
 ·rfl
 ·have : A.map (·.add (0 * sz)) = A := by cases A <;> simp [Addr.add]
  rw [this]; rfl
theorem fG {b o c sz l n n' c' o' : Nat} (h : l < c) (hn : n - l = n') (hc : c - l = c') (ho : o + l * sz = o') : (Value.slice (some ⟨b, o', none⟩) n' c') = .slice (if c = l then some ⟨b, o, none⟩ else (some ⟨b, o, none⟩ : Option Addr).map (·.add (l * sz))) (n - l) (c - l) := by
 subst hn; subst hc; subst ho
 rw [if_neg (by omega)]
 show _ = Value.slice (some (Addr.add ⟨b, o, none⟩ (l * sz))) _ _
 rw [Addr.add_mid]
end
section
variable {P : Program} {fn : Func} {tmps : Array Value} {w : World}
theorem rU (p : Addr) : (asAddr (.pointer (some p))).run P w = .ok p w := rfl
theorem qR {c T : Nat} {v : Value} (h : fn.results = #[.cell c T]) (h1 : ∃ p, tmps.getD c undef = .pointer (some p) ∧ (loadVar T p).run P w = .ok v w) : (results fn tmps).run P w = .ok v w := by
 obtain ⟨p, h1, h2⟩ := h1
 rw [Array.getD_eq_getD_getElem?] at h1
 simp [results, h, h1, rU, h2]
theorem dN {c T t : Nat} {v : Value} (h : fn.results = #[.cell c T, .tmp t]) (h1 : ∃ p, tmps.getD c undef = .pointer (some p) ∧ (loadVar T p).run P w = .ok v w) {u : Value} (h2 : tmps.getD t undef = u) : (results fn tmps).run P w = .ok (.tuple #[v, u]) w := by
 obtain ⟨p, h1, h3⟩ := h1
 subst h2
 rw [Array.getD_eq_getD_getElem?] at h1
 simp [results, h, h1, rU, h3]
theorem JQ {c T t s : Nat} {v : Value} (h : fn.results = #[.cell c T, .tmp t, .tmp s]) (h1 : ∃ p, tmps.getD c undef = .pointer (some p) ∧ (loadVar T p).run P w = .ok v w) {u x : Value} (h2 : tmps.getD t undef = u) (h4 : tmps.getD s undef = x) : (results fn tmps).run P w = .ok (.tuple #[v, u, x]) w := by
 obtain ⟨p, h1, h3⟩ := h1
 subst h2; subst h4
 rw [Array.getD_eq_getD_getElem?] at h1
 simp [results, h, h1, rU, h3]
theorem JR {c T c' T' s : Nat} {v v' : Value} (h : fn.results = #[.cell c T, .cell c' T', .tmp s]) {x : Value} (h1 : ∃ p, tmps.getD c undef = .pointer (some p) ∧ (loadVar T p).run P w = .ok v w) (h2 : ∃ p, tmps.getD c' undef = .pointer (some p) ∧ (loadVar T' p).run P w = .ok v' w) (h4 : tmps.getD s undef = x) : (results fn tmps).run P w = .ok (.tuple #[v, v', x]) w := by
 obtain ⟨p, h1, h3⟩ := h1
 obtain ⟨p', h2, h5⟩ := h2
 subst h4
 rw [Array.getD_eq_getD_getElem?] at h1 h2
 simp [results, h, h1, h2, rU, h3, h5]
theorem jE (h : fn.results = #[]) : (results fn tmps).run P w = .ok (.tuple #[]) w := results_none h _ _ _
theorem bK {t : Nat} {v : Value} (h : fn.results = #[.tmp t]) (h1 : tmps.getD t undef = v) : (results fn tmps).run P w = .ok v w := by
 subst h1; exact results_tmp h _ _ _
theorem cC {t s : Nat} {u v : Value} (h : fn.results = #[.tmp t, .tmp s]) (h1 : tmps.getD t undef = u) (h2 : tmps.getD s undef = v) : (results fn tmps).run P w = .ok (.tuple #[u, v]) w := by
 subst h1; subst h2; exact results_tmp2 h _ _ _
theorem aK {o : Oper} {a : Act} {v : Value} (h : (execOp a.eval o).run P w = .ok (.value v) w) : PureAt P o a w v := by unfold PureAt; rw [h]; exact ⟨rfl, rfl⟩
theorem bO {o : Oper} {a : Act} {Φ : Value → World → Prop} {k : FuncId} {vs : Array Value} (h : (execOp a.eval o).run P w = .ok (.enter k vs) w) (hc : Calls P k vs w (qI Φ)) : kZ P o a w Φ := by unfold kZ; rw [h]; exact ⟨rfl, hc⟩
end
theorem pS (t : Array Value) (ds : List Deferred) (d : Tmp) (v : Value) : (⟨t, ds⟩ : Act).put (some d) v = ⟨t.setIfInBounds d v, ds⟩ := rfl
theorem pN (a : Act) (v : Value) : a.put none v = a := rfl
theorem pA (l : List Value) (i : Nat) (v : Value) : l.toArray.setIfInBounds i v = (l.set i v).toArray := List.setIfInBounds_toArray ..
theorem pC (x : Value) (l : List Value) (n : Nat) (v : Value) : (x :: l).set (n + 1) v = x :: l.set n v := rfl
theorem pZ (x : Value) (l : List Value) (v : Value) : (x :: l).set 0 v = v :: l := rfl
def TM : List Value → Nat → Value
  | [], _ => undef
  | v :: _, 0 => v
  | _ :: l, n + 1 => TM l n
def dV (a : Act) : Nat → Value := TM a.tmps.toList
theorem CU {p : Nat → Prop} (h : ∃ n, p n) : ∃ n, p n ∧ ∀ m, p m → n ≤ m := by
 obtain ⟨n, hn⟩ := h
 induction n using Nat.strongRecOn with
 | _ n ih =>
  by_cases hx : ∃ m, m < n ∧ p m
  ·obtain ⟨m, h1, h2⟩ := hx; exact ih m h1 h2
  ·exact ⟨n, hn, fun m hm => Nat.le_of_not_lt fun h => hx ⟨m, h, hm⟩⟩
open Classical in
noncomputable def BA (p : Nat → Prop) : Nat := if h : ∃ n, p n then (CU h).choose else 0
theorem xB {p : Nat → Prop} (h : ∃ n, p n) : p (BA p) ∧ ∀ m, p m → BA p ≤ m := by
 unfold BA; rw [dif_pos h]; exact (CU h).choose_spec
theorem bA {P : Program} {c : Code} {Q : Exit → Act → World → Prop} {a : Act} {w : World} (I : Nat → Act → World → Prop) (n : Nat) (h0 : I n a w)
    (round : ∀ n a w, I n a w → ∀ K : Act → World → Prop, (∀ m a' w', m < n → I m a' w' → K a' w') → c.wp P (Exit.then K Q) a w) : (Code.loop c).wp P Q a w :=
  wp_loop (fun a w => ∃ n, I n a w) (fun a w => BA fun n => I n a w) ⟨n, h0⟩ fun a w h => by
    have hs := xB h
    refine round _ a w hs.1 _ fun m a' w' hm hI => ⟨⟨m, hI⟩, ?_⟩
    exact Nat.lt_of_le_of_lt ((xB (p := fun n => I n a' w') ⟨m, hI⟩).2 m hI) hm
section
variable {ρ : Operand → Value}
theorem jF : ((#[] : Array (Nat × Operand)).map fun (i, x) => (i, ρ x)) = #[] := by simp
theorem lG {x0 : Operand} {v0 : Value} (h0 : ρ x0 = v0) : #[x0].map ρ = #[v0] := by simp [h0]
theorem cH {x0 : Operand} {v0 : Value} {i0 : Nat} (h0 : ρ x0 = v0) : (#[(i0, x0)].map fun ((i, x) : Nat × Operand) => (i, ρ x)) = #[(i0, v0)] := by simp [h0]
theorem iD {x0 x1 : Operand} {v0 v1 : Value} (h0 : ρ x0 = v0) (h1 : ρ x1 = v1) : #[x0, x1].map ρ = #[v0, v1] := by simp [h0, h1]
theorem fY {x0 x1 : Operand} {v0 v1 : Value} {i0 i1 : Nat} (h0 : ρ x0 = v0) (h1 : ρ x1 = v1) : (#[(i0, x0), (i1, x1)].map fun ((i, x) : Nat × Operand) => (i, ρ x)) = #[(i0, v0), (i1, v1)] := by simp [h0, h1]
theorem JS {x0 x1 x2 : Operand} {v0 v1 v2 : Value} (h0 : ρ x0 = v0) (h1 : ρ x1 = v1) (h2 : ρ x2 = v2) : #[x0, x1, x2].map ρ = #[v0, v1, v2] := by simp [h0, h1, h2]
theorem NU {x0 x1 x2 : Operand} {v0 v1 v2 : Value} {i0 i1 i2 : Nat} (h0 : ρ x0 = v0) (h1 : ρ x1 = v1) (h2 : ρ x2 = v2) : (#[(i0, x0), (i1, x1), (i2, x2)].map fun ((i, x) : Nat × Operand) => (i, ρ x)) = #[(i0, v0), (i1, v1), (i2, v2)] := by simp [h0, h1, h2]
theorem Ki {x0 x1 x2 x3 : Operand} {v0 v1 v2 v3 : Value} (h0 : ρ x0 = v0) (h1 : ρ x1 = v1) (h2 : ρ x2 = v2) (h3 : ρ x3 = v3) : #[x0, x1, x2, x3].map ρ = #[v0, v1, v2, v3] := by simp [h0, h1, h2, h3]
theorem mN {x0 x1 x2 x3 : Operand} {v0 v1 v2 v3 : Value} {i0 i1 i2 i3 : Nat} (h0 : ρ x0 = v0) (h1 : ρ x1 = v1) (h2 : ρ x2 = v2) (h3 : ρ x3 = v3) : (#[(i0, x0), (i1, x1), (i2, x2), (i3, x3)].map fun ((i, x) : Nat × Operand) => (i, ρ x)) = #[(i0, v0), (i1, v1), (i2, v2), (i3, v3)] := by simp [h0, h1, h2, h3]
theorem Jn {x0 x1 x2 x3 x4 : Operand} {v0 v1 v2 v3 v4 : Value} (h0 : ρ x0 = v0) (h1 : ρ x1 = v1) (h2 : ρ x2 = v2) (h3 : ρ x3 = v3) (h4 : ρ x4 = v4) : #[x0, x1, x2, x3, x4].map ρ = #[v0, v1, v2, v3, v4] := by simp [h0, h1, h2, h3, h4]
theorem Jo {x0 x1 x2 x3 x4 : Operand} {v0 v1 v2 v3 v4 : Value} {i0 i1 i2 i3 i4 : Nat} (h0 : ρ x0 = v0) (h1 : ρ x1 = v1) (h2 : ρ x2 = v2) (h3 : ρ x3 = v3) (h4 : ρ x4 = v4) : (#[(i0, x0), (i1, x1), (i2, x2), (i3, x3), (i4, x4)].map fun ((i, x) : Nat × Operand) => (i, ρ x)) = #[(i0, v0), (i1, v1), (i2, v2), (i3, v3), (i4, v4)] := by simp [h0, h1, h2, h3, h4]
theorem Jp {x0 x1 x2 x3 x4 x5 x6 : Operand} {v0 v1 v2 v3 v4 v5 v6 : Value} {i0 i1 i2 i3 i4 i5 i6 : Nat} (h0 : ρ x0 = v0) (h1 : ρ x1 = v1) (h2 : ρ x2 = v2) (h3 : ρ x3 = v3) (h4 : ρ x4 = v4) (h5 : ρ x5 = v5) (h6 : ρ x6 = v6) : (#[(i0, x0), (i1, x1), (i2, x2), (i3, x3), (i4, x4), (i5, x5), (i6, x6)].map fun ((i, x) : Nat × Operand) => (i, ρ x)) = #[(i0, v0), (i1, v1), (i2, v2), (i3, v3), (i4, v4), (i5, v5), (i6, v6)] := by simp [h0, h1, h2, h3, h4, h5, h6]
theorem yX {fs cs xs : Array Value} {os : Array Operand} {vs : Array Value} (h : os.map ρ = xs) (h2 : fs ++ xs ++ cs = vs) : fs ++ os.map ρ ++ cs = vs := by rw [h]; exact h2
end
theorem lS {x0 : Value} (h0 : x0.oneCell' = true) : (#[x0] : Array Value).all (·.oneCell') = true := by simp [h0]
theorem Hk {x0 x1 : Value} (h0 : x0.oneCell' = true) (h1 : x1.oneCell' = true) : (#[x0, x1] : Array Value).all (·.oneCell') = true := by simp [h0, h1]
theorem TN {x0 x1 x2 : Value} (h0 : x0.oneCell' = true) (h1 : x1.oneCell' = true) (h2 : x2.oneCell' = true) : (#[x0, x1, x2] : Array Value).all (·.oneCell') = true := by simp [h0, h1, h2]
theorem Jq {x0 x1 x2 x3 : Value} (h0 : x0.oneCell' = true) (h1 : x1.oneCell' = true) (h2 : x2.oneCell' = true) (h3 : x3.oneCell' = true) : (#[x0, x1, x2, x3] : Array Value).all (·.oneCell') = true := by simp [h0, h1, h2, h3]
theorem cE {o oj : Oper} {ops : Array Oper} {tmps : Array Value} {j d : Nat} {b c : Bool} (hg : o.guard = some (j, b)) (hj : ops[j]? = some oj) (hd : oj.dst = some d) (hv : tmps.getD d undef = .bool c) (hc : c ≠ b) : Region.wanted o (yielded ops tmps) = false := by
 rw [Array.getD_eq_getD_getElem?] at hv
 have e : tmps[d]? = some (.bool c) := by
  cases h : tmps[d]? with
  | none => rw [h] at hv; cases hv
  | some x => rw [h] at hv; cases hv; rfl
 simp [Region.wanted, hg, yielded, hj, hd, e, hc]
section
variable {P : Program} {ops : Array Oper} {md : Region.Mode} {C : World → Prop} {Sp : Nat → OpSpec} {Lq : Act → eX → Prop} {o : Oper} {l : List Oper} {k : Nat} {a : Act} {Vs : eX}
theorem bY (h : Lq a Vs) : GW P md ops C Sp Lq [] k a Vs := ⟨Dn h⟩
theorem gX (hw : Region.wanted o (yielded ops a.tmps) = true) (hs : Sp k = .pure) (v : Value) (h : ∀ w, C w → PureAt P o a w v) (hn : GW P md ops C Sp Lq l (k + 1) (a.put o.dst v) Vs) : GW P md ops C Sp Lq (o :: l) k a Vs := ⟨YQ hw hs v h hn.out⟩
theorem gY (hw : Region.wanted o (yielded ops a.tmps) = true) {v : Value} (hs : Sp k = .const v) (h : ∀ w, C w → FactsAt md ops Sp k Vs w → kZ P o a w (vT v w)) (hn : GW P md ops C Sp Lq l (k + 1) (a.put o.dst v) Vs) : GW P md ops C Sp Lq (o :: l) k a Vs := ⟨VP hw hs h hn.out⟩
theorem dF (hw : Region.wanted o (yielded ops a.tmps) = true) {R : Value → World → Prop} (hs : Sp k = .rel R) (h : ∀ w, C w → FactsAt md ops Sp k Vs w → kZ P o a w (lC R w)) (hn : ∀ v, GW P md ops C Sp Lq l (k + 1) (a.put o.dst v) (upd Vs k v)) : GW P md ops C Sp Lq (o :: l) k a Vs := ⟨Do hw hs h fun v => (hn v).out⟩
theorem dY (hw : Region.wanted o (yielded ops a.tmps) = false) (hn : GW P md ops C Sp Lq l (k + 1) (a.put o.dst undef) Vs) : GW P md ops C Sp Lq (o :: l) k a Vs := ⟨YR hw hn.out⟩
theorem aT {id : Nat} {Q : Exit → Act → World → Prop} {a : Act} {W : World} {l : List Oper} (F : Fz) (n : Nat) (L : List (Nat × Mark)) (hm : P.follows .mixedOrders = true) (hB : Region.lexTailB .any l.toArray n = true)
    (h : GW P .any l.toArray (fun w' => Below W.heap.size W w') (gI W F L) (fun a' Vs => ∀ w', Below W.heap.size W w' → Facts (gI W F L) Vs w' → WL P l.toArray Q (l.drop n) a' w') (l.take n) 0 a (fun _ => none)) : (Code.region id l.toArray true).wp P Q a W :=
  CB F n L hm hB (by
    have key : ∀ (ls : List Oper) (k : Nat) (a : Act) (Vs : eX), wpG P .any l.toArray (fun w' => Below W.heap.size W w') (gI W F L) (fun a' Vs => ∀ w', Below W.heap.size W w' → Facts (gI W F L) Vs w' → WL P l.toArray Q (l.drop n) a' w') ls k a Vs →
        wpG P .any l.toArray (fun w' => Below W.heap.size W w') (gI W F L) (fun a' Vs => ∀ w', Below W.heap.size W w' → Facts (gI W F L) Vs w' → wpList P l.toArray Q (l.drop n) a' w') ls k a Vs := by
      intro ls
      induction ls with
      | nil => intro k a Vs h w' h1 h2; exact (h w' h1 h2).out
      | cons o ls ih =>
        intro k a Vs h
        unfold wpG at h ⊢
        split
        · rename_i hw
          rw [if_pos hw] at h
          obtain ⟨S, hS, hv⟩ := h
          exact ⟨S, hS, fun v hv' => ih _ _ _ (hv v hv')⟩
        · rename_i hw
          rw [if_neg hw] at h
          exact ih _ _ _ h
    exact key _ _ _ _ h.out)
end
def pu (a : Act) (d : Option Tmp) (v : Value) : Act := match d with
  | some i => ⟨⟨a.tmps.toList.set i v⟩, a.defers⟩
  | none => a
theorem CV (a : Act) (d : Option Tmp) (v : Value) : pu a d v = a.put d v := by
  cases d with
  | none => rfl
  | some i =>
    show (⟨⟨a.tmps.toList.set i v⟩, a.defers⟩ : Act) = ⟨a.tmps.setIfInBounds i v, a.defers⟩
    rw [← Array.toList_setIfInBounds]
theorem pq : (∀ (l : List Value) (ds : List Deferred) (i : Tmp) (v : Value), pu ⟨l.toArray, ds⟩ (some i) v = ⟨(l.set i v).toArray, ds⟩) ∧ (∀ (a : Act) (v : Value), pu a none v = a) ∧ (∀ (t : Array Value) (ds : List Deferred) (d : Tmp) (v : Value), (⟨t, ds⟩ : Act).put (some d) v = ⟨t.setIfInBounds d v, ds⟩) ∧ (∀ (a : Act) (v : Value), a.put none v = a) ∧ (∀ (l : List Value) (i : Nat) (v : Value), l.toArray.setIfInBounds i v = (l.set i v).toArray) ∧ (∀ (x : Value) (l : List Value) (n : Nat) (v : Value), (x :: l).set (n + 1) v = x :: l.set n v) ∧ (∀ (x : Value) (l : List Value) (v : Value), (x :: l).set 0 v = v :: l) := ⟨fun _ _ _ _ => rfl, fun _ _ => rfl, pS, pN, pA, pC, pZ⟩
theorem xt : (∀ (K : Act → World → Prop) (Q : Exit → Act → World → Prop) (a : Act) (w : World), Exit.then K Q .ret a w = Q .ret a w) ∧ (∀ (K : Act → World → Prop) (Q : Exit → Act → World → Prop) (a : Act) (w : World), Exit.then K Q .normal a w = K a w) ∧ (∀ (i : Nat) (Q : Exit → Act → World → Prop) (a : Act) (w : World), Exit.inBlock i Q .ret a w = Q .ret a w) ∧ (∀ (i : Nat) (Q : Exit → Act → World → Prop) (a : Act) (w : World), Exit.inBlock i Q .normal a w = Q .normal a w) := ⟨fun _ _ _ _ => rfl, fun _ _ _ _ => rfl, fun _ _ _ _ => rfl, fun _ _ _ _ => rfl⟩
abbrev Zn : Value := .slice none 0 0
abbrev bT : Value := .bool true
abbrev bF : Value := .bool false
abbrev nI (n : Nat) : Value := .int .i64 ((n : Nat) : Int)
abbrev iI (n : Int) : Value := .int .i64 n
abbrev pP (b o : Nat) : Value := .pointer (some ⟨b, o, none⟩)
abbrev aA (b o : Nat) : Option Addr := some ⟨b, o, none⟩
section
variable {P : Program} {ops : Array Oper} {Q : Exit → Act → World → Prop} {a : Act} {w w' : World} {rest : List Oper} {o : Oper} {d : Option Tmp} {t : TypeId} {pos : String} {after : Array Edge} {guard : Option (Nat × Bool)} {x : Operand}
theorem dr (v : Value) (hr : (execOp a.eval o).run P w = .ok (.value v) w') (h : WL P ops Q rest (pu a o.dst v) w') (hw : Region.wanted o (yielded ops a.tmps) = true := by exact rfl) : WL P ops Q (o :: rest) a w := do_ hw v hr (CV .. ▸ h)
theorem da (v : Value) (h : WL P ops Q rest (pu a d v) w) (hw : Region.wanted ⟨d, .assign x, t, pos, after, guard⟩ (yielded ops a.tmps) = true := by exact rfl) (hv : a.eval x = v := by exact rfl) : WL P ops Q (⟨d, .assign x, t, pos, after, guard⟩ :: rest) a w := do_ hw v (hv ▸ qP _) (CV .. ▸ h)
theorem ef {X : TypeId} {p q : Addr} {f : Nat} (hf : ∀ w, (Instr.fieldAt X (.pointer (some p)) f).run P w = .ok (.pointer (some q)) w) {ρ : Operand → Value} (hx : ρ x = .pointer (some p) := by exact rfl) : (execOp ρ ⟨d, .fieldAddr X x f, t, pos, after, guard⟩).run P w = .ok (.value (.pointer (some q))) w := xA hx hf
theorem sc {w0 : World} {F0 F : Fz} {L : List Blk} {M : List RowP} {n j : Nat} {c : List Value} {T : TypeId} {v : Value} (S : St w0 F0 w F L M) (i : Nat) (h : L[i]? = some ⟨n, c, T⟩ := by exact rfl) (hv : c[j]? = some v := by exact rfl) : w.cell? ⟨n, j, none⟩ = some v := S.cell h hv
theorem sk {id : Nat} {l : List Oper} {c : Code} (h : ∀ K : Act → World → Prop, (∀ a w, c.wp P Q a w → K a w) → WL P l.toArray (Exit.then K Q) l a w) : (Code.seq (.region id l.toArray false) c).wp P Q a w := wp_seq_k fun K hK => aB (h K hK)
theorem wn {K X : Act → World → Prop} (hK : ∀ a w, X a w → K a w) (h : X a w) : WL P ops (Exit.then K Q) [] a w := aG (hK a w h)
end
def ev (a : Act) : Operand → Option Value
  | .tmp i => a.tmps.toList[i]?
  | .const v => some v
  | x => some (a.eval x)
theorem dH {a : Act} {x : Operand} {v : Value} (h : ev a x = some v) : a.eval x = v := by
  cases x with
  | tmp i =>
    simp only [ev, Array.getElem?_toList] at h
    simp [Act.eval, h]
  | const v => exact Option.some.inj h
  | global g => exact Option.some.inj h
  | func f => exact Option.some.inj h
section
variable {P : Program} {ops : Array Oper} {Q : Exit → Act → World → Prop} {a : Act} {w w0 : World} {rest : List Oper} {d : Option Tmp} {t T X Y : TypeId} {pos : String} {after : Array Edge} {guard : Option (Nat × Bool)} {x y z : Operand} {v : Value} {F0 F : Fz} {L : List Blk} {M : List RowP} {b o : Nat} {m n r : Int} {k : IntKind} {c : Bool}
theorem do' {o : Oper} (hw : Region.wanted o (yielded ops a.tmps) = true) (v : Value) (hr : (execOp a.eval o).run P w = .ok (.value v) w) (h : WL P ops Q rest (pu a o.dst v) w) : WL P ops Q (o :: rest) a w := do_ hw v hr (CV .. ▸ h)
theorem dx (h : WL P ops Q rest (pu a d v) w) (hw : Region.wanted ⟨d, .move x, t, pos, after, guard⟩ (yielded ops a.tmps) = true := by exact rfl) (hv : ev a x = some v := by exact rfl) : WL P ops Q (⟨d, .move x, t, pos, after, guard⟩ :: rest) a w := do' hw v (dH hv ▸ fF _) h
theorem dy (h : WL P ops Q rest (pu a d v) w) (hw : Region.wanted ⟨d, .assign x, t, pos, after, guard⟩ (yielded ops a.tmps) = true := by exact rfl) (hv : ev a x = some v := by exact rfl) : WL P ops Q (⟨d, .assign x, t, pos, after, guard⟩ :: rest) a w := do' hw v (dH hv ▸ qP _) h
theorem dl {cs : List Value} {T' : TypeId} (hN : (isAgg T).run P w = .ok false w) (S : St w0 F0 w F L M) (i : Nat) (h : WL P ops Q rest (pu a d v) w) (hw : Region.wanted ⟨d, .load T x, t, pos, after, guard⟩ (yielded ops a.tmps) = true := by exact rfl) (hx : ev a x = some (.pointer (some ⟨b, o, none⟩)) := by exact rfl) (hL : L[i]? = some ⟨b, cs, T'⟩ := by exact rfl) (hv : cs[o]? = some v := by exact rfl) : WL P ops Q (⟨d, .load T x, t, pos, after, guard⟩ :: rest) a w :=
  do' hw v (aD (dH hx) (aW hN (St.cell S hL hv))) h
theorem dn {E : TypeId} {A : Option Addr} {n c : Nat} (hT : P.underlying T = some (.slice E)) (h : WL P ops Q rest (pu a d (.int .i64 n)) w) (hw : Region.wanted ⟨d, .call ⟨.builtin .len, #[x], #[T]⟩, t, pos, after, guard⟩ (yielded ops a.tmps) = true := by exact rfl) (hx : ev a x = some (.slice A n c) := by exact rfl) : WL P ops Q (⟨d, .call ⟨.builtin .len, #[x], #[T]⟩, t, pos, after, guard⟩ :: rest) a w := do' hw _ (pW hT (dH hx)) h
theorem di {p : Addr} (h : WL P ops Q rest (pu a d (.pointer (some p))) w) (hw : Region.wanted ⟨d, .nilCheck x, t, pos, after, guard⟩ (yielded ops a.tmps) = true := by exact rfl) (hx : ev a x = some (.pointer (some p)) := by exact rfl) : WL P ops Q (⟨d, .nilCheck x, t, pos, after, guard⟩ :: rest) a w := do' hw _ (lX (dH hx)) h
theorem df {p q : Addr} {f : Nat} (hf : ∀ w, (Instr.fieldAt X (.pointer (some p)) f).run P w = .ok (.pointer (some q)) w) (h : WL P ops Q rest (pu a d (.pointer (some q))) w) (hw : Region.wanted ⟨d, .fieldAddr X x f, t, pos, after, guard⟩ (yielded ops a.tmps) = true := by exact rfl) (hx : ev a x = some (.pointer (some p)) := by exact rfl) : WL P ops Q (⟨d, .fieldAddr X x f, t, pos, after, guard⟩ :: rest) a w := do' hw _ (xA (dH hx) hf) h
theorem de {i : Nat} {vs : Array Value} (h : WL P ops Q rest (pu a d v) w) (hw : Region.wanted ⟨d, .extract x i, t, pos, after, guard⟩ (yielded ops a.tmps) = true := by exact rfl) (hx : ev a x = some (.tuple vs) := by exact rfl) (hv : vs[i]? = some v := by exact rfl) : WL P ops Q (⟨d, .extract x i, t, pos, after, guard⟩ :: rest) a w := do' hw v (bV (dH hx) hv) h
theorem dp (h : WL P ops Q rest (pu a d v) w) (hw : Region.wanted ⟨d, .pick x y z, t, pos, after, guard⟩ (yielded ops a.tmps) = true := by exact rfl) (hx : ev a x = some (.bool c) := by exact rfl) (hv : ev a (if c then y else z) = some v := by exact rfl) : WL P ops Q (⟨d, .pick x y z, t, pos, after, guard⟩ :: rest) a w := do' hw v (by have := pI (P := P) (w := w) (d := d) (t := t) (pos := pos) (after := after) (guard := guard) (x := y) (y := z) (dH hx); have e := dH hv; cases c <;> (simp only [Bool.false_eq_true, if_true, if_false] at e this; rw [← e]; exact this)) h
theorem dt (h : WL P ops Q rest (pu a d (.bool (!c))) w) (hw : Region.wanted ⟨d, .unOp .not X x, t, pos, after, guard⟩ (yielded ops a.tmps) = true := by exact rfl) (hx : ev a x = some (.bool c) := by exact rfl) : WL P ops Q (⟨d, .unOp .not X x, t, pos, after, guard⟩ :: rest) a w := do' hw _ (CS (dH hx) rfl) h
theorem eZ (h : WL P ops Q rest (pu a d (.bool true)) w) (hw : Region.wanted ⟨d, .binOp .lss X x y Y, t, pos, after, guard⟩ (yielded ops a.tmps) = true := by exact rfl) (hx : ev a x = some (.int k m) := by exact rfl) (hy : ev a y = some (.int k n) := by exact rfl) (e : m < n := by omega) : WL P ops Q (⟨d, .binOp .lss X x y Y, t, pos, after, guard⟩ :: rest) a w := do' hw _ (oI (dH hx) (dH hy) (decide_eq_true e)) h
theorem eT (h : WL P ops Q rest (pu a d (.bool false)) w) (hw : Region.wanted ⟨d, .binOp .lss X x y Y, t, pos, after, guard⟩ (yielded ops a.tmps) = true := by exact rfl) (hx : ev a x = some (.int k m) := by exact rfl) (hy : ev a y = some (.int k n) := by exact rfl) (e : ¬ m < n := by omega) : WL P ops Q (⟨d, .binOp .lss X x y Y, t, pos, after, guard⟩ :: rest) a w := do' hw _ (oI (dH hx) (dH hy) (decide_eq_false e)) h
theorem Jr (h : WL P ops Q rest (pu a d (.bool true)) w) (hw : Region.wanted ⟨d, .binOp .leq X x y Y, t, pos, after, guard⟩ (yielded ops a.tmps) = true := by exact rfl) (hx : ev a x = some (.int k m) := by exact rfl) (hy : ev a y = some (.int k n) := by exact rfl) (e : m ≤ n := by omega) : WL P ops Q (⟨d, .binOp .leq X x y Y, t, pos, after, guard⟩ :: rest) a w := do' hw _ (YY (dH hx) (dH hy) (decide_eq_true e)) h
theorem Js (h : WL P ops Q rest (pu a d (.bool false)) w) (hw : Region.wanted ⟨d, .binOp .leq X x y Y, t, pos, after, guard⟩ (yielded ops a.tmps) = true := by exact rfl) (hx : ev a x = some (.int k m) := by exact rfl) (hy : ev a y = some (.int k n) := by exact rfl) (e : ¬ m ≤ n := by omega) : WL P ops Q (⟨d, .binOp .leq X x y Y, t, pos, after, guard⟩ :: rest) a w := do' hw _ (YY (dH hx) (dH hy) (decide_eq_false e)) h
theorem sX (h : WL P ops Q rest (pu a d (.bool true)) w) (hw : Region.wanted ⟨d, .binOp .gtr X x y Y, t, pos, after, guard⟩ (yielded ops a.tmps) = true := by exact rfl) (hx : ev a x = some (.int k m) := by exact rfl) (hy : ev a y = some (.int k n) := by exact rfl) (e : n < m := by omega) : WL P ops Q (⟨d, .binOp .gtr X x y Y, t, pos, after, guard⟩ :: rest) a w := do' hw _ (tK (dH hx) (dH hy) (decide_eq_true e)) h
theorem mO (h : WL P ops Q rest (pu a d (.bool false)) w) (hw : Region.wanted ⟨d, .binOp .gtr X x y Y, t, pos, after, guard⟩ (yielded ops a.tmps) = true := by exact rfl) (hx : ev a x = some (.int k m) := by exact rfl) (hy : ev a y = some (.int k n) := by exact rfl) (e : ¬ n < m := by omega) : WL P ops Q (⟨d, .binOp .gtr X x y Y, t, pos, after, guard⟩ :: rest) a w := do' hw _ (tK (dH hx) (dH hy) (decide_eq_false e)) h
theorem ZA (h : WL P ops Q rest (pu a d (.bool true)) w) (hw : Region.wanted ⟨d, .binOp .geq X x y Y, t, pos, after, guard⟩ (yielded ops a.tmps) = true := by exact rfl) (hx : ev a x = some (.int k m) := by exact rfl) (hy : ev a y = some (.int k n) := by exact rfl) (e : n ≤ m := by omega) : WL P ops Q (⟨d, .binOp .geq X x y Y, t, pos, after, guard⟩ :: rest) a w := do' hw _ (yW (dH hx) (dH hy) (decide_eq_true e)) h
theorem ZB (h : WL P ops Q rest (pu a d (.bool false)) w) (hw : Region.wanted ⟨d, .binOp .geq X x y Y, t, pos, after, guard⟩ (yielded ops a.tmps) = true := by exact rfl) (hx : ev a x = some (.int k m) := by exact rfl) (hy : ev a y = some (.int k n) := by exact rfl) (e : ¬ n ≤ m := by omega) : WL P ops Q (⟨d, .binOp .geq X x y Y, t, pos, after, guard⟩ :: rest) a w := do' hw _ (yW (dH hx) (dH hy) (decide_eq_false e)) h
theorem iQ (h : WL P ops Q rest (pu a d (.bool true)) w) (hw : Region.wanted ⟨d, .binOp .eql X x y Y, t, pos, after, guard⟩ (yielded ops a.tmps) = true := by exact rfl) (hx : ev a x = some (.int k m) := by exact rfl) (hy : ev a y = some (.int k n) := by exact rfl) (e : m = n := by omega) : WL P ops Q (⟨d, .binOp .eql X x y Y, t, pos, after, guard⟩ :: rest) a w := do' hw _ (cF (dH hx) (dH hy) (beq_iff_eq.2 e)) h
theorem gB (h : WL P ops Q rest (pu a d (.bool false)) w) (hw : Region.wanted ⟨d, .binOp .eql X x y Y, t, pos, after, guard⟩ (yielded ops a.tmps) = true := by exact rfl) (hx : ev a x = some (.int k m) := by exact rfl) (hy : ev a y = some (.int k n) := by exact rfl) (e : m ≠ n := by omega) : WL P ops Q (⟨d, .binOp .eql X x y Y, t, pos, after, guard⟩ :: rest) a w := do' hw _ (cF (dH hx) (dH hy) (beq_eq_false_iff_ne.2 e)) h
theorem qS (h : WL P ops Q rest (pu a d (.bool true)) w) (hw : Region.wanted ⟨d, .binOp .neq X x y Y, t, pos, after, guard⟩ (yielded ops a.tmps) = true := by exact rfl) (hx : ev a x = some (.int k m) := by exact rfl) (hy : ev a y = some (.int k n) := by exact rfl) (e : m ≠ n := by omega) : WL P ops Q (⟨d, .binOp .neq X x y Y, t, pos, after, guard⟩ :: rest) a w := do' hw _ (cG (dH hx) (dH hy) (bne_iff_ne.2 e)) h
theorem nB (h : WL P ops Q rest (pu a d (.bool false)) w) (hw : Region.wanted ⟨d, .binOp .neq X x y Y, t, pos, after, guard⟩ (yielded ops a.tmps) = true := by exact rfl) (hx : ev a x = some (.int k m) := by exact rfl) (hy : ev a y = some (.int k n) := by exact rfl) (e : m = n := by omega) : WL P ops Q (⟨d, .binOp .neq X x y Y, t, pos, after, guard⟩ :: rest) a w := do' hw _ (cG (dH hx) (dH hy) (bne_eq_false_iff_eq.2 e)) h
theorem cO (r : Int) (h : WL P ops Q rest (pu a d (.int .i64 r)) w) (hw : Region.wanted ⟨d, .binOp .add X x y Y, t, pos, after, guard⟩ (yielded ops a.tmps) = true := by exact rfl) (hx : ev a x = some (.int .i64 m) := by exact rfl) (hy : ev a y = some (.int .i64 n) := by exact rfl) (e : m + n = r := by omega) (h1 : -9223372036854775808 ≤ r := by omega) (h2 : r ≤ 9223372036854775807 := by omega) : WL P ops Q (⟨d, .binOp .add X x y Y, t, pos, after, guard⟩ :: rest) a w := do' hw _ (iC (dH hx) (dH hy) e h1 h2) h
theorem WC (r : Int) (h : WL P ops Q rest (pu a d (.int .i64 r)) w) (hw : Region.wanted ⟨d, .binOp .sub X x y Y, t, pos, after, guard⟩ (yielded ops a.tmps) = true := by exact rfl) (hx : ev a x = some (.int .i64 m) := by exact rfl) (hy : ev a y = some (.int .i64 n) := by exact rfl) (e : m - n = r := by omega) (h1 : -9223372036854775808 ≤ r := by omega) (h2 : r ≤ 9223372036854775807 := by omega) : WL P ops Q (⟨d, .binOp .sub X x y Y, t, pos, after, guard⟩ :: rest) a w := do' hw _ (tL (dH hx) (dH hy) e h1 h2) h
theorem dR {cs : List Value} {T' : TypeId} {D : TypeDesc} (S : St w0 F0 w F L M) (i : Nat) (hu : P.underlying T = some D) {sz : Nat} (hi : (P.info? T).map (·.size) = some sz) (h : WL P ops Q rest (pu a d (.agg cs.toArray)) w) (hw : Region.wanted ⟨d, .load T x, t, pos, after, guard⟩ (yielded ops a.tmps) = true := by exact rfl) (hx : ev a x = some (.pointer (some ⟨b, 0, none⟩)) := by exact rfl) (hL : L[i]? = some ⟨b, cs, T'⟩ := by exact rfl) (hd : D.isRow = true := by exact rfl) (he : cs.length = sz := by exact rfl) : WL P ops Q (⟨d, .load T x, t, pos, after, guard⟩ :: rest) a w :=
  do' hw _ (aD (dH hx) (jD hu hd (he ▸ hi) (St.range S hL 0 cs (dC 0 (List.take_of_length_le (Nat.le_refl _)))))) h
theorem lR {cs : List Value} {T' : TypeId} {D : TypeDesc} (S : St w0 F0 w F L M) (i : Nat) (hu : P.underlying T = some D) {sz : Nat} (hi : (P.info? T).map (·.size) = some sz) (hL : L[i]? = some ⟨b, cs, T'⟩ := by exact rfl) (hd : D.isRow = true := by exact rfl) (he : cs.length = sz := by exact rfl) : (loadVar T ⟨b, 0, none⟩).run P w = .ok (.agg cs.toArray) w := jD hu hd (he ▸ hi) (St.range S hL 0 cs (dC 0 (List.take_of_length_le (Nat.le_refl _))))
theorem cN {cs : List Value} {D : TypeDesc} (hu : P.underlying T = some D) (hd : D.isRow = true) {sz : Nat} (hi : (P.info? T).map (·.size) = some sz) (hc : w.rangeAt b o cs) (he : cs.length = sz := by exact rfl) : (loadVar T ⟨b, o, none⟩).run P w = .ok (.agg cs.toArray) w := jD hu hd (he ▸ hi) hc
theorem nO {j e : Nat} {oj : Oper} {o : Oper} {b c : Bool} (h : WL P ops Q rest (pu a o.dst undef) w) (hg : o.guard = some (j, b) := by exact rfl) (hj : ops[j]? = some oj := by exact rfl) (hd : oj.dst = some e := by exact rfl) (hv : a.tmps.toList[e]? = some (.bool c) := by exact rfl) (hc : c ≠ b := by decide) : WL P ops Q (o :: rest) a w :=
  doN (cE hg hj hd (by rw [Array.getElem?_toList] at hv; rw [Array.getD_eq_getD_getElem?, hv]; rfl) hc) (CV .. ▸ h)
theorem sA {T : TypeId} {zv : Value} (S : St w0 F0 w F L M) (hz : (zeroValue T).run P w = .ok zv w) (h : ∀ n w', St w0 F0 w' F (⟨n, zv.cells.toList, T⟩ :: L) M → WL P ops Q rest (pu a d (.pointer (some ⟨n, 0, none⟩))) w') (hw : Region.wanted ⟨d, .alloc T, t, pos, after, guard⟩ (yielded ops a.tmps) = true := by exact rfl) : WL P ops Q (⟨d, .alloc T, t, pos, after, guard⟩ :: rest) a w :=
  bD S (v := fun n => .pointer (some ⟨n, 0, none⟩)) hw (CT hz) fun n w' S' => CV .. ▸ h n w' S'
theorem sW {T' : TypeId} {n j sz : Nat} {cs : List Value} (i : Nat) (S : St w0 F0 w F L M) (hi : (P.info? T).map (·.size) = some sz) (h : ∀ w', St w0 F0 w' F (L.set i ⟨n, cA cs j v.cells.toList, T'⟩) M → WL P ops Q rest (pu a d undef) w') (hw : Region.wanted ⟨d, .store T x y, t, pos, after, guard⟩ (yielded ops a.tmps) = true := by exact rfl) (hx : ev a x = some (.pointer (some ⟨n, j, none⟩)) := by exact rfl) (hy : ev a y = some v := by exact rfl) (hL : L[i]? = some ⟨n, cs, T'⟩ := by exact rfl)
    (h1 : v.cells.toList.all (·.oneCell') = true := by exact rfl) (hl : Nat.ble (j + v.cells.size) cs.length = true := by exact rfl) (he : v.cells.size = sz := by exact rfl) : WL P ops Q (⟨d, .store T x y, t, pos, after, guard⟩ :: rest) a w :=
  fL S hw (dH hx) (dH hy) hL (he ▸ hi) (by rw [← Array.all_toList]; exact h1) (Nat.le_of_ble_eq_true hl) fun w' S' => CV .. ▸ h w' S'
end
section
variable {P : Program} {ops : Array Oper} {md : Region.Mode} {W w0 : World} {C : World → Prop} {Sp : Nat → OpSpec} {Lq : Act → eX → Prop} {o : Oper} {l : List Oper} {k : Nat} {a : Act} {Vs : eX} {d : Option Tmp} {t X T : TypeId} {pos : String} {after : Array Edge} {guard : Option (Nat × Bool)} {x : Operand} {v : Value} {F0 F : Fz} {L : List Blk} {M : List RowP} {b j : Nat}
theorem gw' (hw : Region.wanted o (yielded ops a.tmps) = true) (hs : Sp k = .pure) (v : Value) (h : ∀ w, C w → PureAt P o a w v) (hn : GW P md ops C Sp Lq l (k + 1) (pu a o.dst v) Vs) : GW P md ops C Sp Lq (o :: l) k a Vs := gX hw hs v h (CV .. ▸ hn)
theorem gv (v : Value) (h : ∀ w, C w → (execOp a.eval o).run P w = .ok (.value v) w) (hn : GW P md ops C Sp Lq l (k + 1) (pu a o.dst v) Vs) (hw : Region.wanted o (yielded ops a.tmps) = true := by exact rfl) (hs : Sp k = .pure := by exact rfl) : GW P md ops C Sp Lq (o :: l) k a Vs := gw' hw hs v (fun w c => aK (h w c)) hn
theorem gm (hn : GW P md ops C Sp Lq l (k + 1) (pu a d v) Vs) (hw : Region.wanted ⟨d, .move x, t, pos, after, guard⟩ (yielded ops a.tmps) = true := by exact rfl) (hs : Sp k = .pure := by exact rfl) (hv : ev a x = some v := by exact rfl) : GW P md ops C Sp Lq (⟨d, .move x, t, pos, after, guard⟩ :: l) k a Vs := gw' hw hs v (fun w _ => aK (dH hv ▸ fF _)) hn
theorem ga (hn : GW P md ops C Sp Lq l (k + 1) (pu a d v) Vs) (hw : Region.wanted ⟨d, .assign x, t, pos, after, guard⟩ (yielded ops a.tmps) = true := by exact rfl) (hs : Sp k = .pure := by exact rfl) (hv : ev a x = some v := by exact rfl) : GW P md ops C Sp Lq (⟨d, .assign x, t, pos, after, guard⟩ :: l) k a Vs := gw' hw hs v (fun w _ => aK (dH hv ▸ qP _)) hn
theorem gf {p q : Addr} {f : Nat} (hf : ∀ w, (Instr.fieldAt X (.pointer (some p)) f).run P w = .ok (.pointer (some q)) w) (hn : GW P md ops C Sp Lq l (k + 1) (pu a d (.pointer (some q))) Vs) (hw : Region.wanted ⟨d, .fieldAddr X x f, t, pos, after, guard⟩ (yielded ops a.tmps) = true := by exact rfl) (hs : Sp k = .pure := by exact rfl) (hx : ev a x = some (.pointer (some p)) := by exact rfl) : GW P md ops C Sp Lq (⟨d, .fieldAddr X x f, t, pos, after, guard⟩ :: l) k a Vs := gw' hw hs _ (fun w _ => aK (xA (dH hx) hf)) hn
theorem gi {p : Addr} (hn : GW P md ops C Sp Lq l (k + 1) (pu a d (.pointer (some p))) Vs) (hw : Region.wanted ⟨d, .nilCheck x, t, pos, after, guard⟩ (yielded ops a.tmps) = true := by exact rfl) (hs : Sp k = .pure := by exact rfl) (hx : ev a x = some (.pointer (some p)) := by exact rfl) : GW P md ops C Sp Lq (⟨d, .nilCheck x, t, pos, after, guard⟩ :: l) k a Vs := gw' hw hs _ (fun w _ => aK (lX (dH hx))) hn
theorem gl {cs : List Value} {T' : TypeId} (hN : ∀ w, (isAgg T).run P w = .ok false w) (S : St w0 F0 W F L M) (i : Nat) (hn : GW P md ops (fun w' => Below W.heap.size W w') Sp Lq l (k + 1) (pu a d v) Vs) (hw : Region.wanted ⟨d, .load T x, t, pos, after, guard⟩ (yielded ops a.tmps) = true := by exact rfl) (hs : Sp k = .pure := by exact rfl) (hx : ev a x = some (.pointer (some ⟨b, j, none⟩)) := by exact rfl) (hL : L[i]? = some ⟨b, cs, T'⟩ := by exact rfl) (hv : cs[j]? = some v := by exact rfl) : GW P md ops (fun w' => Below W.heap.size W w') Sp Lq (⟨d, .load T x, t, pos, after, guard⟩ :: l) k a Vs :=
  gw' hw hs v (fun w c => aK (aD (dH hx) (aW (hN w) (St.cell (St.tells S c) hL hv)))) hn
end
section
variable {P : Program} {fn : Func} {R : Ending → World → Prop} {a : Act} {w : World} {v : Value}
theorem gD {tmps : Array Value} {t : Nat} (h : tmps.toList[t]? = some v) : tmps.getD t undef = v := by
  rw [Array.getElem?_toList] at h; rw [Array.getD_eq_getD_getElem?, h]; rfl
theorem bR (hr : (results fn a.tmps).run P w = .ok v w) (hR : R (.returned v) w) (hd : a.defers = [] := by exact rfl) : bodyPost P fn R .ret a w := ⟨hd, v, hr, hR⟩
theorem bE (hr : (results fn a.tmps).run P w = .ok v w) (hR : R (.returned v) w) (hd : a.defers = [] := by exact rfl) : bodyPost P fn R .normal a w := ⟨hd, v, hr, hR⟩
end
section
variable {P : Program} {ρ : Operand → Value} {w : World} {d : Option Tmp} {t : TypeId} {pos : String} {after : Array Edge} {guard : Option (Nat × Bool)} {k : FuncId} {ats : Array TypeId}
theorem fn1 {x : Operand} {u : Value} (hk : (callFunc k #[u]).run P w = .ok (.enter k #[u]) w) (hf : ρ (.func k) = .func (.func k) #[] #[] := by exact rfl) (hx : ρ x = u := by exact rfl) : (execOp ρ ⟨d, .call ⟨.value (.func k), #[x], ats⟩, t, pos, after, guard⟩).run P w = .ok (.enter k #[u]) w := cK (lG hx) hf hk
theorem fn2 {x y : Operand} {u v : Value} (hk : (callFunc k #[u, v]).run P w = .ok (.enter k #[u, v]) w) (hf : ρ (.func k) = .func (.func k) #[] #[] := by exact rfl) (hx : ρ x = u := by exact rfl) (hy : ρ y = v := by exact rfl) : (execOp ρ ⟨d, .call ⟨.value (.func k), #[x, y], ats⟩, t, pos, after, guard⟩).run P w = .ok (.enter k #[u, v]) w := cK (iD hx hy) hf hk
theorem fn3 {x y z : Operand} {u v s : Value} (hk : (callFunc k #[u, v, s]).run P w = .ok (.enter k #[u, v, s]) w) (hf : ρ (.func k) = .func (.func k) #[] #[] := by exact rfl) (hx : ρ x = u := by exact rfl) (hy : ρ y = v := by exact rfl) (hz : ρ z = s := by exact rfl) : (execOp ρ ⟨d, .call ⟨.value (.func k), #[x, y, z], ats⟩, t, pos, after, guard⟩).run P w = .ok (.enter k #[u, v, s]) w := cK (JS hx hy hz) hf hk
theorem fn4 {x y z x' : Operand} {u v s r : Value} (hk : (callFunc k #[u, v, s, r]).run P w = .ok (.enter k #[u, v, s, r]) w) (hf : ρ (.func k) = .func (.func k) #[] #[] := by exact rfl) (hx : ρ x = u := by exact rfl) (hy : ρ y = v := by exact rfl) (hz : ρ z = s := by exact rfl) (hz' : ρ x' = r := by exact rfl) : (execOp ρ ⟨d, .call ⟨.value (.func k), #[x, y, z, x'], ats⟩, t, pos, after, guard⟩).run P w = .ok (.enter k #[u, v, s, r]) w := cK (Ki hx hy hz hz') hf hk
end
class FA (P : Program) (X : TypeId) (f : Nat) (o : outParam Nat) : Prop where
  run : ∀ (b k : Nat) (w : World), (Instr.fieldAt X (.pointer (some ⟨b, k, none⟩)) f).run P w = .ok (.pointer (some ⟨b, k + o, none⟩)) w
class NA (P : Program) (T : TypeId) : Prop where
  run : ∀ w : World, (isAgg T).run P w = .ok false w
class US (P : Program) (T : TypeId) (E : outParam TypeId) : Prop where
  is : P.underlying T = some (.slice E)
section
variable {P : Program} {ops : Array Oper} {Q : Exit → Act → World → Prop} {a a' : Act} {w w0 : World} {l l' rest : List Oper} {d : Option Tmp} {t T X : TypeId} {pos : String} {after : Array Edge} {guard : Option (Nat × Bool)} {x : Operand} {v : Value} {F0 F : Fz} {L : List Blk} {M : List RowP} {b k o f : Nat} {c c' : Code}
theorem dfi [FA P X f o] (h : WL P ops Q rest (pu a d (.pointer (some ⟨b, k + o, none⟩))) w) (hw : Region.wanted ⟨d, .fieldAddr X x f, t, pos, after, guard⟩ (yielded ops a.tmps) = true := by exact rfl) (hx : ev a x = some (.pointer (some ⟨b, k, none⟩)) := by exact rfl) : WL P ops Q (⟨d, .fieldAddr X x f, t, pos, after, guard⟩ :: rest) a w := do' hw _ (xA (dH hx) (FA.run b k)) h
theorem dli [NA P T] {cs : List Value} {T' : TypeId} (h : WL P ops Q rest (pu a d v) w) (hw : Region.wanted ⟨d, .load T x, t, pos, after, guard⟩ (yielded ops a.tmps) = true := by exact rfl) (hx : ev a x = some (.pointer (some ⟨b, o, none⟩)) := by exact rfl) (S : St w0 F0 w F L M := by assumption) (hL : (⟨b, cs, T'⟩ : Blk) ∈ L := by repeat (first | exact .head _ | apply List.Mem.tail)) (hv : cs[o]? = some v := by exact rfl) : WL P ops Q (⟨d, .load T x, t, pos, after, guard⟩ :: rest) a w := by
  obtain ⟨i, hi, e⟩ := List.mem_iff_getElem.1 hL
  exact do' hw v (aD (dH hx) (aW (NA.run w) (St.cell S (by rw [List.getElem?_eq_getElem hi, e]) hv))) h
theorem dni {E : TypeId} [US P T E] {A : Option Addr} {n c : Nat} (h : WL P ops Q rest (pu a d (.int .i64 n)) w) (hw : Region.wanted ⟨d, .call ⟨.builtin .len, #[x], #[T]⟩, t, pos, after, guard⟩ (yielded ops a.tmps) = true := by exact rfl) (hx : ev a x = some (.slice A n c) := by exact rfl) : WL P ops Q (⟨d, .call ⟨.builtin .len, #[x], #[T]⟩, t, pos, after, guard⟩ :: rest) a w := do' hw _ (pW US.is (dH hx)) h
theorem aC (h : WL P ops Q l' a' w) (hr : WL P ops Q l' a' w → WL P ops Q l a w := by
  intro h
  repeat ((first | refine dx ?_ | refine dfi ?_ | refine dli ?_ | refine dy ?_ | refine de ?_ | refine di ?_ | refine dp ?_ | refine dt ?_ | refine nO ?_ | refine dni ?_); (try simp only [pq]))
  exact h) : WL P ops Q l a w := hr h
theorem wlK {K Y : Act → World → Prop} (hK : ∀ a w, Y a w → K a w) (h : Y a w) (e : K a w = Q .normal a w := by exact rfl) : WL P ops Q [] a w := aG (e ▸ hK a w h)
theorem aJ (h : c.wp P Q a w) (hx : a.eval x = .bool true := by exact rfl) : (Code.cond x c c').wp P Q a w := wp_cond_true hx h
theorem aF (h : c'.wp P Q a w) (hx : a.eval x = .bool false := by exact rfl) : (Code.cond x c c').wp P Q a w := wp_cond_false hx h
end
theorem dD {α : Type} : (∀ (n : Nat) (a : α) (l : List α), (a :: l).take (n + 1) = a :: l.take n) ∧ (∀ l : List α, l.take 0 = []) := ⟨fun _ _ _ => rfl, fun _ => rfl⟩
theorem dE {α : Type} : (∀ (n : Nat) (a : α) (l : List α), (a :: l).drop (n + 1) = l.drop n) ∧ (∀ l : List α, l.drop 0 = l) := ⟨fun _ _ _ => rfl, fun _ => rfl⟩
abbrev aE := @wp_seq_k
abbrev aP := @wp_ret
abbrev aH := @wp_skip
abbrev aM := @wp_block
abbrev cV := @wp_exit
def usF (u : Nat → Value) : Nat → Nat → List Value → List Value
  | _, 0, t => t
  | k, n + 1, t => u k :: usF u (k + 1) n t
def udF : Nat → List Value → List Value
  | 0, t => t
  | n + 1, t => undef :: udF n t
theorem uzF : (∀ u k t, usF u k 0 t = t) ∧ (∀ u k n t, usF u k (n + 1) t = u k :: usF u (k + 1) n t) ∧ (∀ t, udF 0 t = t) ∧ (∀ n t, udF (n + 1) t = undef :: udF n t) ∧ (∀ (a : Value) (l t : List Value), (a :: l) ++ t = a :: (l ++ t)) ∧ (∀ t : List Value, [] ++ t = t) := ⟨fun _ _ _ => rfl, fun _ _ _ _ => rfl, fun _ => rfl, fun _ _ => rfl, fun _ _ _ => rfl, fun _ => rfl⟩
end Go.Proofs.YtilgpdpooildcaaGreatDoor
