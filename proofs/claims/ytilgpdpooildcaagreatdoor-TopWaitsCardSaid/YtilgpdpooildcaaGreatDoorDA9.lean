/- Rules, plain laws and walks: P14 TP5 TP6 TP7 TP8 W1 W2 W3 PW WQ1 -/
import Derived.Test.YtilgpdpooildcaaGreatDoorDA7
import Derived.Test.YtilgpdpooildcaaGreatDoorDA2
import Derived.Test.YtilgpdpooildcaaGreatDoorDA1
import Derived.Test.YtilgpdpooildcaaGreatDoorDA8
import Derived.Test.YtilgpdpooildcaaGreatDoorDA3
import Derived.Test.YtilgpdpooildcaaGreatDoorDA5
namespace Go.Proofs.YtilgpdpooildcaaGreatDoor
set_option maxHeartbeats 8000000
open Go.RowKit
set_option linter.unusedVariables false

structure Tp where
  data : By
  synced : Nat
def iD (m : Cm) : By := b8 ((eO m.turn m.writes).length / 256) :: b8 (eO m.turn m.writes).length :: eO m.turn m.writes
def bQ (m : Cm) : By := iD m ++ (uU (iD m)).take 4
def dK (cs : List Cm) : By := cs.flatMap bQ
def pV (r : By) (k : Nat) : Option (Cm × Nat) :=
  if r.length < 2 then none else
  if 4000 < 2 + (r.getD 0 0).toNat * 256 + (r.getD 1 0).toNat ∨ r.length < 2 + (r.getD 0 0).toNat * 256 + (r.getD 1 0).toNat + 4 then none else
  if (uU (r.take (2 + (r.getD 0 0).toNat * 256 + (r.getD 1 0).toNat))).take 4 ≠ (r.drop (2 + (r.getD 0 0).toNat * 256 + (r.getD 1 0).toNat)).take 4 then none else
  if ZE ((r.take (2 + (r.getD 0 0).toNat * 256 + (r.getD 1 0).toNat)).drop 2) ≠ 0 ∨ (Ei ((r.take (2 + (r.getD 0 0).toNat * 256 + (r.getD 1 0).toNat)).drop 2)).turn ≠ k + 1 then none else
  some (Ei ((r.take (2 + (r.getD 0 0).toNat * 256 + (r.getD 1 0).toNat)).drop 2), 2 + (r.getD 0 0).toNat * 256 + (r.getD 1 0).toNat + 4)
def FS : Nat → By → Nat → List Cm × Nat
  | 0, _, _ => ([], 0)
  | f + 1, r, k => match pV r k with
    | none => ([], 0)
    | some p => (p.1 :: (FS f (r.drop p.2) (k + 1)).1, p.2 + (FS f (r.drop p.2) (k + 1)).2)
def Hq (d : By) : List Cm × Nat := FS d.length d 0
theorem WD {r : By} {k : Nat} (h : pV r k = none) (f : Nat) : FS f r k = ([], 0) := by
 cases f with
 | zero => rfl
 | succ f => rw [FS, h]
theorem WE {r : By} {k f : Nat} {p : Cm × Nat} (h : pV r k = some p) : FS (f + 1) r k = (p.1 :: (FS f (r.drop p.2) (k + 1)).1, p.2 + (FS f (r.drop p.2) (k + 1)).2) := by rw [FS, h]
theorem lZ {m : Cm} (hm : CmOk m) : (iD m).length = 2 + (eO m.turn m.writes).length ∧ (iD m).length ≤ 596 ∧ 6 ≤ (iD m).length := by
 have := HS hm
 have h : (iD m).length = 2 + (eO m.turn m.writes).length := by simp [iD]; omega
 omega
theorem mA {m : Cm} (hm : CmOk m) : (bQ m).length = 6 + (eO m.turn m.writes).length ∧ (bQ m).length = (iD m).length + 4 := by
 have := lZ hm
 have : (bQ m).length = (iD m).length + 4 := by
  unfold bQ
  rw [List.length_append, List.length_take, sQ]
  omega
 omega
theorem OJ {m : Cm} (hm : CmOk m) {t : By} : 2 + (((bQ m) ++ t).getD 0 0).toNat * 256 + (((bQ m) ++ t).getD 1 0).toNat = (iD m).length := by
 have h1 := HS hm
 have h2 := lZ hm
 have e0 : ((bQ m) ++ t).getD 0 0 = b8 ((eO m.turn m.writes).length / 256) := by simp [bQ, iD]
 have e1 : ((bQ m) ++ t).getD 1 0 = b8 (eO m.turn m.writes).length := by simp [bQ, iD]
 rw [e0, e1, mJ (by omega)]
 have : (b8 (eO m.turn m.writes).length).toNat = (eO m.turn m.writes).length % 256 := by simp [b8]
 omega
theorem OK {m : Cm} (hm : CmOk m) {t : By} {k : Nat} : pV (bQ m ++ t) k = if m.turn = k + 1 then some (m, (bQ m).length) else none := by
 have h2 := lZ hm
 have h3 := mA hm
 have hl : (bQ m ++ t).length = (iD m).length + 4 + t.length := by rw [List.length_append]; omega
 have ht : (bQ m ++ t).take (iD m).length = iD m := by
  rw [show bQ m = iD m ++ (uU (iD m)).take 4 from rfl, List.append_assoc, List.take_left']
  rfl
 have hd : ((bQ m ++ t).drop (iD m).length).take 4 = (uU (iD m)).take 4 := by
  rw [show bQ m = iD m ++ (uU (iD m)).take 4 from rfl, List.append_assoc, List.drop_left' rfl, List.take_append_of_le_length (by rw [List.length_take, sQ]; omega), List.take_take]
  simp
 have hb : (iD m).drop 2 = eO m.turn m.writes := rfl
 obtain ⟨d1, d2⟩ := ZF hm
 unfold pV
 rw [OJ hm, if_neg (by omega), if_neg (by omega), ht, hd, if_neg (by simp), hb, d1, d2]
 by_cases h : m.turn = k + 1
 ·rw [if_neg (by simp [h]), if_pos h, h3.2]
 ·rw [if_pos (.inr h), if_neg h]
theorem RD {m : Cm} (hm : CmOk m) {n k : Nat} (hn : n < (bQ m).length) : pV ((bQ m).take n) k = none := by
 have h2 := lZ hm
 have h3 := mA hm
 unfold pV
 have hl : ((bQ m).take n).length = n := by rw [List.length_take]; omega
 rw [hl]
 by_cases h : n < 2
 ·rw [if_pos h]
 ·rw [if_neg h]
  have e : 2 + (((bQ m).take n).getD 0 0).toNat * 256 + (((bQ m).take n).getD 1 0).toNat = (iD m).length := by
   rw [← OJ hm (t := [])]
   have q : ∀ i, i < 2 → ((bQ m).take n).getD i 0 = (bQ m ++ []).getD i 0 := by
    intro i hi
    rw [List.append_nil, List.getD_eq_getElem?_getD, List.getD_eq_getElem?_getD, List.getElem?_take_of_lt (by omega)]
   rw [q 0 (by omega), q 1 (by omega)]
  rw [e, if_pos (.inr (by omega))]
theorem xN (a b : List Cm) : dK (a ++ b) = dK a ++ dK b := by simp [dK]
theorem Ab : ∀ (cs : List Cm) (f k : Nat) (t : By), (∀ c ∈ cs, CmOk c) → (∀ (i : Nat) (h : i < cs.length), cs[i].turn = k + i + 1) → pV t (k + cs.length) = none → (dK cs ++ t).length ≤ f → FS f (dK cs ++ t) k = (cs, (dK cs).length)
  | [], f, k, t, _, _, ht, _ => by
    rw [show dK ([] : List Cm) ++ t = t from rfl, WD (by simpa using ht)]
    rfl
  | c :: cs, f, k, t, hok, htn, ht, hf => by
    have hc := hok c (by simp)
    have h3 := mA hc
    have hb := lZ hc
    have e : dK (c :: cs) ++ t = bQ c ++ (dK cs ++ t) := by simp [dK]
    have ht0 : c.turn = k + 1 := by have := htn 0 (by simp); simpa using this
    have hch := OK hc (t := dK cs ++ t) (k := k)
    rw [if_pos ht0] at hch
    rw [e] at hf ⊢
    match f, hf with
    | 0, hf => rw [List.length_append] at hf; omega
    | f + 1, hf =>
      rw [WE hch]
      simp only
      rw [List.drop_left' rfl, Ab cs f (k + 1) t (fun x hx => hok x (by simp [hx])) (fun i hi => by have := htn (i + 1) (by simpa using hi); simp at this; omega) (by rw [show k + 1 + cs.length = k + (c :: cs).length from by simp; omega]; exact ht) (by rw [List.length_append] at hf; omega)]
      refine Prod.ext rfl ?_
      simp [dK]
def fO : List Cm → Nat → Nat
  | [], _ => 0
  | c :: cs, n => if (bQ c).length ≤ n then 1 + fO cs (n - (bQ c).length) else 0
theorem yV : ∀ (cs : List Cm) (n : Nat), fO cs n ≤ cs.length
  | [], _ => by simp [fO]
  | c :: cs, n => by
    unfold fO
    split
    · have := yV cs (n - (bQ c).length); simp; omega
    · simp
theorem yW : ∀ (cs : List Cm) (n k : Nat), (∀ c ∈ cs, CmOk c) → n ≤ (dK cs).length → ∃ t, (dK cs).take n = dK (cs.take (fO cs n)) ++ t ∧ (∀ k, pV t k = none) ∧ (t = [] ∨ fO cs n < cs.length) ∧ (n = (dK cs).length → fO cs n = cs.length)
  | [], n, k, _, _ => ⟨[], by simp [dK], fun k => by unfold pV; rw [if_pos (by simp)], .inl rfl, fun _ => rfl⟩
  | c :: cs, n, k, hok, hn => by
    have hc := hok c (by simp)
    have h3 := mA hc
    have e : dK (c :: cs) = bQ c ++ dK cs := by simp [dK]
    rw [e, List.length_append] at hn
    by_cases hw : (bQ c).length ≤ n
    · obtain ⟨t, h1, h2, h4, h5⟩ := yW cs (n - (bQ c).length) k (fun x hx => hok x (by simp [hx])) (by omega)
      have ew : fO (c :: cs) n = fO cs (n - (bQ c).length) + 1 := by rw [fO, if_pos hw]; omega
      refine ⟨t, ?_, h2, ?_, fun h => ?_⟩
      · rw [e, ew, List.take_succ_cons, show n = (bQ c).length + (n - (bQ c).length) from by omega, List.take_append]
        simp only [Nat.add_sub_cancel_left]
        rw [List.take_of_length_le (by omega), h1]
        simp [dK]
      · rw [ew, List.length_cons]
        rcases h4 with h4 | h4
        · exact .inl h4
        · exact .inr (by omega)
      · rw [ew, List.length_cons, h5 (by rw [e, List.length_append] at h; omega)]
    · have ew : fO (c :: cs) n = 0 := by rw [fO, if_neg hw]
      refine ⟨(bQ c).take n, ?_, fun k => RD hc (by omega), ?_, fun h => ?_⟩
      · rw [e, ew, List.take_append_of_le_length (by omega)]
        simp [dK]
      · rw [ew]; exact .inr (by simp)
      · rw [e, List.length_append] at h; omega
theorem Ad {m : Nat} {cs : List Cm} (hh : HistOk m cs) {n : Nat} (hn : n ≤ (dK cs).length) : Hq ((dK cs).take n) = (cs.take (fO cs n), (dK (cs.take (fO cs n))).length) := by
 obtain ⟨t, h1, h2, _, _⟩ := yW cs n 0 hh.ok hn
 unfold Hq
 rw [h1]
 refine Ab _ _ 0 t (fun c hc => hh.ok c (List.mem_of_mem_take hc)) (fun i hi => ?_) (h2 _) (Nat.le_refl _)
 rw [List.getElem_take]
 have := hh.turn i (by rw [List.length_take] at hi; omega)
 omega
theorem xO {cs : List Cm} (hok : ∀ c ∈ cs, CmOk c) : (dK cs).length ≤ 600 * cs.length := by
 induction cs with
 | nil => simp [dK]
 | cons c cs ih =>
  have h3 := mA (hok c (by simp))
  have hb := lZ (hok c (by simp))
  have := ih (fun x hx => hok x (by simp [hx]))
  have e : dK (c :: cs) = bQ c ++ dK cs := by simp [dK]
  rw [e, List.length_append, List.length_cons]
  omega
theorem HY : ∀ (cs : List Cm) (n : Nat), (dK (cs.take (fO cs n))).length ≤ n
  | [], n => by simp [dK, fO]
  | c :: cs, n => by
    unfold fO
    split
    · rename_i h
      have := HY cs (n - (bQ c).length)
      rw [Nat.add_comm, List.take_succ_cons, show dK (c :: cs.take (fO cs (n - (bQ c).length))) = bQ c ++ dK (cs.take (fO cs (n - (bQ c).length))) from by simp [dK], List.length_append]
      omega
    · simp [dK]
theorem OL : ∀ (cs : List Cm) (k n : Nat), k ≤ cs.length → (dK (cs.take k)).length ≤ n → k ≤ fO cs n
  | _, 0, _, _, _ => Nat.zero_le _
  | [], k + 1, _, h, _ => by simp at h
  | c :: cs, k + 1, n, hk, h => by
    rw [List.take_succ_cons, show dK (c :: cs.take k) = bQ c ++ dK (cs.take k) from by simp [dK], List.length_append] at h
    rw [fO, if_pos (by omega)]
    have := OL cs k (n - (bQ c).length) (by simpa using hk) (by omega)
    omega
set_option maxRecDepth 100000
set_option linter.unusedSimpArgs false
theorem OM (F : Fz) (w : World) (v : Value) (l : List UInt8) (hs : Sat w F) (hv : Bs F v l) (hm : l.length ≤ 100000) :
    Calls Tryz.prog 45 #[v] w (rI w F 1 ByC 5 l) := by
 obtain ⟨a, c, rfl, hlc, hcm⟩ := hv.shape
 obtain ⟨i, hi, hz0, hz1, hz2⟩ := info_parts sJ
 have hr := hv
 unfold Bs at hr
 have hnil := Lib.run_eql_slice_nil (P := Tryz.prog) w 25 5 a l.length c 0 0 Tryz.underlying25
 cases a with
 | none =>
  have hl : l = [] := by
   obtain ⟨a', c', h1, _, _, h4, _⟩ := hr
   cases h1
   exact List.eq_nil_of_length_eq_zero (h4 rfl).1
  subst hl
  simp only [List.length_nil] at hnil
  go_enter Tryz.func45, Tryz.ntmps45
  go_wp2_with fail
  go_ret
  exact ⟨_, F, rfl, Gr.refl hs, Own.nil _ _⟩
 | some a =>
  have hown := World.ownsRow_lit (base := w.heap.size) (e := 5) (size := 1) w #[] 0 (Nat.le_refl _) (Nat.zero_le _) rfl
  have hsa := hs.alloc (.cells #[] 5)
  go_enter Tryz.func45, Tryz.ntmps45
  go_wp2_with (at_builtin; go_loud (refine oY rfl _ _ 25 rfl w.heap.size 5 i (.int .u8 0) 1 1 Tryz.underlying25 hi hz0 hz1 hz2 rfl (by decide) rfl hown rfl hsa hr (by simp) (BE _) (by unfold maxLen; omega) (by omega) (by simp) ?_))
  intro v1 w1 hown1 hg _
  have hb : Below w.heap.size w w1 := ((Below.refl _ _).alloc (Nat.le_refl _) _).grown hg (by simp) (fun g hg' => (hown.lt g hg').1)
  clear hg hown
  go_wp2_with fail
  go_ret
  refine ⟨_, F, rfl, Gr.of_below hs hb, ⟨l.map fun b => [bv b], ?_, rU F l, by simp⟩, fun g hg => hs.out (hown1.lt g hg).1⟩
  rw [rT]
  simpa using hown1
def TpV (F : Fz) (v : Value) (t : Tp) : Prop := ∃ a c, v = .agg #[.slice a t.data.length c, .int .i64 (t.synced : Nat)] ∧ Bs F (.slice a t.data.length c) t.data
theorem TpV.mono {F F' : Fz} {v : Value} {t : Tp} (h : TpV F v t) (hl : Le F F') : TpV F' v t := by
 obtain ⟨a, c, h1, h2⟩ := h; exact ⟨a, c, h1, h2.mono hl⟩
def TQ (w : World) (F : Fz) (t : Tp) (e : Ending) (w' : World) : Prop := ∃ v F', e = .returned (.tuple #[.agg #[v, .int .i64 (t.synced : Nat)], .bool true]) ∧ Gr w F w' F' ∧ Own 1 ByC 5 w.heap.size w' F' v t.data
theorem HZ {P : Program} {ops : Array Oper} {Q : Exit → Act → World → Prop} {a : Act} {rest : List Oper} {o : Oper} {kf : FuncId} {vs : Array Value} {w0 w : World} {F0 F : Fz} {L : List Blk} {M : List RowP} {t : Tp} (S : St w0 F0 w F L M) (hw : Region.wanted o (yielded ops a.tmps) = true)
    (hr : (execOp a.eval o).run P w = .ok (.enter kf vs) w) (hc : Calls P kf vs w (TQ w F t))
    (h : ∀ v w' F', St w0 F0 w' F' L (cE 1 ByC ByC.mono 5 w0.heap.size v t.data :: M) → Le F F' → WL P ops Q rest (a.put o.dst (.tuple #[.agg #[v, .int .i64 (t.synced : Nat)], .bool true])) w') : WL P ops Q (o :: rest) a w :=
  doC hw hr hc fun e w' ⟨v, F', he, g, ho⟩ => ⟨_, he, h v w' F' (S.addRow g ho) (g.le S.sat)⟩
structure TpOk (n : Nat) (t : Tp) : Prop where
  len : t.data.length ≤ n
  syn : t.synced ≤ t.data.length
def Hr (t : Tp) (e : Int) (F : Fz) (u : Value) : Prop := ∃ v, u = .tuple #[v, .int .i64 e] ∧ TpV F v t
def Ae (w : World) (F G : Fz) : Fz := fun b => if b < w.heap.size then F b else G b
theorem Gr.mix {w w' : World} {F F1 G : Fz} (hl : Le F F1) (h : Gr w F1 w' G) (hs : Sat w F) : Gr w F w' (Ae w F G) := by
 refine ⟨h.below, fun b hb => by unfold Ae; rw [if_pos hb], fun b o hb => ?_⟩
 unfold Ae at hb
 split at hb
 rename_i hlt
 exact h.sat b o (by rw [h.old b hlt]; exact hl b o hb)
 exact h.sat b o hb
theorem ByC.mix {base E : Nat} {w w' : World} {F G : Fz} {v : Value} {l : By} (h : Own 1 ByC E base w' G v l) (hb : w.heap.size ≤ base) : Own 1 ByC E base w' (Ae w F G) v l := by
 obtain ⟨el, h1, h2, h3⟩ := h.ex
 refine ⟨⟨el, h1, h2.imp fun x p hx => hx, h3⟩, fun g hg => ?_⟩
 unfold Ae
 rw [if_neg (by have := (h.lt g hg).1; omega)]
 exact h.out g hg
def GivesSum (w : World) (F : Fz) (b : By) (e : Ending) (w' : World) : Prop := ∃ v F', e = .returned (.tuple #[v, .int .i64 0]) ∧ Gr w F w' F' ∧ Own 1 ByC 5 w.heap.size w' F' v (uU b)
theorem GivesSum.mix {w w' : World} {F F1 : Fz} {b : By} {e : Ending} (hs : Sat w F) (hl : Le F F1) (h : GivesSum w F1 b e w') : GivesSum w F b e w' := by
 obtain ⟨v, F', he, g, ho⟩ := h
 exact ⟨v, _, he, g.mix hl hs, ByC.mix ho (Nat.le_refl _)⟩
theorem RE {P : Program} {ops : Array Oper} {Q : Exit → Act → World → Prop} {a : Act} {rest : List Oper} {o : Oper} {kf : FuncId} {vs : Array Value} {w0 w : World} {F0 F F1 : Fz} {L : List Blk} {M : List RowP} {b : By} (S : St w0 F0 w F L M) (hl : Le F F1) (hw : Region.wanted o (yielded ops a.tmps) = true)
    (hr : (execOp a.eval o).run P w = .ok (.enter kf vs) w) (hc : Calls P kf vs w (GivesSum w F1 b))
    (h : ∀ v w' F', St w0 F0 w' F' L (cE 1 ByC ByC.mono 5 w0.heap.size v (uU b) :: M) → Le F F' → WL P ops Q rest (a.put o.dst (.tuple #[v, .int .i64 0])) w') : WL P ops Q (o :: rest) a w :=
  doC hw hr hc fun e w' hg => by
    obtain ⟨v, F', he, g, ho⟩ := GivesSum.mix S.sat hl hg
    exact ⟨_, he, h v w' F' (S.addRow g ho) (g.le S.sat)⟩
theorem Ex (F : Fz) (w : World) (v : Value) (b : By) (hs : Sat w F) (hT : Tabs w) (hb : Bs F v b) (hn : b.length ≤ 4000) :
    Calls Tryz.prog 96 #[v] w (GivesSum w F b) := by
 obtain ⟨x, y, rfl, hc1', hc2'⟩ := hb.shape
 unfold maxLen at hc2'
 have S := St.start hs
 go_enter Tryz.func96, Tryz.ntmps96
 refine sk fun K1 hK1 => ?_
 iterate 2 refine dy ?_
 refine wn hK1 ?_
 refine aE fun K2 hK2 => ?_
 refine sk fun K3 hK3 => ?_
 refine aC ?_
 refine mW ?_
 simp only [pq]
 refine wn hK3 ?_
 refine aF ?_
 refine aH ?_
 refine hK2 _ _ ?_
 refine sk fun K4 hK4 => ?_
 refine dx ?_
 refine oE ByC.mono S rfl (fn1 (SV _ _)) (TO _ _ _ b (S).sat (hT.at S.gr.below) hb (by omega)) ?_
 intro v9 w5 F7 S6 le8
 refine aC ?_
 refine wn hK4 ?_
 refine aN ?_
 try simp only [xt]
 refine bR (cC rfl (gD rfl) (gD rfl)) ?_
 exact ⟨_, _, rfl, S6.gr, St.own (i := 0) S6 rfl⟩
theorem IA (F : Fz) (w : World) (v : Value) (t : Tp) (hs : Sat w F) (hv : TpV F v t) (ok : TpOk 100000 t) :
    Calls Tryz.prog 95 #[v] w (TQ w F t) := by
 obtain ⟨x, y, rfl, hv⟩ := hv
 have h1 := ok.len
 have h2 := ok.syn
 have S := St.start hs
 go_enter Tryz.func95, Tryz.ntmps95
 refine sk fun K1 hK1 => ?_
 refine bA S (v := fun n => .pointer (aA n 0)) rfl (bZ (v := (.agg #[(.slice x t.data.length y), (nI t.synced)])) rfl) (fun n2 w3 S4 => ?_)
 refine sA S4 (qL _) fun n5 w6 S7 => ?_
 refine dy ?_
 refine wn hK1 ?_
 refine aE fun K8 hK8 => ?_
 refine sk fun K9 hK9 => ?_
 refine aC ?_
 refine fC ?_
 refine aC ?_
 refine mW ?_
 refine aC ?_
 refine mW ?_
 refine dp ?_
 refine wn hK9 ?_
 refine aF ?_
 refine aH ?_
 refine hK8 _ _ ?_
 refine aE fun b3 a6 => ?_
 obtain ⟨b1, a7, a3⟩ := St.freezeBlk S7 (i := 1) rfl
 generalize addF F w6 n2 = b4 at *
 refine jT b1 (by kernel_rfl) (fun b5 a2 => ?_)
 refine dH 0 rfl _ a2.sat (fun _ _ => ef (CO _ _)) ?_
 simp only [pq]
 refine dH 1 rfl _ a2.sat (fun _ a8 => aD rfl (aT (bH _) (St.fz (St.start a8) (a3 0 _ rfl)))) ?_
 simp only [pq]
 refine dH 3 rfl _ a2.sat (fun _ _ => ef (MX _ _)) ?_
 simp only [pq]
 refine dH 4 rfl _ a2.sat (fun _ a9 => aD rfl (aT (bM _) (St.fz (St.start a9) (a3 1 _ rfl)))) ?_
 simp only [pq]
 refine dV 2 (by kernel_rfl) rfl ?_
 refine oE ByC.mono a2 rfl (fn1 (gI _ _)) (OM _ _ _ t.data (a2).sat (hv.mono a7) (by omega)) ?_
 intro b6 b7 b9 a5 a0
 simp only [pq]
 obtain ⟨b0, a1, rfl, c0, b2⟩ := (a5.own (i := 0) rfl).shape
 unfold maxLen at b2
 refine aG (cU (Sat.le a5.sat a0) ?_)
 refine dH 5 rfl (.agg #[(.slice b0 t.data.length a1), (nI t.synced)]) (Sat.le a5.sat a0) (fun _ _ => aK (ps := #[(0, (.slice b0 t.data.length a1)), (1, (nI t.synced))]) (fV rfl rfl) (by kernel_rfl)) ?_
 simp only [pq]
 refine dV 6 (by kernel_rfl) rfl ?_
 refine sW 0 a5 (fF) fun c1 a4 => ?_
 refine aG (cU (Sat.le a4.sat a0) ?_)
 refine kC 7 rfl (Sat.le a4.sat a0) ?_
 simp only [pq]
 refine jV (by kernel_rfl) ?_
 refine a6 _ _ ?_
 refine aN ?_
 try simp only [xt]
 refine bR (dM rfl ⟨_, rfl, lR a4 0 Tryz.underlying108 (fF)⟩ (gD rfl)) ?_
 exact ⟨_, _, rfl, a4.gr, St.own (i := 0) a4 rfl⟩
theorem WF (F : Fz) (w : World) (v : Value) (t : Tp) (hs : Sat w F) (hv : TpV F v t) (ok : TpOk 100000 t) :
    Calls Tryz.prog 82 #[v] w (dB w F (Hr ⟨t.data, t.data.length⟩ 0)) := by
 obtain ⟨x, y, rfl, hv⟩ := hv
 have h1 := ok.len
 have h2 := ok.syn
 have S := St.start hs
 go_enter Tryz.func82, Tryz.ntmps82
 refine sk fun K1 hK1 => ?_
 refine bA S (v := fun n => .pointer (aA n 0)) rfl (bZ (v := (.agg #[(.slice x t.data.length y), (nI t.synced)])) rfl) (fun n2 w3 S4 => ?_)
 refine sA S4 (qL _) fun n5 w6 S7 => ?_
 refine dy ?_
 refine wn hK1 ?_
 refine sk fun K8 hK8 => ?_
 refine dR S7 1 Tryz.underlying108 (fF) ?_
 simp only [pq]
 refine HZ S7 rfl (fn1 (YP _ _)) (IA _ _ _ t (S7).sat ⟨_, _, rfl, hv⟩ (⟨by omega, ok.syn⟩)) ?_
 intro v9 b7 b9 a6 a9
 simp only [pq]
 obtain ⟨b0, a1, rfl, c0, b1⟩ := (a6.own (i := 0) rfl).shape
 unfold maxLen at b1
 refine aC ?_
 refine sA a6 (qL _) fun c1 c2 b2 => ?_
 refine sW 0 b2 (fF) fun c3 b3 => ?_
 refine dy ?_
 simp only [pq]
 refine wn hK8 ?_
 refine aE fun c4 a2 => ?_
 refine sk fun c5 a3 => ?_
 refine aC ?_
 refine wn a3 ?_
 refine aF ?_
 refine aH ?_
 refine a2 _ _ ?_
 refine aE fun c6 a4 => ?_
 obtain ⟨c7, b4, b5, a0⟩ := St.freeze b3 (i := 0) rfl (Nat.le_refl _)
 have a0 : Bys _ (.slice b0 t.data.length a1) t.data := a0
 have b6 := eW a0
 refine aB ?_
 refine aC ?_
 refine sW 0 b4 (rK) fun c8 a7 => ?_
 refine wlK a4 ?_
 refine sk fun c9 a5 => ?_
 refine dR a7 0 Tryz.underlying108 (fF) ?_
 simp only [pq]
 refine sW 1 a7 (fF) fun d0 a8 => ?_
 refine dy ?_
 refine wn a5 ?_
 refine aN ?_
 try simp only [xt]
 refine bR (dM rfl ⟨_, rfl, lR a8 1 Tryz.underlying108 (fF)⟩ (gD rfl)) ?_
 exact ⟨_, _, rfl, a8.gr, _, rfl, _, _, rfl, b6⟩
def mB (t : Tp) (k : Nat) : Nat := t.synced + min k (t.data.length - t.synced)
theorem ON (F : Fz) (w : World) (v u : Value) (t : Tp) (m : Cm) (hs : Sat w F) (hT : Tabs w) (hv : TpV F v t) (hc : CmV F u m) (ok : TpOk 90000 t) (hm : CmOk m) :
    Calls Tryz.prog 110 #[v, u] w (dB w F (Hr ⟨t.data ++ bQ m, t.synced⟩ 0)) := by
 obtain ⟨x, y, rfl, hv⟩ := hv
 have h1' := ok.len
 have h2' := ok.syn
 obtain ⟨x1, y1, rfl, h1⟩ := hc
 obtain ⟨_, _, e1, q2, q3⟩ := Sl.shape h1
 injection e1 with _ _ e1
 subst e1
 unfold maxLen at q3
 obtain ⟨i5, hi5, hz5, hs5, hb5⟩ := info_parts sJ
 have S := St.start hs
 go_enter Tryz.func110, Tryz.ntmps110
 refine sk fun K1 hK1 => ?_
 refine bA S (v := fun n => .pointer (aA n 0)) rfl (bZ (v := (.agg #[(.slice x t.data.length y), (nI t.synced)])) rfl) (fun n2 w3 S4 => ?_)
 refine bA S4 (v := fun n => .pointer (aA n 0)) rfl (bZ (v := (.agg #[(nI m.turn), (.slice x1 m.writes.length y1)])) rfl) (fun n5 w6 S7 => ?_)
 simp only [pq]
 refine sA S7 (qL _) fun n8 w9 a9 => ?_
 refine dy ?_
 refine wn hK1 ?_
 refine sk fun h3 b0 => ?_
 refine dR a9 2 Tryz.underlying108 (fF) ?_
 simp only [pq]
 refine HZ a9 rfl (fn1 (YP _ _)) (IA _ _ _ t (a9).sat ⟨_, _, rfl, hv⟩ (⟨by omega, ok.syn⟩)) ?_
 intro h5 h6 h7 d7 b1
 simp only [pq]
 obtain ⟨d8, a1, rfl, h8, e9⟩ := (d7.own (i := 0) rfl).shape
 unfold maxLen at e9
 refine aC ?_
 refine sA d7 (qL _) fun f0 h9 f1 => ?_
 refine sW 0 f1 (fF) fun i0 b2 => ?_
 refine dy ?_
 simp only [pq]
 refine wn b0 ?_
 refine aE fun i1 b3 => ?_
 refine sk fun i2 b4 => ?_
 refine aC ?_
 refine wn b4 ?_
 refine aF ?_
 refine aH ?_
 refine b3 _ _ ?_
 refine sk fun i3 b5 => ?_
 refine dR b2 2 Tryz.underlying168 (oH) ?_
 simp only [pq]
 refine aQ b2 rfl (fn1 (Dv _ _)) (NU _ _ _ (⟨m.turn, m.writes⟩ : Cm) (b2).sat ⟨_, _, rfl, (h1.mono b1)⟩ hm) ?_
 intro i4 i6 f2 f3 f4 f5
 obtain ⟨_, rfl, a7⟩ := f5
 obtain ⟨d9, b6, rfl, e0, _⟩ := a7.shape
 have e0 : (eO m.turn m.writes).length ≤ b6 := e0
 have a7 : Bs _ (.slice d9 (eO m.turn m.writes).length b6) (eO m.turn m.writes) := a7
 refine aC ?_
 refine wn b5 ?_
 refine aE fun i7 b7 => ?_
 refine sk fun i8 b9 => ?_
 refine dx ?_
 refine dr bF (cG (b := false) rfl rfl (by decide)) ?_
 simp only [pq]
 refine wn b9 ?_
 refine aF ?_
 refine aH ?_
 refine b7 _ _ ?_
 refine aE fun i9 c0 => ?_
 obtain ⟨hb1, hb2, hb3⟩ := lZ hm
 obtain ⟨hf1, hf2⟩ := mA hm
 refine aB ?_
 refine aC ?_
 refine dr (nI ((eO m.turn m.writes).length / 256)) (AV (m := ((eO m.turn m.writes).length)) (n := 8) rfl rfl (by decide)) ?_
 simp only [pq]
 refine dr (bv (b8 ((eO m.turn m.writes).length / 256))) (bB (v := (nI ((eO m.turn m.writes).length / 256))) rfl (iT ((eO m.turn m.writes).length / 256) _)) ?_
 refine aC ?_
 refine dr (bv (b8 ((eO m.turn m.writes).length))) (bB (v := (.int .i64 (((eO m.turn m.writes).length : Nat) : Int))) rfl (iT ((eO m.turn m.writes).length) _)) ?_
 refine bA f3 (v := fun n => .slice (aA n 0) 2 2) rfl (bY (ps := #[(0, (bv (b8 ((eO m.turn m.writes).length / 256)))), (1, (bv (b8 ((eO m.turn m.writes).length))))]) (cells := #[(bv (b8 ((eO m.turn m.writes).length / 256))), (bv (b8 ((eO m.turn m.writes).length)))]) (E := 5) (fV rfl rfl) (fun w => by kernel_rfl)) (fun f6 f7 e2 => ?_)
 refine dx ?_
 simp only [pq]
 have c1 : St w F f7 f2 [⟨f0, [(.slice d8 t.data.length a1), (nI t.synced)], 108⟩, ⟨n8, [Zn, (iI 0)], 108⟩, ⟨n5, [(nI m.turn), (.slice x1 m.writes.length y1)], 168⟩, ⟨n2, [(.slice x t.data.length y), (nI t.synced)], 108⟩] [cE 1 ByC ByC.mono 5 w.heap.size (.slice (aA f6 0) 2 2) [b8 ((eO m.turn m.writes).length / 256), b8 (eO m.turn m.writes).length], cE 1 ByC ByC.mono 5 w.heap.size (.slice d8 t.data.length a1) t.data] := St.blkRow (k := 1) (l := [b8 ((eO m.turn m.writes).length / 256), b8 (eO m.turn m.writes).length]) (el := [[(bv (b8 ((eO m.turn m.writes).length / 256)))], [(bv (b8 ((eO m.turn m.writes).length)))]]) (hR := ByC.mono) e2 rfl ⟨rfl, rfl, trivial⟩ (by simp) rfl (by simp) (by unfold maxLen; decide) (e2.blk _ (List.mem_cons_self ..)).2.2
 refine eK (r := 0) (u := (.slice d9 (eO m.turn m.writes).length b6)) c1 rfl i5 (.int .u8 0) 1 Tryz.underlying25 hi5 hz5 hs5 hb5 rfl (by decide) rfl rfl rfl (Sl.toW (Bs.sl a7) (c1).sat) ByC.one (Nat.le_refl _) c1.gr.below.size (by unfold maxLen; (try simp only [List.length_append, List.length_cons, List.length_nil]); omega) (by (try simp only [List.length_append, List.length_cons, List.length_nil]); omega) ?_
 intro j0 j1 c2 f8
 refine dy ?_
 refine wlK c0 ?_
 refine sk fun j2 c3 => ?_
 refine dx ?_
 simp only [pq]
 obtain ⟨j3, c4, c5, a5⟩ := oF c2 (i := 0) rfl
 refine RE c2 c5 rfl (fn1 (Hh _ _)) (Ex _ _ _ (iD m) c4 (hT.at c2.gr.below) (eW a5) (by omega)) ?_
 intro f9 j4 j5 g0 g1
 refine aC ?_
 refine wn c3 ?_
 refine aE fun j6 c6 => ?_
 obtain ⟨j7, c7, g2, a3⟩ := St.freeze g0 (i := 0) rfl (Nat.le_refl _)
 have a3 : Bys _ f9 (uU (iD m)) := a3
 have c8 := eW a3
 obtain ⟨c9, a8, rfl, _⟩ := c8.shape
 have hsl := sQ (iD m)
 have h4 : ((uU (iD m)).take 4).length = 4 := by rw [List.length_take, hsl]; rfl
 have hcs : 32 ≤ a8 := by obtain ⟨_, _, e, q, _⟩ := c8.shape; injection e with _ _ e; omega
 refine aB ?_
 refine aC ?_
 have g3 : Bs _ (.slice c9 4 a8) ((uU (iD m)).take 4) := eW (Sl.takeN (Bs.sl c8) (by rw [sQ]; decide))
 refine dr (.slice c9 4 a8) (bI (l := 0) (h := 4) (sz := 1) Tryz.underlying25 rfl (dL _) (.inl ⟨rfl, rfl⟩) (.inr ⟨_, rfl, rfl⟩) (by omega) (by omega) (gG)) ?_
 refine eK (r := 0) (u := (.slice c9 4 a8)) c7 rfl i5 (.int .u8 0) 1 Tryz.underlying25 hi5 hz5 hs5 hb5 rfl (by decide) rfl rfl rfl (Sl.toW (Bs.sl g3) (c7).sat) ByC.one (Nat.le_refl _) c7.gr.below.size (by unfold maxLen; (try simp only [List.length_append, List.length_cons, List.length_nil]); omega) (by (try simp only [List.length_append, List.length_cons, List.length_nil]); omega) ?_
 intro j8 j9 e3 g4
 refine dy ?_
 refine wlK c6 ?_
 refine aE fun k0 d0 => ?_
 refine aE fun k1 d1 => ?_
 obtain ⟨e4, a2, rfl, k2, g5⟩ := (e3.own (i := 0) rfl).shape
 unfold maxLen at g5
 refine aB ?_
 refine aC ?_
 refine dr (nI (t.data.length + (bQ m).length)) (hY (m := ((t.data.length : Nat) : Int)) (n := (((bQ m).length : Nat) : Int)) (r := (((t.data.length + (bQ m).length) : Nat) : Int)) rfl rfl (by omega) (by omega) (by omega)) ?_
 simp only [pq]
 refine mW ?_
 refine wlK d1 ?_
 refine aF ?_
 refine aH ?_
 refine d0 _ _ ?_
 refine aE fun k3 d2 => ?_
 obtain ⟨k4, d3, g6, a4⟩ := St.freeze e3 (i := 0) rfl (Nat.le_refl _)
 have a4 : Bys _ (.slice e4 (bQ m).length a2) (bQ m) := a4
 have g7 := eW a4
 refine aB ?_
 refine aC ?_
 refine eK (r := 0) (u := (.slice e4 (bQ m).length a2)) d3 rfl i5 (.int .u8 0) 1 Tryz.underlying25 hi5 hz5 hs5 hb5 rfl (by decide) rfl rfl rfl (Sl.toW (Bs.sl g7) (d3).sat) ByC.one (Nat.le_refl _) d3.gr.below.size (by unfold maxLen; (try simp only [List.length_append, List.length_cons, List.length_nil]); omega) (by (try simp only [List.length_append, List.length_cons, List.length_nil]); omega) ?_
 intro k5 k6 e5 g8
 simp only [pq]
 obtain ⟨g9, a6, rfl, k7, h0⟩ := (e5.own (i := 0) rfl).shape
 unfold maxLen at h0
 refine df (CO _ _) ?_
 refine sW 0 e5 (nH) fun k8 e6 => ?_
 refine wlK d2 ?_
 refine sk fun k9 d4 => ?_
 refine dR e6 0 Tryz.underlying108 (fF) ?_
 simp only [pq]
 refine sW 1 e6 (fF) fun l0 e7 => ?_
 refine dy ?_
 refine wn d4 ?_
 refine aN ?_
 try simp only [xt]
 refine bR (dM rfl ⟨_, rfl, lR e7 1 Tryz.underlying108 (fF)⟩ (gD rfl)) ?_
 ·obtain ⟨h2, d5, e8, a0⟩ := St.freeze e7 (i := 0) rfl (Nat.le_refl _)
  have a0 : Bys _ (.slice g9 (t.data ++ (bQ m)).length a6) (t.data ++ (bQ m)) := a0
  have d6 := eW a0
  exact ⟨_, _, rfl, d5.gr, _, rfl, _, _, rfl, d6⟩
theorem TpV.dropT {w : World} {F : Fz} {n : Nat} {T : TypeId} (hs : Sat w F) (hb : w.heap[n]? = some (.cells [Value.slice none 0 0, Value.int .i64 0].toArray T (0, 0))) (hc : ∀ u ∈ [Value.slice none 0 0, Value.int .i64 0], ∀ x, u ≠ bv x) {u : Value} {t : Tp} (h : TpV F u t) : TpV (dropF F n) u t := by
 obtain ⟨x0, y0, rfl, h0⟩ := h
 exact ⟨x0, y0, rfl, h0.dropF hs hb hc⟩
theorem TpV.zero (F : Fz) : TpV F (.agg #[.slice none 0 0, .int .i64 0]) ⟨[], 0⟩ := ⟨none, 0, rfl, Bs.nil F⟩
def RF : List Int := [0, 0, 3, 7, 11, 3, 0, 0, 3]
def Has (w : World) : Prop := ∀ i (hi : i < RF.length), w.cell? ⟨0, i, none⟩ = some (.int .i64 RF[i])
def iU (h : Nat) (n y l v : Nat) : Int :=
  if h.testBit 0 ∧ ¬ (1 ≤ n ∧ n ≤ 8) then 1 else if h.testBit 0 ∧ ¬ (1 ≤ y ∧ y ≤ 16) then 1 else if h.testBit 2 ∧ ¬ (1 ≤ l ∧ l ≤ 16) then 1 else if 32 < v then 1
  else if (¬ h.testBit 0 ∧ 0 < n) ∨ (¬ h.testBit 1 ∧ 0 < y) ∨ (¬ h.testBit 2 ∧ 0 < l) ∨ (¬ h.testBit 3 ∧ 0 < v) then 4 else 0
theorem tS (w : World) (k : Nat) (k1 : 1 ≤ k) (k8 : k ≤ 8) (hg : 0 < w.heap.size) (hc : w.cell? ⟨0, k, none⟩ = some (.int .i64 0))
    (a0 a1 a2 a3 : Option Addr) (n y l v c0 c1 c2 c3 : Nat) (bn : n ≤ 9223372036854775807) (by' : y ≤ 9223372036854775807) (bl : l ≤ 9223372036854775807) (bv' : v ≤ 9223372036854775807) (hyc : y ≤ c1) (hyc' : c1 ≤ maxLen) (hlc : l ≤ c2) (hlc' : c2 ≤ maxLen) :
    Calls Tryz.prog 41 #[.agg #[.int .i64 k, .slice a0 n c0, .slice a1 y c1, .slice a2 l c2, .slice a3 v c3]] w (cS w (.int .i64 (iU 0 n y l v))) := by
 have HA : Hid (iU 0 n y l v = if 32 < v then 1 else if 0 < n ∨ 0 < y ∨ 0 < l ∨ 0 < v then 4 else 0) := by
  unfold Hid iU
  rw [show (0 : Nat).testBit 0 = false from rfl, show (0 : Nat).testBit 1 = false from rfl, show (0 : Nat).testBit 2 = false from rfl, show (0 : Nat).testBit 3 = false from rfl]
  simp
 generalize iU 0 n y l v = r at *
 have ix0 : ∀ (X : World) (n' y' l' v' : Nat), (Instr.index 91 (.agg #[.slice a0 n' c0, .slice a1 y' c1, .slice a2 l' c2, .slice a3 v' c3]) (.int .i64 0)).run Tryz.prog X = .ok (.slice a0 n' c0) X := fun _ _ _ _ _ => by kernel_rfl
 have ix1 : ∀ (X : World) (n' y' l' v' : Nat), (Instr.index 91 (.agg #[.slice a0 n' c0, .slice a1 y' c1, .slice a2 l' c2, .slice a3 v' c3]) (.int .i64 1)).run Tryz.prog X = .ok (.slice a1 y' c1) X := fun _ _ _ _ _ => by kernel_rfl
 have ix2 : ∀ (X : World) (n' y' l' v' : Nat), (Instr.index 91 (.agg #[.slice a0 n' c0, .slice a1 y' c1, .slice a2 l' c2, .slice a3 v' c3]) (.int .i64 2)).run Tryz.prog X = .ok (.slice a2 l' c2) X := fun _ _ _ _ _ => by kernel_rfl
 have ix3 : ∀ (X : World) (n' y' l' v' : Nat), (Instr.index 91 (.agg #[.slice a0 n' c0, .slice a1 y' c1, .slice a2 l' c2, .slice a3 v' c3]) (.int .i64 3)).run Tryz.prog X = .ok (.slice a3 v' c3) X := fun _ _ _ _ _ => by kernel_rfl
 go_enter Tryz.func41, Tryz.ntmps41
 go_wp2_with fail
 ·go_ret
  exact ⟨kL (Eq.symm (HA.out.trans (by first | rw [if_pos (by omega)] | rw [if_neg (by omega), if_pos (by omega)] | rw [if_neg (by omega), if_neg (by omega)]))), (Below.refl _ _).alloc (Nat.le_refl _) _⟩
 ·go_loop [58] (fun t => ∃ i : Nat, i ≤ 4 ∧ t = .int .i64 i ∧ (0 < i → n = 0) ∧ (1 < i → y = 0) ∧ (2 < i → l = 0) ∧ (3 < i → v = 0)) (fun t => 4 - (intOf t).toNat)
  case atStart => exact ⟨0, by omega, rfl, by omega⟩
  case round =>
   obtain ⟨i, hi, rfl, hok⟩ := hrel
   have HOK := hid hok
   clear hok
   rcases (by omega : i = 0 ∨ i = 1 ∨ i = 2 ∨ i = 3 ∨ i = 4) with rfl | rfl | rfl | rfl | rfl
   all_goals
    go_wp2_with fail
   all_goals first
    | exact ⟨⟨1, by omega, rfl, (by have h := HOK.out; omega)⟩, by simp [intOf]⟩
    | exact ⟨⟨_, _, _, _, ⟨1, by omega, rfl, (by have h := HOK.out; omega)⟩, rfl, rfl, rfl, rfl⟩, by simp [intOf]⟩
    | exact ⟨⟨2, by omega, rfl, (by have h := HOK.out; omega)⟩, by simp [intOf]⟩
    | exact ⟨⟨_, _, _, _, ⟨2, by omega, rfl, (by have h := HOK.out; omega)⟩, rfl, rfl, rfl, rfl⟩, by simp [intOf]⟩
    | exact ⟨⟨3, by omega, rfl, (by have h := HOK.out; omega)⟩, by simp [intOf]⟩
    | exact ⟨⟨_, _, _, _, ⟨3, by omega, rfl, (by have h := HOK.out; omega)⟩, rfl, rfl, rfl, rfl⟩, by simp [intOf]⟩
    | exact ⟨⟨4, by omega, rfl, (by have h := HOK.out; omega)⟩, by simp [intOf]⟩
    | exact ⟨⟨_, _, _, _, ⟨4, by omega, rfl, (by have h := HOK.out; omega)⟩, rfl, rfl, rfl, rfl⟩, by simp [intOf]⟩
    | (go_ret; have h := HOK.out; exact ⟨kL (Eq.symm (HA.out.trans (by first | rw [if_pos (by omega)] | rw [if_neg (by omega), if_pos (by omega)] | rw [if_neg (by omega), if_neg (by omega)]))), (Below.refl _ _).alloc (Nat.le_refl _) _⟩)
theorem tT (w : World) (k : Nat) (k1 : 1 ≤ k) (k8 : k ≤ 8) (hg : 0 < w.heap.size) (hc : w.cell? ⟨0, k, none⟩ = some (.int .i64 3))
    (a0 a1 a2 a3 : Option Addr) (n y l v c0 c1 c2 c3 : Nat) (bn : n ≤ 9223372036854775807) (by' : y ≤ 9223372036854775807) (bl : l ≤ 9223372036854775807) (bv' : v ≤ 9223372036854775807) (hyc : y ≤ c1) (hyc' : c1 ≤ maxLen) (hlc : l ≤ c2) (hlc' : c2 ≤ maxLen) :
    Calls Tryz.prog 41 #[.agg #[.int .i64 k, .slice a0 n c0, .slice a1 y c1, .slice a2 l c2, .slice a3 v c3]] w (cS w (.int .i64 (iU 3 n y l v))) := by
 have HA : Hid (iU 3 n y l v = if ¬ (1 ≤ n ∧ n ≤ 8) then 1 else if ¬ (1 ≤ y ∧ y ≤ 16) then 1 else if 32 < v then 1 else if 0 < l ∨ 0 < v then 4 else 0) := by
  unfold Hid iU
  rw [show (3 : Nat).testBit 0 = true from rfl, show (3 : Nat).testBit 1 = true from rfl, show (3 : Nat).testBit 2 = false from rfl, show (3 : Nat).testBit 3 = false from rfl]
  simp
 generalize iU 3 n y l v = r at *
 have ix0 : ∀ (X : World) (n' y' l' v' : Nat), (Instr.index 91 (.agg #[.slice a0 n' c0, .slice a1 y' c1, .slice a2 l' c2, .slice a3 v' c3]) (.int .i64 0)).run Tryz.prog X = .ok (.slice a0 n' c0) X := fun _ _ _ _ _ => by kernel_rfl
 have ix1 : ∀ (X : World) (n' y' l' v' : Nat), (Instr.index 91 (.agg #[.slice a0 n' c0, .slice a1 y' c1, .slice a2 l' c2, .slice a3 v' c3]) (.int .i64 1)).run Tryz.prog X = .ok (.slice a1 y' c1) X := fun _ _ _ _ _ => by kernel_rfl
 have ix2 : ∀ (X : World) (n' y' l' v' : Nat), (Instr.index 91 (.agg #[.slice a0 n' c0, .slice a1 y' c1, .slice a2 l' c2, .slice a3 v' c3]) (.int .i64 2)).run Tryz.prog X = .ok (.slice a2 l' c2) X := fun _ _ _ _ _ => by kernel_rfl
 have ix3 : ∀ (X : World) (n' y' l' v' : Nat), (Instr.index 91 (.agg #[.slice a0 n' c0, .slice a1 y' c1, .slice a2 l' c2, .slice a3 v' c3]) (.int .i64 3)).run Tryz.prog X = .ok (.slice a3 v' c3) X := fun _ _ _ _ _ => by kernel_rfl
 by_cases q0 : 1 ≤ n ∧ n ≤ 8
 case neg =>
  have h0 := hid (uH q0)
  go_enter Tryz.func41, Tryz.ntmps41
  go_wp2_with (go_at_call 42; refine (gY _ _ _ _).mono ?_; rw [h0.out]; rintro e w' ⟨rfl, rfl⟩)
  go_ret
  exact ⟨kL (Eq.symm (HA.out.trans (by first | rw [if_pos (by omega)] | rw [if_neg (by omega), if_pos (by omega)] | rw [if_neg (by omega), if_neg (by omega), if_pos (by omega)] | rw [if_neg (by omega), if_neg (by omega), if_neg (by omega), if_pos (by omega)] | rw [if_neg (by omega), if_neg (by omega), if_neg (by omega), if_neg (by omega)]))), (Below.refl _ _).alloc (Nat.le_refl _) _⟩
 by_cases q1 : 1 ≤ y ∧ y ≤ 16
 case neg =>
  have h0 := hid (kB q0.1 q0.2)
  have h1 := hid (nU q1)
  go_enter Tryz.func41, Tryz.ntmps41
  go_wp2_with (first | (go_at_call 42; refine (gY _ _ _ _).mono ?_; rw [h0.out]; rintro e w' ⟨rfl, rfl⟩) | (go_at_call 55; refine (jE _ _ _ _ hyc hyc').mono ?_; rw [h1.out]; rintro e w' ⟨rfl, rfl⟩))
  go_ret
  exact ⟨kL (Eq.symm (HA.out.trans (by first | rw [if_pos (by omega)] | rw [if_neg (by omega), if_pos (by omega)] | rw [if_neg (by omega), if_neg (by omega), if_pos (by omega)] | rw [if_neg (by omega), if_neg (by omega), if_neg (by omega), if_pos (by omega)] | rw [if_neg (by omega), if_neg (by omega), if_neg (by omega), if_neg (by omega)]))), (Below.refl _ _).alloc (Nat.le_refl _) _⟩
 have h0 := hid (kB q0.1 q0.2)
 have h1 := hid (gR q1.1 q1.2)
 go_enter Tryz.func41, Tryz.ntmps41
 go_wp2_with fail
 refine (gY _ _ _ _).mono ?_; rw [h0.out]; rintro e w' ⟨rfl, rfl⟩
 go_wp2_with fail
 refine (jE _ _ _ _ hyc hyc').mono ?_; rw [h1.out]; rintro e w' ⟨rfl, rfl⟩
 go_wp2_with fail
 ·go_ret
  exact ⟨kL (Eq.symm (HA.out.trans (by first | rw [if_pos (by omega)] | rw [if_neg (by omega), if_pos (by omega)] | rw [if_neg (by omega), if_neg (by omega), if_pos (by omega)] | rw [if_neg (by omega), if_neg (by omega), if_neg (by omega), if_pos (by omega)] | rw [if_neg (by omega), if_neg (by omega), if_neg (by omega), if_neg (by omega)]))), (Below.refl _ _).alloc (Nat.le_refl _) _⟩
 ·go_loop [58] (fun t => ∃ i : Nat, i ≤ 4 ∧ t = .int .i64 i ∧ (2 < i → l = 0) ∧ (3 < i → v = 0)) (fun t => 4 - (intOf t).toNat)
  case atStart => exact ⟨0, by omega, rfl, by omega⟩
  case round =>
   obtain ⟨i, hi, rfl, hok⟩ := hrel
   have HOK := hid hok
   clear hok
   rcases (by omega : i = 0 ∨ i = 1 ∨ i = 2 ∨ i = 3 ∨ i = 4) with rfl | rfl | rfl | rfl | rfl
   all_goals
    go_wp2_with fail
   all_goals first
    | exact ⟨⟨1, by omega, rfl, (by have h := HOK.out; omega)⟩, by simp [intOf]⟩
    | exact ⟨⟨_, _, _, _, ⟨1, by omega, rfl, (by have h := HOK.out; omega)⟩, rfl, rfl, rfl, rfl⟩, by simp [intOf]⟩
    | exact ⟨⟨2, by omega, rfl, (by have h := HOK.out; omega)⟩, by simp [intOf]⟩
    | exact ⟨⟨_, _, _, _, ⟨2, by omega, rfl, (by have h := HOK.out; omega)⟩, rfl, rfl, rfl, rfl⟩, by simp [intOf]⟩
    | exact ⟨⟨3, by omega, rfl, (by have h := HOK.out; omega)⟩, by simp [intOf]⟩
    | exact ⟨⟨_, _, _, _, ⟨3, by omega, rfl, (by have h := HOK.out; omega)⟩, rfl, rfl, rfl, rfl⟩, by simp [intOf]⟩
    | exact ⟨⟨4, by omega, rfl, (by have h := HOK.out; omega)⟩, by simp [intOf]⟩
    | exact ⟨⟨_, _, _, _, ⟨4, by omega, rfl, (by have h := HOK.out; omega)⟩, rfl, rfl, rfl, rfl⟩, by simp [intOf]⟩
    | (go_ret; have h := HOK.out; exact ⟨kL (Eq.symm (HA.out.trans (by first | rw [if_pos (by omega)] | rw [if_neg (by omega), if_pos (by omega)] | rw [if_neg (by omega), if_neg (by omega), if_pos (by omega)] | rw [if_neg (by omega), if_neg (by omega), if_neg (by omega), if_pos (by omega)] | rw [if_neg (by omega), if_neg (by omega), if_neg (by omega), if_neg (by omega)]))), (Below.refl _ _).alloc (Nat.le_refl _) _⟩)
theorem OO (w : World) (k : Nat) (k1 : 1 ≤ k) (k8 : k ≤ 8) (hg : 0 < w.heap.size) (hc : w.cell? ⟨0, k, none⟩ = some (.int .i64 7))
    (a0 a1 a2 a3 : Option Addr) (n y l v c0 c1 c2 c3 : Nat) (bn : n ≤ 9223372036854775807) (by' : y ≤ 9223372036854775807) (bl : l ≤ 9223372036854775807) (bv' : v ≤ 9223372036854775807) (hyc : y ≤ c1) (hyc' : c1 ≤ maxLen) (hlc : l ≤ c2) (hlc' : c2 ≤ maxLen) :
    Calls Tryz.prog 41 #[.agg #[.int .i64 k, .slice a0 n c0, .slice a1 y c1, .slice a2 l c2, .slice a3 v c3]] w (cS w (.int .i64 (iU 7 n y l v))) := by
 have HA : Hid (iU 7 n y l v = if ¬ (1 ≤ n ∧ n ≤ 8) then 1 else if ¬ (1 ≤ y ∧ y ≤ 16) then 1 else if ¬ (1 ≤ l ∧ l ≤ 16) then 1 else if 32 < v then 1 else if 0 < v then 4 else 0) := by
  unfold Hid iU
  rw [show (7 : Nat).testBit 0 = true from rfl, show (7 : Nat).testBit 1 = true from rfl, show (7 : Nat).testBit 2 = true from rfl, show (7 : Nat).testBit 3 = false from rfl]
  simp
 generalize iU 7 n y l v = r at *
 have ix0 : ∀ (X : World) (n' y' l' v' : Nat), (Instr.index 91 (.agg #[.slice a0 n' c0, .slice a1 y' c1, .slice a2 l' c2, .slice a3 v' c3]) (.int .i64 0)).run Tryz.prog X = .ok (.slice a0 n' c0) X := fun _ _ _ _ _ => by kernel_rfl
 have ix1 : ∀ (X : World) (n' y' l' v' : Nat), (Instr.index 91 (.agg #[.slice a0 n' c0, .slice a1 y' c1, .slice a2 l' c2, .slice a3 v' c3]) (.int .i64 1)).run Tryz.prog X = .ok (.slice a1 y' c1) X := fun _ _ _ _ _ => by kernel_rfl
 have ix2 : ∀ (X : World) (n' y' l' v' : Nat), (Instr.index 91 (.agg #[.slice a0 n' c0, .slice a1 y' c1, .slice a2 l' c2, .slice a3 v' c3]) (.int .i64 2)).run Tryz.prog X = .ok (.slice a2 l' c2) X := fun _ _ _ _ _ => by kernel_rfl
 have ix3 : ∀ (X : World) (n' y' l' v' : Nat), (Instr.index 91 (.agg #[.slice a0 n' c0, .slice a1 y' c1, .slice a2 l' c2, .slice a3 v' c3]) (.int .i64 3)).run Tryz.prog X = .ok (.slice a3 v' c3) X := fun _ _ _ _ _ => by kernel_rfl
 by_cases q0 : 1 ≤ n ∧ n ≤ 8
 case neg =>
  have h0 := hid (uH q0)
  go_enter Tryz.func41, Tryz.ntmps41
  go_wp2_with (go_at_call 42; refine (gY _ _ _ _).mono ?_; rw [h0.out]; rintro e w' ⟨rfl, rfl⟩)
  go_ret
  exact ⟨kL (Eq.symm (HA.out.trans (by first | rw [if_pos (by omega)] | rw [if_neg (by omega), if_pos (by omega)] | rw [if_neg (by omega), if_neg (by omega), if_pos (by omega)] | rw [if_neg (by omega), if_neg (by omega), if_neg (by omega), if_pos (by omega)] | rw [if_neg (by omega), if_neg (by omega), if_neg (by omega), if_neg (by omega), if_pos (by omega)] | rw [if_neg (by omega), if_neg (by omega), if_neg (by omega), if_neg (by omega), if_neg (by omega)]))), (Below.refl _ _).alloc (Nat.le_refl _) _⟩
 by_cases q1 : 1 ≤ y ∧ y ≤ 16
 case neg =>
  have h0 := hid (kB q0.1 q0.2)
  have h1 := hid (nU q1)
  go_enter Tryz.func41, Tryz.ntmps41
  go_wp2_with (first | (go_at_call 42; refine (gY _ _ _ _).mono ?_; rw [h0.out]; rintro e w' ⟨rfl, rfl⟩) | (go_at_call 55; refine (jE _ _ _ _ hyc hyc').mono ?_; rw [h1.out]; rintro e w' ⟨rfl, rfl⟩))
  go_ret
  exact ⟨kL (Eq.symm (HA.out.trans (by first | rw [if_pos (by omega)] | rw [if_neg (by omega), if_pos (by omega)] | rw [if_neg (by omega), if_neg (by omega), if_pos (by omega)] | rw [if_neg (by omega), if_neg (by omega), if_neg (by omega), if_pos (by omega)] | rw [if_neg (by omega), if_neg (by omega), if_neg (by omega), if_neg (by omega), if_pos (by omega)] | rw [if_neg (by omega), if_neg (by omega), if_neg (by omega), if_neg (by omega), if_neg (by omega)]))), (Below.refl _ _).alloc (Nat.le_refl _) _⟩
 have h0 := hid (kB q0.1 q0.2)
 have h1 := hid (gR q1.1 q1.2)
 by_cases q2 : 1 ≤ l ∧ l ≤ 16
 case neg =>
  have h2 := hid (nU q2)
  go_enter Tryz.func41, Tryz.ntmps41
  go_wp2_with fail
  refine (gY _ _ _ _).mono ?_; rw [h0.out]; rintro e w' ⟨rfl, rfl⟩
  go_wp2_with fail
  refine (jE _ _ _ _ hyc hyc').mono ?_; rw [h1.out]; rintro e w' ⟨rfl, rfl⟩
  go_wp2_with fail
  refine (jE _ _ _ _ hlc hlc').mono ?_; rw [h2.out]; rintro e w' ⟨rfl, rfl⟩
  go_wp2_with fail
  go_ret
  exact ⟨kL (Eq.symm (HA.out.trans (by first | rw [if_pos (by omega)] | rw [if_neg (by omega), if_pos (by omega)] | rw [if_neg (by omega), if_neg (by omega), if_pos (by omega)] | rw [if_neg (by omega), if_neg (by omega), if_neg (by omega), if_pos (by omega)] | rw [if_neg (by omega), if_neg (by omega), if_neg (by omega), if_neg (by omega), if_pos (by omega)] | rw [if_neg (by omega), if_neg (by omega), if_neg (by omega), if_neg (by omega), if_neg (by omega)]))), (Below.refl _ _).alloc (Nat.le_refl _) _⟩
 have h2 := hid (gR q2.1 q2.2)
 go_enter Tryz.func41, Tryz.ntmps41
 go_wp2_with fail
 refine (gY _ _ _ _).mono ?_; rw [h0.out]; rintro e w' ⟨rfl, rfl⟩
 go_wp2_with fail
 refine (jE _ _ _ _ hyc hyc').mono ?_; rw [h1.out]; rintro e w' ⟨rfl, rfl⟩
 go_wp2_with fail
 refine (jE _ _ _ _ hlc hlc').mono ?_; rw [h2.out]; rintro e w' ⟨rfl, rfl⟩
 go_wp2_with fail
 ·go_ret
  exact ⟨kL (Eq.symm (HA.out.trans (by first | rw [if_pos (by omega)] | rw [if_neg (by omega), if_pos (by omega)] | rw [if_neg (by omega), if_neg (by omega), if_pos (by omega)] | rw [if_neg (by omega), if_neg (by omega), if_neg (by omega), if_pos (by omega)] | rw [if_neg (by omega), if_neg (by omega), if_neg (by omega), if_neg (by omega), if_pos (by omega)] | rw [if_neg (by omega), if_neg (by omega), if_neg (by omega), if_neg (by omega), if_neg (by omega)]))), (Below.refl _ _).alloc (Nat.le_refl _) _⟩
 ·go_loop [58] (fun t => ∃ i : Nat, i ≤ 4 ∧ t = .int .i64 i ∧ (3 < i → v = 0)) (fun t => 4 - (intOf t).toNat)
  case atStart => exact ⟨0, by omega, rfl, by omega⟩
  case round =>
   obtain ⟨i, hi, rfl, hok⟩ := hrel
   have HOK := hid hok
   clear hok
   rcases (by omega : i = 0 ∨ i = 1 ∨ i = 2 ∨ i = 3 ∨ i = 4) with rfl | rfl | rfl | rfl | rfl
   all_goals
    go_wp2_with fail
   all_goals first
    | exact ⟨⟨1, by omega, rfl, (by have h := HOK.out; omega)⟩, by simp [intOf]⟩
    | exact ⟨⟨_, _, _, _, ⟨1, by omega, rfl, (by have h := HOK.out; omega)⟩, rfl, rfl, rfl, rfl⟩, by simp [intOf]⟩
    | exact ⟨⟨2, by omega, rfl, (by have h := HOK.out; omega)⟩, by simp [intOf]⟩
    | exact ⟨⟨_, _, _, _, ⟨2, by omega, rfl, (by have h := HOK.out; omega)⟩, rfl, rfl, rfl, rfl⟩, by simp [intOf]⟩
    | exact ⟨⟨3, by omega, rfl, (by have h := HOK.out; omega)⟩, by simp [intOf]⟩
    | exact ⟨⟨_, _, _, _, ⟨3, by omega, rfl, (by have h := HOK.out; omega)⟩, rfl, rfl, rfl, rfl⟩, by simp [intOf]⟩
    | exact ⟨⟨4, by omega, rfl, (by have h := HOK.out; omega)⟩, by simp [intOf]⟩
    | exact ⟨⟨_, _, _, _, ⟨4, by omega, rfl, (by have h := HOK.out; omega)⟩, rfl, rfl, rfl, rfl⟩, by simp [intOf]⟩
    | (go_ret; have h := HOK.out; exact ⟨kL (Eq.symm (HA.out.trans (by first | rw [if_pos (by omega)] | rw [if_neg (by omega), if_pos (by omega)] | rw [if_neg (by omega), if_neg (by omega), if_pos (by omega)] | rw [if_neg (by omega), if_neg (by omega), if_neg (by omega), if_pos (by omega)] | rw [if_neg (by omega), if_neg (by omega), if_neg (by omega), if_neg (by omega), if_pos (by omega)] | rw [if_neg (by omega), if_neg (by omega), if_neg (by omega), if_neg (by omega), if_neg (by omega)]))), (Below.refl _ _).alloc (Nat.le_refl _) _⟩)
theorem KU (w : World) (k : Nat) (k1 : 1 ≤ k) (k8 : k ≤ 8) (hg : 0 < w.heap.size) (hc : w.cell? ⟨0, k, none⟩ = some (.int .i64 11))
    (a0 a1 a2 a3 : Option Addr) (n y l v c0 c1 c2 c3 : Nat) (bn : n ≤ 9223372036854775807) (by' : y ≤ 9223372036854775807) (bl : l ≤ 9223372036854775807) (bv' : v ≤ 9223372036854775807) (hyc : y ≤ c1) (hyc' : c1 ≤ maxLen) (hlc : l ≤ c2) (hlc' : c2 ≤ maxLen) :
    Calls Tryz.prog 41 #[.agg #[.int .i64 k, .slice a0 n c0, .slice a1 y c1, .slice a2 l c2, .slice a3 v c3]] w (cS w (.int .i64 (iU 11 n y l v))) := by
 have HA : Hid (iU 11 n y l v = if ¬ (1 ≤ n ∧ n ≤ 8) then 1 else if ¬ (1 ≤ y ∧ y ≤ 16) then 1 else if 32 < v then 1 else if 0 < l then 4 else 0) := by
  unfold Hid iU
  rw [show (11 : Nat).testBit 0 = true from rfl, show (11 : Nat).testBit 1 = true from rfl, show (11 : Nat).testBit 2 = false from rfl, show (11 : Nat).testBit 3 = true from rfl]
  simp
 generalize iU 11 n y l v = r at *
 have ix0 : ∀ (X : World) (n' y' l' v' : Nat), (Instr.index 91 (.agg #[.slice a0 n' c0, .slice a1 y' c1, .slice a2 l' c2, .slice a3 v' c3]) (.int .i64 0)).run Tryz.prog X = .ok (.slice a0 n' c0) X := fun _ _ _ _ _ => by kernel_rfl
 have ix1 : ∀ (X : World) (n' y' l' v' : Nat), (Instr.index 91 (.agg #[.slice a0 n' c0, .slice a1 y' c1, .slice a2 l' c2, .slice a3 v' c3]) (.int .i64 1)).run Tryz.prog X = .ok (.slice a1 y' c1) X := fun _ _ _ _ _ => by kernel_rfl
 have ix2 : ∀ (X : World) (n' y' l' v' : Nat), (Instr.index 91 (.agg #[.slice a0 n' c0, .slice a1 y' c1, .slice a2 l' c2, .slice a3 v' c3]) (.int .i64 2)).run Tryz.prog X = .ok (.slice a2 l' c2) X := fun _ _ _ _ _ => by kernel_rfl
 have ix3 : ∀ (X : World) (n' y' l' v' : Nat), (Instr.index 91 (.agg #[.slice a0 n' c0, .slice a1 y' c1, .slice a2 l' c2, .slice a3 v' c3]) (.int .i64 3)).run Tryz.prog X = .ok (.slice a3 v' c3) X := fun _ _ _ _ _ => by kernel_rfl
 by_cases q0 : 1 ≤ n ∧ n ≤ 8
 case neg =>
  have h0 := hid (uH q0)
  go_enter Tryz.func41, Tryz.ntmps41
  go_wp2_with (go_at_call 42; refine (gY _ _ _ _).mono ?_; rw [h0.out]; rintro e w' ⟨rfl, rfl⟩)
  go_ret
  exact ⟨kL (Eq.symm (HA.out.trans (by first | rw [if_pos (by omega)] | rw [if_neg (by omega), if_pos (by omega)] | rw [if_neg (by omega), if_neg (by omega), if_pos (by omega)] | rw [if_neg (by omega), if_neg (by omega), if_neg (by omega), if_pos (by omega)] | rw [if_neg (by omega), if_neg (by omega), if_neg (by omega), if_neg (by omega)]))), (Below.refl _ _).alloc (Nat.le_refl _) _⟩
 by_cases q1 : 1 ≤ y ∧ y ≤ 16
 case neg =>
  have h0 := hid (kB q0.1 q0.2)
  have h1 := hid (nU q1)
  go_enter Tryz.func41, Tryz.ntmps41
  go_wp2_with (first | (go_at_call 42; refine (gY _ _ _ _).mono ?_; rw [h0.out]; rintro e w' ⟨rfl, rfl⟩) | (go_at_call 55; refine (jE _ _ _ _ hyc hyc').mono ?_; rw [h1.out]; rintro e w' ⟨rfl, rfl⟩))
  go_ret
  exact ⟨kL (Eq.symm (HA.out.trans (by first | rw [if_pos (by omega)] | rw [if_neg (by omega), if_pos (by omega)] | rw [if_neg (by omega), if_neg (by omega), if_pos (by omega)] | rw [if_neg (by omega), if_neg (by omega), if_neg (by omega), if_pos (by omega)] | rw [if_neg (by omega), if_neg (by omega), if_neg (by omega), if_neg (by omega)]))), (Below.refl _ _).alloc (Nat.le_refl _) _⟩
 have h0 := hid (kB q0.1 q0.2)
 have h1 := hid (gR q1.1 q1.2)
 go_enter Tryz.func41, Tryz.ntmps41
 go_wp2_with fail
 refine (gY _ _ _ _).mono ?_; rw [h0.out]; rintro e w' ⟨rfl, rfl⟩
 go_wp2_with fail
 refine (jE _ _ _ _ hyc hyc').mono ?_; rw [h1.out]; rintro e w' ⟨rfl, rfl⟩
 go_wp2_with fail
 ·go_ret
  exact ⟨kL (Eq.symm (HA.out.trans (by first | rw [if_pos (by omega)] | rw [if_neg (by omega), if_pos (by omega)] | rw [if_neg (by omega), if_neg (by omega), if_pos (by omega)] | rw [if_neg (by omega), if_neg (by omega), if_neg (by omega), if_pos (by omega)] | rw [if_neg (by omega), if_neg (by omega), if_neg (by omega), if_neg (by omega)]))), (Below.refl _ _).alloc (Nat.le_refl _) _⟩
 ·go_loop [58] (fun t => ∃ i : Nat, i ≤ 4 ∧ t = .int .i64 i ∧ (2 < i → l = 0)) (fun t => 4 - (intOf t).toNat)
  case atStart => exact ⟨0, by omega, rfl, by omega⟩
  case round =>
   obtain ⟨i, hi, rfl, hok⟩ := hrel
   have HOK := hid hok
   clear hok
   rcases (by omega : i = 0 ∨ i = 1 ∨ i = 2 ∨ i = 3 ∨ i = 4) with rfl | rfl | rfl | rfl | rfl
   all_goals
    go_wp2_with fail
   all_goals first
    | exact ⟨⟨1, by omega, rfl, (by have h := HOK.out; omega)⟩, by simp [intOf]⟩
    | exact ⟨⟨_, _, _, _, ⟨1, by omega, rfl, (by have h := HOK.out; omega)⟩, rfl, rfl, rfl, rfl⟩, by simp [intOf]⟩
    | exact ⟨⟨2, by omega, rfl, (by have h := HOK.out; omega)⟩, by simp [intOf]⟩
    | exact ⟨⟨_, _, _, _, ⟨2, by omega, rfl, (by have h := HOK.out; omega)⟩, rfl, rfl, rfl, rfl⟩, by simp [intOf]⟩
    | exact ⟨⟨3, by omega, rfl, (by have h := HOK.out; omega)⟩, by simp [intOf]⟩
    | exact ⟨⟨_, _, _, _, ⟨3, by omega, rfl, (by have h := HOK.out; omega)⟩, rfl, rfl, rfl, rfl⟩, by simp [intOf]⟩
    | exact ⟨⟨4, by omega, rfl, (by have h := HOK.out; omega)⟩, by simp [intOf]⟩
    | exact ⟨⟨_, _, _, _, ⟨4, by omega, rfl, (by have h := HOK.out; omega)⟩, rfl, rfl, rfl, rfl⟩, by simp [intOf]⟩
    | (go_ret; have h := HOK.out; exact ⟨kL (Eq.symm (HA.out.trans (by first | rw [if_pos (by omega)] | rw [if_neg (by omega), if_pos (by omega)] | rw [if_neg (by omega), if_neg (by omega), if_pos (by omega)] | rw [if_neg (by omega), if_neg (by omega), if_neg (by omega), if_pos (by omega)] | rw [if_neg (by omega), if_neg (by omega), if_neg (by omega), if_neg (by omega)]))), (Below.refl _ _).alloc (Nat.le_refl _) _⟩)
def AC (F : Fz) (v : Value) (kind : Int) (n y l x : List UInt8) : Prop := ∃ a b c d, v = .agg #[.int .i64 kind, a, b, c, d] ∧ Bs F a n ∧ Bs F b y ∧ Bs F c l ∧ Bs F d x
def tU (k : Nat) (n y l v : Nat) : Int := iU (RF.getD k 0).toNat n y l v
theorem tV (F : Fz) (w : World) (v : Value) (k : Nat) (n y l x : List UInt8) (k1 : 1 ≤ k) (k8 : k ≤ 8) (hh : Has w) (hv : AC F v k n y l x) :
    Calls Tryz.prog 41 #[v] w (cS w (.int .i64 (tU k n.length y.length l.length x.length))) := by
 obtain ⟨a, b, c, d, rfl, ha, hb, hc, hd⟩ := hv
 obtain ⟨a0, c0, rfl, e1, e2⟩ := ha.shape
 obtain ⟨a1, c1, rfl, e3, e4⟩ := hb.shape
 obtain ⟨a2, c2, rfl, e5, e6⟩ := hc.shape
 obtain ⟨a3, c3, rfl, e7, e8⟩ := hd.shape
 have f2 := e2
 have f4 := e4
 have f6 := e6
 have f8 := e8
 unfold maxLen at f2 f4 f6 f8
 have hg : 0 < w.heap.size := World.block_lt_of_cell? w ⟨0, 0, none⟩ (hh 0 (by decide))
 have hk := hh k (by simp [RF]; omega)
 unfold tU
 rcases (by omega : k = 1 ∨ k = 2 ∨ k = 3 ∨ k = 4 ∨ k = 5 ∨ k = 6 ∨ k = 7 ∨ k = 8) with rfl | rfl | rfl | rfl | rfl | rfl | rfl | rfl
 ·exact tS w 1 k1 k8 hg hk _ _ _ _ _ _ _ _ _ _ _ _ (by omega) (by omega) (by omega) (by omega) e3 e4 e5 e6
 ·exact tT w 2 k1 k8 hg hk _ _ _ _ _ _ _ _ _ _ _ _ (by omega) (by omega) (by omega) (by omega) e3 e4 e5 e6
 ·exact OO w 3 k1 k8 hg hk _ _ _ _ _ _ _ _ _ _ _ _ (by omega) (by omega) (by omega) (by omega) e3 e4 e5 e6
 ·exact KU w 4 k1 k8 hg hk _ _ _ _ _ _ _ _ _ _ _ _ (by omega) (by omega) (by omega) (by omega) e3 e4 e5 e6
 ·exact tT w 5 k1 k8 hg hk _ _ _ _ _ _ _ _ _ _ _ _ (by omega) (by omega) (by omega) (by omega) e3 e4 e5 e6
 ·exact tS w 6 k1 k8 hg hk _ _ _ _ _ _ _ _ _ _ _ _ (by omega) (by omega) (by omega) (by omega) e3 e4 e5 e6
 ·exact tS w 7 k1 k8 hg hk _ _ _ _ _ _ _ _ _ _ _ _ (by omega) (by omega) (by omega) (by omega) e3 e4 e5 e6
 ·exact tT w 8 k1 k8 hg hk _ _ _ _ _ _ _ _ _ _ _ _ (by omega) (by omega) (by omega) (by omega) e3 e4 e5 e6
theorem Has.below {w w' : World} (h : Has w) (hb : Below w.heap.size w w') : Has w' := fun i hi => by
  rw [hb.cell (World.block_lt_of_cell? w ⟨0, i, none⟩ (h i hi))]; exact h i hi
def bG (k : Nat) : Nat := (RF.getD k 0).toNat
def Rq.part (r : Rq) : Nat → By
  | 0 => r.name
  | 1 => r.key
  | 2 => r.last
  | _ => r.value
def Rq.put (r : Rq) : Nat → By → Rq
  | 0, p => { r with name := p }
  | 1, p => { r with key := p }
  | 2, p => { r with last := p }
  | _, p => { r with value := p }
def iB (h : Nat) (r : Rq) : Nat → By
  | 0 => []
  | i + 1 => iB h r i ++ yG (h.testBit i) (r.part i)
theorem RG (h : Nat) (r : Rq) : iB h r 4 = IQ h r := by
 simp [iB, IQ, Rq.part]
theorem uN {h i : Nat} (r : Rq) (e : h.testBit i = false) : iB h r (i + 1) = iB h r i := by
 simp [iB, yG, e]
theorem rW {h i : Nat} (r : Rq) (e : h.testBit i = true) : iB h r (i + 1) = iB h r i ++ b8 (r.part i).length :: r.part i := by
 simp [iB, yG, e, dI]
def eA (h : Nat) : Nat → Nat → Rq → By → Option (Rq × By)
  | 0, _, r, b => some (r, b)
  | n + 1, i, r, b => if h.testBit i = true then
      match iY b with
      | none => none
      | some p => eA h n (i + 1) (r.put i p.1) p.2
    else eA h n (i + 1) r b
theorem dO {h n i : Nat} {r : Rq} {b : By} (e : h.testBit i = false) : eA h (n + 1) i r b = eA h n (i + 1) r b := by
 rw [eA, if_neg (by rw [e]; decide)]
theorem bX {h n i : Nat} {r : Rq} {b : By} (e : h.testBit i = true) (k : iY b = none) : eA h (n + 1) i r b = none := by
 rw [eA, if_pos e, k]
theorem cO {h n i : Nat} {r : Rq} {b : By} {p : By × By} (e : h.testBit i = true) (k : iY b = some p) : eA h (n + 1) i r b = eA h n (i + 1) (r.put i p.1) p.2 := by
 rw [eA, if_pos e, k]
theorem OP (h : Nat) (b : By) : eA h 4 0 ⟨[], [], [], []⟩ b = oA h b := by
 unfold oA yF
 cases e0 : h.testBit 0
 ·rw [dO e0]
  cases e1 : h.testBit 1
  ·rw [dO e1]
   cases e2 : h.testBit 2
   ·rw [dO e2]
    cases e3 : h.testBit 3
    ·rw [dO e3]; simp [eA]
    ·cases k3 : iY b with
     | none => rw [bX e3 k3]; simp [k3]
     | some p3 => rw [cO e3 k3]; simp [k3, eA, Rq.put]
   ·cases k2 : iY b with
    | none => rw [bX e2 k2]; simp [k2]
    | some p2 =>
     rw [cO e2 k2]
     cases e3 : h.testBit 3
     ·rw [dO e3]; simp [k2, eA, Rq.put]
     ·cases k3 : iY p2.2 with
      | none => rw [bX e3 k3]; simp [k2, k3]
      | some p3 => rw [cO e3 k3]; simp [k2, k3, eA, Rq.put]
  ·cases k1 : iY b with
   | none => rw [bX e1 k1]; simp [k1]
   | some p1 =>
    rw [cO e1 k1]
    cases e2 : h.testBit 2
    ·rw [dO e2]
     cases e3 : h.testBit 3
     ·rw [dO e3]; simp [k1, eA, Rq.put]
     ·cases k3 : iY p1.2 with
      | none => rw [bX e3 k3]; simp [k1, k3]
      | some p3 => rw [cO e3 k3]; simp [k1, k3, eA, Rq.put]
    ·cases k2 : iY p1.2 with
     | none => rw [bX e2 k2]; simp [k1, k2]
     | some p2 =>
      rw [cO e2 k2]
      cases e3 : h.testBit 3
      ·rw [dO e3]; simp [k1, k2, eA, Rq.put]
      ·cases k3 : iY p2.2 with
       | none => rw [bX e3 k3]; simp [k1, k2, k3]
       | some p3 => rw [cO e3 k3]; simp [k1, k2, k3, eA, Rq.put]
 ·cases k0 : iY b with
  | none => rw [bX e0 k0]; simp [k0]
  | some p0 =>
   rw [cO e0 k0]
   cases e1 : h.testBit 1
   ·rw [dO e1]
    cases e2 : h.testBit 2
    ·rw [dO e2]
     cases e3 : h.testBit 3
     ·rw [dO e3]; simp [eA, Rq.put]
     ·cases k3 : iY p0.2 with
      | none => rw [bX e3 k3]; simp [k3]
      | some p3 => rw [cO e3 k3]; simp [k3, eA, Rq.put]
    ·cases k2 : iY p0.2 with
     | none => rw [bX e2 k2]; simp [k2]
     | some p2 =>
      rw [cO e2 k2]
      cases e3 : h.testBit 3
      ·rw [dO e3]; simp [k2, eA, Rq.put]
      ·cases k3 : iY p2.2 with
       | none => rw [bX e3 k3]; simp [k2, k3]
       | some p3 => rw [cO e3 k3]; simp [k2, k3, eA, Rq.put]
   ·cases k1 : iY p0.2 with
    | none => rw [bX e1 k1]; simp [k1]
    | some p1 =>
     rw [cO e1 k1]
     cases e2 : h.testBit 2
     ·rw [dO e2]
      cases e3 : h.testBit 3
      ·rw [dO e3]; simp [k1, eA, Rq.put]
      ·cases k3 : iY p1.2 with
       | none => rw [bX e3 k3]; simp [k1, k3]
       | some p3 => rw [cO e3 k3]; simp [k1, k3, eA, Rq.put]
     ·cases k2 : iY p1.2 with
      | none => rw [bX e2 k2]; simp [k1, k2]
      | some p2 =>
       rw [cO e2 k2]
       cases e3 : h.testBit 3
       ·rw [dO e3]; simp [k1, k2, eA, Rq.put]
       ·cases k3 : iY p2.2 with
        | none => rw [bX e3 k3]; simp [k1, k2, k3]
        | some p3 => rw [cO e3 k3]; simp [k1, k2, k3, eA, Rq.put]
theorem xP {b : By} (h : b.length = 0) : iY b = none := by
 rw [List.eq_nil_of_length_eq_zero h]; rfl
theorem rX {b : By} {x : UInt8} (h : b[0]? = some x) (k : b.length < 1 + x.toNat) : iY b = none := by
 cases b with
 | nil => cases h
 | cons y t =>
  simp only [List.getElem?_cons_zero, Option.some.injEq] at h
  subst h
  simp only [List.length_cons] at k
  rw [rE, if_pos (by omega)]
theorem uO {b : By} {x : UInt8} (h : b[0]? = some x) (k : ¬ b.length < 1 + x.toNat) : iY b = some ((b.take (1 + x.toNat)).drop 1, b.drop (1 + x.toNat)) := by
 cases b with
 | nil => cases h
 | cons y t =>
  simp only [List.getElem?_cons_zero, Option.some.injEq] at h
  subst h
  simp only [List.length_cons] at k
  rw [rE, if_neg (by omega), Nat.add_comm 1]
  simp
def wdE (b : By) : Int :=
  if 4000 < b.length then 1 else match b with
  | [] => 14
  | x :: t => if x.toNat < 1 ∨ 8 < x.toNat then 5 else match oA (bG x.toNat) t with
    | none => 14
    | some p => if 0 < p.2.length then 4 else tU x.toNat p.1.name.length p.1.key.length p.1.last.length p.1.value.length
def wdR (b : By) : Nat × Rq :=
  if wdE b = 0 then match b with
    | [] => (0, ⟨[], [], [], []⟩)
    | x :: t => match oA (bG x.toNat) t with
      | none => (0, ⟨[], [], [], []⟩)
      | some p => (x.toNat, p.1)
  else (0, ⟨[], [], [], []⟩)
theorem Af (k : Nat) (h : 1 ≤ k ∧ k ≤ 8) : bG k = 0 ∨ bG k = 3 ∨ bG k = 7 ∨ bG k = 11 := by
 rcases (by omega : k = 1 ∨ k = 2 ∨ k = 3 ∨ k = 4 ∨ k = 5 ∨ k = 6 ∨ k = 7 ∨ k = 8) with rfl | rfl | rfl | rfl | rfl | rfl | rfl | rfl <;> decide
theorem TR (k : Nat) (h : 1 ≤ k ∧ k ≤ 8) : (bG k).testBit 1 = (bG k).testBit 0 := by
 rcases Af k h with e | e | e | e <;> rw [e] <;> rfl
theorem qU {h n y l v : Nat} (e : iU h n y l v = 0) : (h.testBit 0 = true → 1 ≤ n ∧ n ≤ 8) ∧ (h.testBit 0 = true → 1 ≤ y ∧ y ≤ 16) ∧ (h.testBit 2 = true → 1 ≤ l ∧ l ≤ 16) ∧ v ≤ 32 ∧
    (h.testBit 0 = false → n = 0) ∧ (h.testBit 1 = false → y = 0) ∧ (h.testBit 2 = false → l = 0) ∧ (h.testBit 3 = false → v = 0) := by
 unfold iU at e
 split at e
 exact absurd e (by decide)
 split at e
 exact absurd e (by decide)
 split at e
 exact absurd e (by decide)
 split at e
 exact absurd e (by decide)
 split at e
 exact absurd e (by decide)
 rename_i q1 q2 q3 q4 q5
 refine ⟨fun hb => Decidable.byContradiction fun hn => q1 ⟨hb, hn⟩, fun hb => Decidable.byContradiction fun hn => q2 ⟨hb, hn⟩, fun hb => Decidable.byContradiction fun hn => q3 ⟨hb, hn⟩, by omega, fun hb => ?_, fun hb => ?_, fun hb => ?_, fun hb => ?_⟩
 exact Decidable.byContradiction fun hn => q5 (Or.inl ⟨by rw [hb]; decide, by omega⟩)
 exact Decidable.byContradiction fun hn => q5 (Or.inr (Or.inl ⟨by rw [hb]; decide, by omega⟩))
 exact Decidable.byContradiction fun hn => q5 (Or.inr (Or.inr (Or.inl ⟨by rw [hb]; decide, by omega⟩)))
 exact Decidable.byContradiction fun hn => q5 (Or.inr (Or.inr (Or.inr ⟨by rw [hb]; decide, by omega⟩)))
theorem Ey {k : Nat} (hk : 1 ≤ k ∧ k ≤ 8) {r : Rq} (h : tU k r.name.length r.key.length r.last.length r.value.length = 0) : FitsW (bG k) r := by
 obtain ⟨a1, a2, a3, a4, a5, a6, a7, a8⟩ := qU (h := bG k) h
 have hb := TR k hk
 have e0 : ∀ {l : By}, l.length = 0 → l = [] := fun h => List.eq_nil_of_length_eq_zero h
 refine ⟨⟨?_, fun q => e0 (a5 q)⟩, ⟨?_, fun q => e0 (a6 q)⟩, ⟨?_, fun q => e0 (a7 q)⟩, ⟨by omega, fun q => e0 (a8 q)⟩⟩
 cases e : (bG k).testBit 0
 have := a5 e; omega
 have := a1 e; omega
 cases e : (bG k).testBit 0
 have := a6 (hb.trans e); omega
 have := a2 e; omega
 cases e : (bG k).testBit 2
 have := a7 e; omega
 have := a3 e; omega
structure RqOk (k : Nat) (r : Rq) : Prop where
  kind : 1 ≤ k ∧ k ≤ 8
  fits : tU k r.name.length r.key.length r.last.length r.value.length = 0
def bU (k : Nat) (r : Rq) : By := b8 k :: IQ (bG k) r
theorem RqOk.lens {k : Nat} {r : Rq} (h : RqOk k r) : r.name.length ≤ 8 ∧ r.key.length ≤ 16 ∧ r.last.length ≤ 16 ∧ r.value.length ≤ 32 := by
 obtain ⟨a1, a2, a3, a4, a5, a6, a7, a8⟩ := qU (h := bG k) h.fits
 have hb := TR k h.kind
 refine ⟨?_, ?_, ?_, a4⟩
 cases e : (bG k).testBit 0
 have := a5 e; omega
 have := a1 e; omega
 cases e : (bG k).testBit 0
 have := a6 (hb.trans e); omega
 have := a2 e; omega
 cases e : (bG k).testBit 2
 have := a7 e; omega
 have := a3 e; omega
theorem tW (c : Bool) (p : By) : (yG c p).length ≤ p.length + 1 := by
 cases c <;> simp [yG, dI]
theorem OQ {k : Nat} {r : Rq} (h : RqOk k r) : (bU k r).length ≤ 77 := by
 obtain ⟨a1, a2, a3, a4⟩ := h.lens
 have := tW ((bG k).testBit 0) r.name
 have := tW ((bG k).testBit 1) r.key
 have := tW ((bG k).testBit 2) r.last
 have := tW ((bG k).testBit 3) r.value
 simp only [bU, IQ, List.length_cons, List.length_append]
 omega
theorem Ir {k : Nat} (hk : 1 ≤ k ∧ k ≤ 8) {t : By} (hl : t.length < 4000) : wdE (b8 k :: t) = match oA (bG k) t with
    | none => 14
    | some p => if 0 < p.2.length then 4 else tU k p.1.name.length p.1.key.length p.1.last.length p.1.value.length := by
  unfold wdE
  rw [if_neg (by simp only [List.length_cons]; omega)]
  have e : (b8 k).toNat = k := mJ (by omega)
  simp only [e]
  rw [if_neg (by omega)]
theorem uP {k : Nat} {r : Rq} (h : RqOk k r) : wdE (bU k r) = 0 ∧ wdR (bU k r) = (k, r) := by
 have hl := OQ h
 have hd := XM (Ey h.kind h.fits) []
 rw [List.append_nil] at hd
 have he : wdE (bU k r) = 0 := by
  unfold bU at hl ⊢
  rw [Ir h.kind (by simp only [List.length_cons] at hl; omega), hd]
  simp only [List.length_nil]
  rw [if_neg (by omega)]
  exact h.fits
 have e : (b8 k).toNat = k := mJ (by have := h.kind; omega)
 refine ⟨he, ?_⟩
 unfold wdR
 rw [if_pos he]
 unfold bU
 simp only [e, hd]
theorem OR {b : By} (h : wdE b = 0) : RqOk (wdR b).1 (wdR b).2 ∧ b = bU (wdR b).1 (wdR b).2 := by
 cases b with
 | nil => exact absurd h (by decide)
 | cons x t =>
  have hr : wdR (x :: t) = match oA (bG x.toNat) t with
    | none => (0, ⟨[], [], [], []⟩)
    | some p => (x.toNat, p.1) := by unfold wdR; rw [if_pos h]
  unfold wdE at h
  split at h
  exact absurd h (by decide)
  simp only at h
  split at h
  exact absurd h (by decide)
  rename_i hk
  cases hd : oA (bG x.toNat) t with
  | none => rw [hd] at h; simp at h
  | some p =>
   rw [hd] at h hr
   simp only at h hr
   split at h
   exact absurd h (by decide)
   rename_i hz
   rw [hr]
   have hi := (XN hd).1
   rw [List.eq_nil_of_length_eq_zero (by omega : p.2.length = 0), List.append_nil] at hi
   refine ⟨⟨by simp only; omega, h⟩, ?_⟩
   simp only [bU, RW]
   rw [← hi]
theorem Ez {b : By} (h : wdE b ≠ 0) : wdR b = (0, ⟨[], [], [], []⟩) := by unfold wdR; rw [if_neg h]
theorem jY {w : World} (h : Has w) {k : Nat} (hk : 1 ≤ k ∧ k ≤ 8) : w.cell? ⟨0, k, none⟩ = some (.int .i64 ((bG k : Nat) : Int)) := by
 have := h k (by simp [RF]; omega)
 rw [this]
 rcases (by omega : k = 1 ∨ k = 2 ∨ k = 3 ∨ k = 4 ∨ k = 5 ∨ k = 6 ∨ k = 7 ∨ k = 8) with rfl | rfl | rfl | rfl | rfl | rfl | rfl | rfl <;> rfl
theorem pL {h i : Nat} (e : h.testBit i = true) : h / 2 ^ i % 2 = 1 := by
 rw [Nat.testBit_eq_decide_div_mod_eq] at e
 exact of_decide_eq_true e
theorem tX {h i : Nat} (e : h.testBit i = false) : h / 2 ^ i % 2 = 0 := by
 rw [Nat.testBit_eq_decide_div_mod_eq] at e
 have := of_decide_eq_false e
 omega
theorem eX {P : Program} {ρ : Operand → Value} {w : World} {d : Option Tmp} {t X E : TypeId} {n : Nat} {pos : String} {after : Array Edge} {guard : Option (Nat × Bool)} {x y : Operand} {cs : Array Value} {i : Nat} {v : Value} (hX : P.underlying X = some (.array n E)) (hs : (sizeOf E).run P w = .ok 1 w) (hx : ρ x = .agg cs) (hy : ρ y = .int .i64 i) (hi : i < n) (hb : (isAgg E).run P w = .ok false w) (hv : cs[i]? = some v) :
    (execOp ρ ⟨d, .index X x y, t, pos, after, guard⟩).run P w = .ok (.value v) w := by
 have h1 : (0 : Int) ≤ (i : Int) ∧ (i : Int) < (n : Int) := by omega
 simp [execOp, hx, hy, Instr.index, part, Sem.run_bind, run_underlying hX w, asIntOf, hs, h1, hb, hv, hi]
theorem fW {P : Program} {ρ : Operand → Value} {w : World} {d : Option Tmp} {t X E : TypeId} {n : Nat} {pos : String} {after : Array Edge} {guard : Option (Nat × Bool)} {x y : Operand} {b i : Nat} (hX : P.underlying X = some (.array n E)) (hs : (sizeOf E).run P w = .ok 1 w) (hx : ρ x = .pointer (some ⟨b, 0, none⟩)) (hy : ρ y = .int .i64 i) (hi : i < n) :
    (execOp ρ ⟨d, .indexAddr X x y, t, pos, after, guard⟩).run P w = .ok (.value (.pointer (some ⟨b, i, none⟩))) w := by
 have hadd : (⟨b, 0, none⟩ : Addr).add (i * 1) = ⟨b, i, none⟩ := by rw [Addr.add_mid]; simp
 have hlt : (0 : Int) ≤ (i : Int) ∧ (i : Int) < (n : Int) := by omega
 have hlt' : ¬ ((i : Int) < 0 ∨ (n : Int) ≤ (i : Int)) := by omega
 simp only [Nat.mul_one] at hadd
 simp [execOp, hx, hy, Instr.indexAt, Instr.sureAddr, asIntOf, Sem.run_bind, Sem.run_pure, Result.andThen_ok, run_underlying hX w, hs, hadd, hlt, hi]
theorem iF {P : Program} {ρ : Operand → Value} {w : World} {d : Option Tmp} {t X Y : TypeId} {x y : Operand} {pos : String} {after : Array Edge} {guard : Option (Nat × Bool)} {m n : Nat} (hx : ρ x = .int .i64 (m : Int)) (hy : ρ y = .int .i64 (n : Int)) (hn : n ≤ 64) : (execOp ρ ⟨d, .binOp .shr X x y Y, t, pos, after, guard⟩).run P w = .ok (.value (.int .i64 ((m / 2 ^ n : Nat) : Int))) w := by
 have e : (eqGuard .shr X x y (.int .i64 (m : Int)) (.int .i64 (n : Int))).run P w = .ok () w := rfl
 have h : (binOp .shr X (.int .i64 (m : Int)) (.int .i64 (n : Int))).run P w = .ok (.int .i64 ((m / 2 ^ n : Nat) : Int)) w := by
  show (Op.shift .shr .i64 (m : Int) .i64 (n : Int)).run P w = _
  unfold Op.shift
  rw [if_neg (by omega)]
  show Result.ok (Value.int .i64 (Int.fdiv (m : Int) (2 ^ (min (n : Int).toNat 64)))) w = _
  rw [Int.toNat_natCast, Nat.min_eq_left hn, Int.fdiv_eq_ediv_of_nonneg _ (show (0 : Int) ≤ 2 ^ n from Int.le_of_lt (Int.pow_pos (by decide)))]
  simp
 simp only [execOp, hx, hy, Sem.run_bind, e, Result.andThen_ok, h, Sem.run_pure]
theorem eY {P : Program} {ρ : Operand → Value} {w : World} {d : Option Tmp} {t X Y : TypeId} {x y : Operand} {pos : String} {after : Array Edge} {guard : Option (Nat × Bool)} {m : Nat} (hx : ρ x = .int .i64 (m : Int)) (hy : ρ y = .int .i64 1) : (execOp ρ ⟨d, .binOp .and X x y Y, t, pos, after, guard⟩).run P w = .ok (.value (.int .i64 ((m % 2 : Nat) : Int))) w := by
 refine kK hx hy ?_
 rw [eP _ (by simp)]
 show Result.ok (Value.int .i64 (IntKind.i64.wrap ((BitVec.ofInt 64 (m : Int) &&& BitVec.ofInt 64 (1 : Int)).toNat : Int))) w = _
 have h1 : (BitVec.ofInt 64 (m : Int) &&& BitVec.ofInt 64 (1 : Int)).toNat = m % 2 := by
  rw [BitVec.toNat_and, BitVec.ofInt_natCast, show BitVec.ofInt 64 (1 : Int) = 1#64 from rfl, BitVec.toNat_ofNat, show (1#64).toNat = 1 from rfl, Nat.and_one_is_mod]
  omega
 rw [h1, lV (by omega) (by omega)]
theorem mC (F : Fz) (w : World) (v : Value) (k : Nat) (r : Rq) (hh : Has w) (hv : AC F v k r.name r.key r.last r.value) (ok : RqOk k r) :
    Calls Tryz.prog 41 #[v] w (cS w (.int .i64 0)) := by
 have := tV F w v k r.name r.key r.last r.value ok.kind.1 ok.kind.2 hh hv
 rwa [ok.fits] at this
def Jc (b : By) (F : Fz) (u : Value) : Prop := ∃ x, u = .tuple #[x, .int .i64 0] ∧ Bs F x b
theorem jP {k : Nat} {r : Rq} (ok : RqOk k r) : ∀ i, i ≤ 4 → (iB (bG k) r i).length ≤ 33 * i := by
 obtain ⟨a1, a2, a3, a4⟩ := ok.lens
 intro i hi
 have h : ∀ j, j < 4 → (r.part j).length ≤ 32 := fun j hj => by
  rcases (by omega : j = 0 ∨ j = 1 ∨ j = 2 ∨ j = 3) with rfl | rfl | rfl | rfl
  ·exact Nat.le_trans a1 (by omega)
  ·exact Nat.le_trans a2 (by omega)
  ·exact Nat.le_trans a3 (by omega)
  ·exact a4
 clear a1 a2 a3 a4
 induction i with
 | zero => simp [iB]
 | succ i ih =>
  have := ih (by omega)
  have := h i (by omega)
  have := tW ((bG k).testBit i) (r.part i)
  simp only [iB, List.length_append]
  omega
theorem AD (F : Fz) (w : World) (v : Value) (k : Nat) (r : Rq) (hs : Sat w F) (hh : Has w) (hv : AC F v k r.name r.key r.last r.value) (ok : RqOk k r) :
    Calls Tryz.prog 31 #[v] w (dB w F (Jc (bU k r))) := by
 have hk := ok.kind
 obtain ⟨a1, a2, a3, a4⟩ := ok.lens
 obtain ⟨_, _, _, _, rfl, h0, h1, h2, h3⟩ := hv
 obtain ⟨x0, y0, rfl, _⟩ := h0.shape
 obtain ⟨x1, y1, rfl, _⟩ := h1.shape
 obtain ⟨x2, y2, rfl, _⟩ := h2.shape
 obtain ⟨x3, y3, rfl, _⟩ := h3.shape
 obtain ⟨i5, hi5, hz5, hs5, hb5⟩ := info_parts sJ
 have S := St.start hs
 go_enter Tryz.func31, Tryz.ntmps31
 refine sk fun K1 hK1 => ?_
 refine bA S (v := fun n => .pointer (aA n 0)) rfl (bZ (v := (.agg #[(nI k), (.slice x0 r.name.length y0), (.slice x1 r.key.length y1), (.slice x2 r.last.length y2), (.slice x3 r.value.length y3)])) rfl) (fun n2 w3 S4 => ?_)
 iterate 2 refine dy ?_
 refine wn hK1 ?_
 refine aE fun K5 hK5 => ?_
 refine sk fun K6 hK6 => ?_
 refine dR S4 0 Tryz.underlying27 (aY) ?_
 simp only [pq]
 refine aI (v := (iI 0)) S4 rfl (fn1 (JR _ _)) (mC _ _ _ k r (hh.below S4.gr.below) ⟨_, _, _, _, rfl, h0, h1, h2, h3⟩ ok) (fun w7 S8 => ?_)
 refine dy ?_
 refine wn hK6 ?_
 refine sk fun K9 hK9 => ?_
 refine dx ?_
 refine dr bF (cG (m := (0 : Int)) (n := (0 : Int)) (b := false) rfl rfl (bne_eq_false_iff_eq.2 (rfl))) ?_
 simp only [pq]
 refine wn hK9 ?_
 refine aF ?_
 refine aH ?_
 refine hK5 _ _ ?_
 refine sk fun g0 b7 => ?_
 refine aC ?_
 refine dr (bv (b8 k)) (bB (v := (nI k)) rfl (iT k _)) ?_
 simp only [pq]
 refine bA S8 (v := fun n => .slice (aA n 0) 1 1) rfl (bY (ps := #[(0, (bv (b8 k)))]) (cells := #[(bv (b8 k))]) (E := 5) (cJ rfl) (fun w => by kernel_rfl)) (fun b9 e1 d2 => ?_)
 refine dy ?_
 refine wn b7 ?_
 refine aE fun g1 c0 => ?_
 refine sk fun g2 c1 => ?_
 refine aC ?_
 refine dr (.agg #[(.slice x0 r.name.length y0), (.slice x1 r.key.length y1), (.slice x2 r.last.length y2), (.slice x3 r.value.length y3)]) (aK (oD rfl rfl rfl rfl) (by kernel_rfl)) ?_
 simp only [pq]
 refine dx ?_
 refine wn c1 ?_
 refine aM ?_
 have e2 : St w F e1 F [⟨n2, [(nI k), (.slice x0 r.name.length y0), (.slice x1 r.key.length y1), (.slice x2 r.last.length y2), (.slice x3 r.value.length y3)], 27⟩] [cE 1 ByC ByC.mono 5 w.heap.size (.slice (aA b9 0) 1 1) [b8 k]] := St.blkRow (k := 1) (l := [b8 k]) (el := [[(bv (b8 k))]]) (hR := ByC.mono) d2 rfl ⟨rfl, trivial⟩ (by simp) rfl (by simp) (by unfold maxLen; decide) (d2.blk _ (List.mem_cons_self ..)).2.2
 refine bC (fun mm aa e3 => ∃ (i : Nat) (v : Value) (a9 : Fz) (b1 : Nat → Value), mm = 4 - i ∧ b1 = eI aa ∧ aa = ⟨([(.agg #[(nI k), (.slice x0 r.name.length y0), (.slice x1 r.key.length y1), (.slice x2 r.last.length y2), (.slice x3 r.value.length y3)]), (pP n2 0), Zn, (iI 0), (iI 0), v, (b1 6), (b1 7), (.agg #[(nI k), (.slice x0 r.name.length y0), (.slice x1 r.key.length y1), (.slice x2 r.last.length y2), (.slice x3 r.value.length y3)]), (iI 0), (iI 0), bF, undef, (pP n2 0), (nI k), (bv (b8 k)), (.slice (aA b9 0) 1 1), (pP n2 1), (.slice x0 r.name.length y0), (pP n2 2), (.slice x1 r.key.length y1), (pP n2 3), (.slice x2 r.last.length y2), (pP n2 4), (.slice x3 r.value.length y3), (.agg #[(.slice x0 r.name.length y0), (.slice x1 r.key.length y1), (.slice x2 r.last.length y2), (.slice x3 r.value.length y3)]), (nI i)] ++ (usF b1 27 20 [undef])).toArray, []⟩ ∧ St w F e3 a9 [⟨n2, [(nI k), (.slice x0 r.name.length y0), (.slice x1 r.key.length y1), (.slice x2 r.last.length y2), (.slice x3 r.value.length y3)], 27⟩] [cE 1 ByC ByC.mono 5 w.heap.size v (b8 k :: iB (bG k) r i)] ∧ Le F a9 ∧ (i ≤ 4)) _ ⟨0, (.slice (aA b9 0) 1 1), F, _, rfl, rfl, rfl, e2, Le.refl _, (by omega)⟩ ?_
 rintro g3 g4 g5 ⟨i, v, a9, b1, rfl, -, hfr, a5, a0, hi4⟩ g6 a6
 simp only [uzF, Nat.reduceAdd] at hfr; subst hfr
 refine sk fun g7 b2 => ?_
 by_cases e4 : i < 4
 ·refine fJ ?_
  refine wn b2 ?_
  refine aE fun g8 c2 => ?_
  refine aL ?_
  refine aH ?_
  refine c2 _ _ ?_
  refine aE fun g9 a7 => ?_
  refine aM ?_
  refine aE fun h5 a8 => ?_
  rcases (by omega : i = 0 ∨ i = 1 ∨ i = 2 ∨ i = 3) with h4 | h4 | h4 | h4
  ·by_cases he : (bG k).testBit i = true
   ·have hx := pL he
    have hpl := jP ok i (by omega)
    refine aB ?_
    refine dx ?_
    refine dr (.slice x0 r.name.length y0) (eX (i := i) Tryz.underlying91 (iK _) rfl rfl (by omega) (bH _) (by rw [h4]; rfl)) ?_
    refine aC ?_
    refine wlK a8 ?_
    refine sk fun h6 c3 => ?_
    refine aC ?_
    refine dr (pP 0 k) (fW (i := k) Tryz.underlying92 (eC _) rfl rfl (by omega)) ?_
    simp only [pq]
    refine dr _ (aD rfl (aT (bM _) (jY (hh.below a5.gr.below) hk))) ?_
    refine dx ?_
    refine dr (nI ((bG k) / 2 ^ i)) (iF (m := (bG k)) (n := i) rfl rfl (by omega)) ?_
    simp only [pq]
    refine dr (.int .i64 (((((bG k) / 2 ^ i) % 2) : Nat) : Int)) (eY (m := ((bG k) / 2 ^ i)) rfl rfl) ?_
    refine dr bT (bW (m := (((((bG k) / 2 ^ i) % 2) : Nat) : Int)) (n := (1 : Int)) (b := true) rfl rfl (beq_iff_eq.2 (by rw [hx]; rfl))) ?_
    refine wn c3 ?_
    refine aL ?_
    refine aB ?_
    refine aC ?_
    refine dr (bv (b8 r.name.length)) (bB (v := (nI r.name.length)) rfl (iT r.name.length _)) ?_
    refine bA a5 (v := fun n => .slice (aA n 0) 1 1) rfl (bY (ps := #[(0, (bv (b8 r.name.length)))]) (cells := #[(bv (b8 r.name.length))]) (E := 5) (cJ rfl) (fun w => by kernel_rfl)) (fun h7 h8 d3 => ?_)
    refine fB (i := 0) (r := 0) (p := (b8 r.name.length)) (cs := [(bv (b8 r.name.length))]) d3 rfl i5 (.int .u8 0) 1 Tryz.underlying25 hi5 hz5 hs5 hb5 rfl (by decide) rfl rfl rfl rfl rfl (rS (b8 r.name.length)) (rfl) (Nat.le_refl _) d3.gr.below.size (by unfold maxLen; simp only [List.length_cons, List.length_append]; omega) (by simp only [List.length_cons, List.length_append]; omega) ?_
    intro h9 i0 b3 e5
    simp only [pq]
    have b3 := St.drop b3 (.cons _ (List.Sublist.refl _))
    refine dx ?_
    refine eK (r := 0) (u := (.slice x0 r.name.length y0)) b3 rfl i5 (.int .u8 0) 1 Tryz.underlying25 hi5 hz5 hs5 hb5 rfl (by decide) rfl rfl rfl (Sl.toW (Bs.sl (h0.mono a0)) (b3).sat) ByC.one (Nat.le_refl _) b3.gr.below.size (by unfold maxLen; simp only [List.length_cons, List.length_append, List.length_nil]; omega) (by simp only [List.length_cons, List.length_append, List.length_nil]; omega) ?_
    intro e6 i1 d4 e7
    refine dy ?_
    refine wlK a7 ?_
    rw [show (((b8 k :: iB (bG k) r i) ++ [(b8 r.name.length)]) ++ r.name) = b8 k :: iB (bG k) r (i + 1) from by rw [rW r he, h4]; simp [Rq.part]] at d4
    refine aB ?_
    refine cR (i + 1) ?_
    refine dx ?_
    simp only [pq]
    refine aG ?_
    exact a6 _ _ _ (by omega) ⟨(i + 1), e6, a9, _, rfl, rfl, rfl, d4, a0, (by omega)⟩
   ·have he : (bG k).testBit i = false := by simpa using he
    have hx := tX he
    have hpl := jP ok i (by omega)
    refine aB ?_
    refine dx ?_
    refine dr (.slice x0 r.name.length y0) (eX (i := i) Tryz.underlying91 (iK _) rfl rfl (by omega) (bH _) (by rw [h4]; rfl)) ?_
    refine aC ?_
    refine wlK a8 ?_
    refine sk fun i2 c4 => ?_
    refine aC ?_
    refine dr (pP 0 k) (fW (i := k) Tryz.underlying92 (eC _) rfl rfl (by omega)) ?_
    simp only [pq]
    refine dr _ (aD rfl (aT (bM _) (jY (hh.below a5.gr.below) hk))) ?_
    refine dx ?_
    refine dr (nI ((bG k) / 2 ^ i)) (iF (m := (bG k)) (n := i) rfl rfl (by omega)) ?_
    simp only [pq]
    refine dr (.int .i64 (((((bG k) / 2 ^ i) % 2) : Nat) : Int)) (eY (m := ((bG k) / 2 ^ i)) rfl rfl) ?_
    refine dr bF (bW (m := (((((bG k) / 2 ^ i) % 2) : Nat) : Int)) (n := (1 : Int)) (b := false) rfl rfl (beq_eq_false_iff_ne.2 (by rw [hx]; decide))) ?_
    refine wn c4 ?_
    refine aF ?_
    refine aH ?_
    refine a7 _ _ ?_
    rw [← uN r he] at a5
    refine aB ?_
    refine cR (i + 1) ?_
    refine dx ?_
    simp only [pq]
    refine aG ?_
    exact a6 _ _ _ (by omega) ⟨(i + 1), v, a9, _, rfl, rfl, rfl, a5, a0, (by omega)⟩
  ·by_cases he : (bG k).testBit i = true
   ·have hx := pL he
    have hpl := jP ok i (by omega)
    refine aB ?_
    refine dx ?_
    refine dr (.slice x1 r.key.length y1) (eX (i := i) Tryz.underlying91 (iK _) rfl rfl (by omega) (bH _) (by rw [h4]; rfl)) ?_
    refine aC ?_
    refine wlK a8 ?_
    refine sk fun i3 c5 => ?_
    refine aC ?_
    refine dr (pP 0 k) (fW (i := k) Tryz.underlying92 (eC _) rfl rfl (by omega)) ?_
    simp only [pq]
    refine dr _ (aD rfl (aT (bM _) (jY (hh.below a5.gr.below) hk))) ?_
    refine dx ?_
    refine dr (nI ((bG k) / 2 ^ i)) (iF (m := (bG k)) (n := i) rfl rfl (by omega)) ?_
    simp only [pq]
    refine dr (.int .i64 (((((bG k) / 2 ^ i) % 2) : Nat) : Int)) (eY (m := ((bG k) / 2 ^ i)) rfl rfl) ?_
    refine dr bT (bW (m := (((((bG k) / 2 ^ i) % 2) : Nat) : Int)) (n := (1 : Int)) (b := true) rfl rfl (beq_iff_eq.2 (by rw [hx]; rfl))) ?_
    refine wn c5 ?_
    refine aL ?_
    refine aB ?_
    refine aC ?_
    refine dr (bv (b8 r.key.length)) (bB (v := (nI r.key.length)) rfl (iT r.key.length _)) ?_
    refine bA a5 (v := fun n => .slice (aA n 0) 1 1) rfl (bY (ps := #[(0, (bv (b8 r.key.length)))]) (cells := #[(bv (b8 r.key.length))]) (E := 5) (cJ rfl) (fun w => by kernel_rfl)) (fun i4 i6 d5 => ?_)
    refine fB (i := 0) (r := 0) (p := (b8 r.key.length)) (cs := [(bv (b8 r.key.length))]) d5 rfl i5 (.int .u8 0) 1 Tryz.underlying25 hi5 hz5 hs5 hb5 rfl (by decide) rfl rfl rfl rfl rfl (rS (b8 r.key.length)) (rfl) (Nat.le_refl _) d5.gr.below.size (by unfold maxLen; simp only [List.length_cons, List.length_append]; omega) (by simp only [List.length_cons, List.length_append]; omega) ?_
    intro i7 i8 b4 e8
    simp only [pq]
    have b4 := St.drop b4 (.cons _ (List.Sublist.refl _))
    refine dx ?_
    refine eK (r := 0) (u := (.slice x1 r.key.length y1)) b4 rfl i5 (.int .u8 0) 1 Tryz.underlying25 hi5 hz5 hs5 hb5 rfl (by decide) rfl rfl rfl (Sl.toW (Bs.sl (h1.mono a0)) (b4).sat) ByC.one (Nat.le_refl _) b4.gr.below.size (by unfold maxLen; simp only [List.length_cons, List.length_append, List.length_nil]; omega) (by simp only [List.length_cons, List.length_append, List.length_nil]; omega) ?_
    intro e9 i9 d6 f0
    refine dy ?_
    refine wlK a7 ?_
    rw [show (((b8 k :: iB (bG k) r i) ++ [(b8 r.key.length)]) ++ r.key) = b8 k :: iB (bG k) r (i + 1) from by rw [rW r he, h4]; simp [Rq.part]] at d6
    refine aB ?_
    refine cR (i + 1) ?_
    refine dx ?_
    simp only [pq]
    refine aG ?_
    exact a6 _ _ _ (by omega) ⟨(i + 1), e9, a9, _, rfl, rfl, rfl, d6, a0, (by omega)⟩
   ·have he : (bG k).testBit i = false := by simpa using he
    have hx := tX he
    have hpl := jP ok i (by omega)
    refine aB ?_
    refine dx ?_
    refine dr (.slice x1 r.key.length y1) (eX (i := i) Tryz.underlying91 (iK _) rfl rfl (by omega) (bH _) (by rw [h4]; rfl)) ?_
    refine aC ?_
    refine wlK a8 ?_
    refine sk fun j0 c6 => ?_
    refine aC ?_
    refine dr (pP 0 k) (fW (i := k) Tryz.underlying92 (eC _) rfl rfl (by omega)) ?_
    simp only [pq]
    refine dr _ (aD rfl (aT (bM _) (jY (hh.below a5.gr.below) hk))) ?_
    refine dx ?_
    refine dr (nI ((bG k) / 2 ^ i)) (iF (m := (bG k)) (n := i) rfl rfl (by omega)) ?_
    simp only [pq]
    refine dr (.int .i64 (((((bG k) / 2 ^ i) % 2) : Nat) : Int)) (eY (m := ((bG k) / 2 ^ i)) rfl rfl) ?_
    refine dr bF (bW (m := (((((bG k) / 2 ^ i) % 2) : Nat) : Int)) (n := (1 : Int)) (b := false) rfl rfl (beq_eq_false_iff_ne.2 (by rw [hx]; decide))) ?_
    refine wn c6 ?_
    refine aF ?_
    refine aH ?_
    refine a7 _ _ ?_
    rw [← uN r he] at a5
    refine aB ?_
    refine cR (i + 1) ?_
    refine dx ?_
    simp only [pq]
    refine aG ?_
    exact a6 _ _ _ (by omega) ⟨(i + 1), v, a9, _, rfl, rfl, rfl, a5, a0, (by omega)⟩
  ·by_cases he : (bG k).testBit i = true
   ·have hx := pL he
    have hpl := jP ok i (by omega)
    refine aB ?_
    refine dx ?_
    refine dr (.slice x2 r.last.length y2) (eX (i := i) Tryz.underlying91 (iK _) rfl rfl (by omega) (bH _) (by rw [h4]; rfl)) ?_
    refine aC ?_
    refine wlK a8 ?_
    refine sk fun j1 c7 => ?_
    refine aC ?_
    refine dr (pP 0 k) (fW (i := k) Tryz.underlying92 (eC _) rfl rfl (by omega)) ?_
    simp only [pq]
    refine dr _ (aD rfl (aT (bM _) (jY (hh.below a5.gr.below) hk))) ?_
    refine dx ?_
    refine dr (nI ((bG k) / 2 ^ i)) (iF (m := (bG k)) (n := i) rfl rfl (by omega)) ?_
    simp only [pq]
    refine dr (.int .i64 (((((bG k) / 2 ^ i) % 2) : Nat) : Int)) (eY (m := ((bG k) / 2 ^ i)) rfl rfl) ?_
    refine dr bT (bW (m := (((((bG k) / 2 ^ i) % 2) : Nat) : Int)) (n := (1 : Int)) (b := true) rfl rfl (beq_iff_eq.2 (by rw [hx]; rfl))) ?_
    refine wn c7 ?_
    refine aL ?_
    refine aB ?_
    refine aC ?_
    refine dr (bv (b8 r.last.length)) (bB (v := (nI r.last.length)) rfl (iT r.last.length _)) ?_
    refine bA a5 (v := fun n => .slice (aA n 0) 1 1) rfl (bY (ps := #[(0, (bv (b8 r.last.length)))]) (cells := #[(bv (b8 r.last.length))]) (E := 5) (cJ rfl) (fun w => by kernel_rfl)) (fun j2 j3 d7 => ?_)
    refine fB (i := 0) (r := 0) (p := (b8 r.last.length)) (cs := [(bv (b8 r.last.length))]) d7 rfl i5 (.int .u8 0) 1 Tryz.underlying25 hi5 hz5 hs5 hb5 rfl (by decide) rfl rfl rfl rfl rfl (rS (b8 r.last.length)) (rfl) (Nat.le_refl _) d7.gr.below.size (by unfold maxLen; simp only [List.length_cons, List.length_append]; omega) (by simp only [List.length_cons, List.length_append]; omega) ?_
    intro j4 j5 b5 f1
    simp only [pq]
    have b5 := St.drop b5 (.cons _ (List.Sublist.refl _))
    refine dx ?_
    refine eK (r := 0) (u := (.slice x2 r.last.length y2)) b5 rfl i5 (.int .u8 0) 1 Tryz.underlying25 hi5 hz5 hs5 hb5 rfl (by decide) rfl rfl rfl (Sl.toW (Bs.sl (h2.mono a0)) (b5).sat) ByC.one (Nat.le_refl _) b5.gr.below.size (by unfold maxLen; simp only [List.length_cons, List.length_append, List.length_nil]; omega) (by simp only [List.length_cons, List.length_append, List.length_nil]; omega) ?_
    intro f2 j6 d8 f3
    refine dy ?_
    refine wlK a7 ?_
    rw [show (((b8 k :: iB (bG k) r i) ++ [(b8 r.last.length)]) ++ r.last) = b8 k :: iB (bG k) r (i + 1) from by rw [rW r he, h4]; simp [Rq.part]] at d8
    refine aB ?_
    refine cR (i + 1) ?_
    refine dx ?_
    simp only [pq]
    refine aG ?_
    exact a6 _ _ _ (by omega) ⟨(i + 1), f2, a9, _, rfl, rfl, rfl, d8, a0, (by omega)⟩
   ·have he : (bG k).testBit i = false := by simpa using he
    have hx := tX he
    have hpl := jP ok i (by omega)
    refine aB ?_
    refine dx ?_
    refine dr (.slice x2 r.last.length y2) (eX (i := i) Tryz.underlying91 (iK _) rfl rfl (by omega) (bH _) (by rw [h4]; rfl)) ?_
    refine aC ?_
    refine wlK a8 ?_
    refine sk fun j7 c8 => ?_
    refine aC ?_
    refine dr (pP 0 k) (fW (i := k) Tryz.underlying92 (eC _) rfl rfl (by omega)) ?_
    simp only [pq]
    refine dr _ (aD rfl (aT (bM _) (jY (hh.below a5.gr.below) hk))) ?_
    refine dx ?_
    refine dr (nI ((bG k) / 2 ^ i)) (iF (m := (bG k)) (n := i) rfl rfl (by omega)) ?_
    simp only [pq]
    refine dr (.int .i64 (((((bG k) / 2 ^ i) % 2) : Nat) : Int)) (eY (m := ((bG k) / 2 ^ i)) rfl rfl) ?_
    refine dr bF (bW (m := (((((bG k) / 2 ^ i) % 2) : Nat) : Int)) (n := (1 : Int)) (b := false) rfl rfl (beq_eq_false_iff_ne.2 (by rw [hx]; decide))) ?_
    refine wn c8 ?_
    refine aF ?_
    refine aH ?_
    refine a7 _ _ ?_
    rw [← uN r he] at a5
    refine aB ?_
    refine cR (i + 1) ?_
    refine dx ?_
    simp only [pq]
    refine aG ?_
    exact a6 _ _ _ (by omega) ⟨(i + 1), v, a9, _, rfl, rfl, rfl, a5, a0, (by omega)⟩
  ·by_cases he : (bG k).testBit i = true
   ·have hx := pL he
    have hpl := jP ok i (by omega)
    refine aB ?_
    refine dx ?_
    refine dr (.slice x3 r.value.length y3) (eX (i := i) Tryz.underlying91 (iK _) rfl rfl (by omega) (bH _) (by rw [h4]; rfl)) ?_
    refine aC ?_
    refine wlK a8 ?_
    refine sk fun j8 c9 => ?_
    refine aC ?_
    refine dr (pP 0 k) (fW (i := k) Tryz.underlying92 (eC _) rfl rfl (by omega)) ?_
    simp only [pq]
    refine dr _ (aD rfl (aT (bM _) (jY (hh.below a5.gr.below) hk))) ?_
    refine dx ?_
    refine dr (nI ((bG k) / 2 ^ i)) (iF (m := (bG k)) (n := i) rfl rfl (by omega)) ?_
    simp only [pq]
    refine dr (.int .i64 (((((bG k) / 2 ^ i) % 2) : Nat) : Int)) (eY (m := ((bG k) / 2 ^ i)) rfl rfl) ?_
    refine dr bT (bW (m := (((((bG k) / 2 ^ i) % 2) : Nat) : Int)) (n := (1 : Int)) (b := true) rfl rfl (beq_iff_eq.2 (by rw [hx]; rfl))) ?_
    refine wn c9 ?_
    refine aL ?_
    refine aB ?_
    refine aC ?_
    refine dr (bv (b8 r.value.length)) (bB (v := (nI r.value.length)) rfl (iT r.value.length _)) ?_
    refine bA a5 (v := fun n => .slice (aA n 0) 1 1) rfl (bY (ps := #[(0, (bv (b8 r.value.length)))]) (cells := #[(bv (b8 r.value.length))]) (E := 5) (cJ rfl) (fun w => by kernel_rfl)) (fun j9 k0 d9 => ?_)
    refine fB (i := 0) (r := 0) (p := (b8 r.value.length)) (cs := [(bv (b8 r.value.length))]) d9 rfl i5 (.int .u8 0) 1 Tryz.underlying25 hi5 hz5 hs5 hb5 rfl (by decide) rfl rfl rfl rfl rfl (rS (b8 r.value.length)) (rfl) (Nat.le_refl _) d9.gr.below.size (by unfold maxLen; simp only [List.length_cons, List.length_append]; omega) (by simp only [List.length_cons, List.length_append]; omega) ?_
    intro k1 k2 b6 f4
    simp only [pq]
    have b6 := St.drop b6 (.cons _ (List.Sublist.refl _))
    refine dx ?_
    refine eK (r := 0) (u := (.slice x3 r.value.length y3)) b6 rfl i5 (.int .u8 0) 1 Tryz.underlying25 hi5 hz5 hs5 hb5 rfl (by decide) rfl rfl rfl (Sl.toW (Bs.sl (h3.mono a0)) (b6).sat) ByC.one (Nat.le_refl _) b6.gr.below.size (by unfold maxLen; simp only [List.length_cons, List.length_append, List.length_nil]; omega) (by simp only [List.length_cons, List.length_append, List.length_nil]; omega) ?_
    intro f5 k3 e0 f6
    refine dy ?_
    refine wlK a7 ?_
    rw [show (((b8 k :: iB (bG k) r i) ++ [(b8 r.value.length)]) ++ r.value) = b8 k :: iB (bG k) r (i + 1) from by rw [rW r he, h4]; simp [Rq.part]] at e0
    refine aB ?_
    refine cR (i + 1) ?_
    refine dx ?_
    simp only [pq]
    refine aG ?_
    exact a6 _ _ _ (by omega) ⟨(i + 1), f5, a9, _, rfl, rfl, rfl, e0, a0, (by omega)⟩
   ·have he : (bG k).testBit i = false := by simpa using he
    have hx := tX he
    have hpl := jP ok i (by omega)
    refine aB ?_
    refine dx ?_
    refine dr (.slice x3 r.value.length y3) (eX (i := i) Tryz.underlying91 (iK _) rfl rfl (by omega) (bH _) (by rw [h4]; rfl)) ?_
    refine aC ?_
    refine wlK a8 ?_
    refine sk fun k4 d0 => ?_
    refine aC ?_
    refine dr (pP 0 k) (fW (i := k) Tryz.underlying92 (eC _) rfl rfl (by omega)) ?_
    simp only [pq]
    refine dr _ (aD rfl (aT (bM _) (jY (hh.below a5.gr.below) hk))) ?_
    refine dx ?_
    refine dr (nI ((bG k) / 2 ^ i)) (iF (m := (bG k)) (n := i) rfl rfl (by omega)) ?_
    simp only [pq]
    refine dr (.int .i64 (((((bG k) / 2 ^ i) % 2) : Nat) : Int)) (eY (m := ((bG k) / 2 ^ i)) rfl rfl) ?_
    refine dr bF (bW (m := (((((bG k) / 2 ^ i) % 2) : Nat) : Int)) (n := (1 : Int)) (b := false) rfl rfl (beq_eq_false_iff_ne.2 (by rw [hx]; decide))) ?_
    refine wn d0 ?_
    refine aF ?_
    refine aH ?_
    refine a7 _ _ ?_
    rw [← uN r he] at a5
    refine aB ?_
    refine cR (i + 1) ?_
    refine dx ?_
    simp only [pq]
    refine aG ?_
    exact a6 _ _ _ (by omega) ⟨(i + 1), v, a9, _, rfl, rfl, rfl, a5, a0, (by omega)⟩
 ·refine fC ?_
  refine wn b2 ?_
  refine aE fun k5 f7 => ?_
  refine aF ?_
  refine dF ?_
  refine c0 _ _ ?_
  refine sk fun k6 d1 => ?_
  refine aC ?_
  refine wn d1 ?_
  refine aN ?_
  try simp only [xt]
  refine bR (cC rfl (gD rfl) (gD rfl)) ?_
  ·have hi5 : i = 4 := by omega
   subst hi5
   rw [RG] at a5
   obtain ⟨k7, f8, f9, b0⟩ := St.freeze a5 (i := 0) rfl (Nat.le_refl _)
   have b0 : Bys _ v (b8 k :: IQ (bG k) r) := b0
   exact ⟨_, _, rfl, f8.gr, _, rfl, eW b0⟩
end Go.Proofs.YtilgpdpooildcaaGreatDoor
