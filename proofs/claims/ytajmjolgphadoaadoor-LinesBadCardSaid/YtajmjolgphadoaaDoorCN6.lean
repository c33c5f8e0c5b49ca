/- Rules, plain laws and walks: LQ LF RR P39 LZ LU LR P40 TL -/
import Derived.Test.YtajmjolgphadoaaDoorCN5
import Derived.Test.YtajmjolgphadoaaDoorCN2
import Derived.RangeFuncNested
import Derived.RangeFuncLeaves
import Derived.RangeFuncCalls
import Derived.OrdersIn
import Derived.Test.YtajmjolgphadoaaDoorCN3
import Derived.Lay
import Derived.Deep.DeepWitnessRowRef
import Derived.Shelf.Vars
import Derived.ChangeMaps5
namespace Go.Proofs.YtajmjolgphadoaaDoor
open Go.RowKit
set_option maxRecDepth 100000
set_option linter.unusedVariables false
set_option linter.unusedSimpArgs false
set_option maxHeartbeats 8000000 in
theorem acts_spec (F : Fz) (w : World) (v : Value) (l : List Ft) (m : Nat) (hs : Sat w F) (hv : Fts F v l) (hm : m ≤ 1000) (hb : ∀ g ∈ l, (-9223372036854775808 ≤ g.kind ∧ g.kind ≤ 9223372036854775807) ∧ (-9223372036854775808 ≤ g.a ∧ g.a ≤ 9223372036854775807)) :
    Calls Tryd.prog 13 #[v, .int .i64 (m : Nat)] w (Gives w F fun F' u => ∃ zs, Ats F' u zs ∧ (∀ z ∈ zs, checkA z = 0 ∧ z.data.length ≤ 80) ∧ zs.length ≤ m) := by
 obtain ⟨a0, c0, rfl, hc1, hc2⟩ := Sl.shape hv
 unfold maxLen at hc2
 obtain ⟨i50, hi50, hz50, hs50, hb50⟩ := info_parts info_50
 have S := St.start hs
 go_enter Tryd.func13, Tryd.ntmps13
 refine wp_seq_k (fun K1 hK1 => region_wl ?_)
 refine do_ rfl (.slice none 0 0) (ex_assign _) ?_
 simp only [pS, pN, pA, pC, pZ]
 refine wl_nil (hK1 _ _ ?_)
 refine wp_seq_k (fun K2 hK2 => region_wl ?_)
 refine do_ rfl (.slice none 0 0) (ex_assign _) ?_
 simp only [pS, pN, pA, pC, pZ]
 refine wl_nil (hK2 _ _ ?_)
 refine wp_seq_k (fun K3 hK3 => ?_)
 refine wp_seq_k (fun K4 hK4 => region_wl ?_)
 refine do_ rfl (.int .i64 0) (ex_assign _) ?_
 simp only [pS, pN, pA, pC, pZ]
 refine wl_nil (hK4 _ _ ?_)
 refine wp_block ?_
 have S5 := St.addNil S 4 AtC AtC.mono 50 w.heap.size
 refine wp_loop_g (fun mm aa w8 => ∃ (i : Nat) (zs : List At) (v : Value) (F6 : Fz) (u7 : Nat → Value), mm = l.length - i ∧ u7 = slots aa ∧ aa = ⟨#[(.slice a0 l.length c0), (.int .i64 ((m : Nat) : Int)), undef, undef, (.slice none 0 0), v, (.int .i64 ((i : Nat) : Int)), (u7 7), (u7 8), (u7 9), (u7 10), (u7 11), (u7 12), (u7 13), (u7 14), (u7 15), (u7 16), (u7 17), (u7 18), (u7 19), (u7 20), (u7 21), (u7 22), (u7 23), (u7 24), (u7 25), (u7 26), (u7 27), undef], []⟩ ∧ St w F w8 F6 [] [ownP 4 AtC AtC.mono 50 w.heap.size v zs] ∧ Le F F6 ∧ (i ≤ l.length ∧ i ≤ m) ∧ (zs.length = i) ∧ (∀ z ∈ zs, checkA z = 0 ∧ z.data.length ≤ 80)) _ ⟨0, [], (.slice none 0 0), F, _, rfl, rfl, rfl, S5, Le.refl _, ⟨by omega, by omega⟩, rfl, (by simp)⟩ ?_
 rintro m9 a10 w11 ⟨i, zs, v, F6, u7, rfl, -, rfl, S12, le13, hi, hzl, hok⟩ K14 hK14
 refine wp_seq_k (fun K15 hK15 => ?_)
 refine wp_seq_k (fun K16 hK16 => region_wl ?_)
 refine do_ rfl (.int .i64 ((i : Nat) : Int)) (ex_move _) ?_
 simp only [pS, pN, pA, pC, pZ]
 refine do_ rfl (.slice a0 l.length c0) (ex_move _) ?_
 simp only [pS, pN, pA, pC, pZ]
 refine do_ rfl (.int .i64 ((l.length : Nat) : Int)) (ex_len Tryd.underlying42 rfl) ?_
 simp only [pS, pN, pA, pC, pZ]
 by_cases hc11 : i < l.length
 ·refine do_ rfl (.bool true) (ex_lss (m := ((i : Nat) : Int)) (n := ((l.length : Nat) : Int)) (b := true) rfl rfl (decide_eq_true (by omega))) ?_
  simp only [pS, pN, pA, pC, pZ]
  refine do_ rfl (.bool true) (ex_move _) ?_
  simp only [pS, pN, pA, pC, pZ]
  refine do_ rfl (.int .i64 ((i : Nat) : Int)) (ex_move _) ?_
  simp only [pS, pN, pA, pC, pZ]
  refine do_ rfl (.int .i64 ((m : Nat) : Int)) (ex_move _) ?_
  simp only [pS, pN, pA, pC, pZ]
  by_cases hc15 : i < m
  ·refine do_ rfl (.bool true) (ex_lss (m := ((i : Nat) : Int)) (n := ((m : Nat) : Int)) (b := true) rfl rfl (decide_eq_true (by omega))) ?_
   simp only [pS, pN, pA, pC, pZ]
   refine do_ rfl (.bool true) (ex_pick (b := true) rfl) ?_
   simp only [pS, pN, pA, pC, pZ]
   refine wl_nil (hK16 _ _ ?_)
   refine wp_cond_true rfl ?_
   refine wp_skip ?_
   refine hK15 _ _ ?_
   refine wp_seq_k (fun K17 hK17 => ?_)
   refine wp_block ?_
   refine wp_seq_k (fun K18 hK18 => ?_)
   obtain ⟨g, hg⟩ : ∃ g, l[i]? = some g := ⟨l[i], List.getElem?_eq_getElem (by omega)⟩
   obtain ⟨b19, o20, ha21, xa25, xc26, c22, c23, c24, r27⟩ := Fts.get (hv.mono le13) hg
   refine region_wl ?_
   refine do_ rfl (.slice a0 l.length c0) (ex_move _) ?_
   simp only [pS, pN, pA, pC, pZ]
   refine do_ rfl (.int .i64 ((i : Nat) : Int)) (ex_move _) ?_
   simp only [pS, pN, pA, pC, pZ]
   refine do_ rfl (.pointer (some ⟨b19, o20 + i * 3, none⟩)) (ex_at (i := i) (sz := 3) Tryd.underlying42 (sizeof_66 _) rfl ha21 rfl (by omega) rfl) ?_
   simp only [pS, pN, pA, pC, pZ]
   refine do_ rfl (.agg #[(.int .i64 g.kind), (.int .i64 g.a), (.slice xa25 g.data.length xc26)]) (ex_load rfl (loadN (cs := [(.int .i64 g.kind), (.int .i64 g.a), (.slice xa25 g.data.length xc26)]) Tryd.underlying66 rfl (size_66) (range3 (St.fz S12 c22) (St.fz S12 c23) (St.fz S12 c24)))) ?_
   simp only [pS, pN, pA, pC, pZ]
   refine stGives S12 rfl (ex_fn (vs := #[(.agg #[(.int .i64 g.kind), (.int .i64 g.a), (.slice xa25 g.data.length xc26)])]) (map1 rfl) rfl (ent_24 _ _)) (actK_spec _ _ _ g (S12).sat ⟨_, _, rfl, r27⟩ (hb g (List.mem_of_getElem? hg)).1 (hb g (List.mem_of_getElem? hg)).2) ?_
   intro v33 w28 F30 S29 le31 R32
   obtain ⟨a, hca, hda, xa34, xc35, rfl, R32⟩ := R32
   simp only [pS, pN, pA, pC, pZ]
   refine stNew S29 (v := fun n => .pointer (some ⟨n, 0, none⟩)) rfl (ex_alloc (zero_50 _)) (fun n36 w37 S38 => ?_)
   simp only [pS, pN, pA, pC, pZ]
   have S38 : St w F w37 F30 [⟨n36, [(.int .i64 0), (.int .i64 0), (.int .i64 0), (.slice none 0 0)], 50⟩] [ownP 4 AtC AtC.mono 50 w.heap.size v zs] := S38
   refine stStore (i := 0) (v := (.agg #[(.int .i64 a.kind), (.int .i64 a.sess), (.int .i64 a.n), (.slice xa34 a.data.length xc35)])) S38 rfl rfl rfl rfl (size_50) (allc4 rfl rfl rfl rfl) (Nat.le_of_ble_eq_true rfl) (fun w39 S40 => ?_)
   simp only [pS, pN, pA, pC, pZ]
   have S40 : St w F w39 F30 [⟨n36, [(.int .i64 a.kind), (.int .i64 a.sess), (.int .i64 a.n), (.slice xa34 a.data.length xc35)], 50⟩] [ownP 4 AtC AtC.mono 50 w.heap.size v zs] := S40
   refine wl_nil (hK18 _ _ ?_)
   refine region_wl ?_
   refine do_ rfl v (ex_move _) ?_
   simp only [pS, pN, pA, pC, pZ]
   refine do_ rfl (.agg #[(.int .i64 a.kind), (.int .i64 a.sess), (.int .i64 a.n), (.slice xa34 a.data.length xc35)]) (ex_load rfl (loadN (cs := [(.int .i64 a.kind), (.int .i64 a.sess), (.int .i64 a.n), (.slice xa34 a.data.length xc35)]) Tryd.underlying50 rfl (size_50) (St.range S40 (i := 0) rfl 0 [(.int .i64 a.kind), (.int .i64 a.sess), (.int .i64 a.n), (.slice xa34 a.data.length xc35)] (sub_range 0 rfl)))) ?_
   simp only [pS, pN, pA, pC, pZ]
   refine stNew S40 (v := fun n => .slice (some ⟨n, 0, none⟩) 1 1) rfl (ex_lit (ps := #[(0, (.agg #[(.int .i64 a.kind), (.int .i64 a.sess), (.int .i64 a.n), (.slice xa34 a.data.length xc35)]))]) (cells := #[(.int .i64 a.kind), (.int .i64 a.sess), (.int .i64 a.n), (.slice xa34 a.data.length xc35)]) (E := 50) (bmap1 rfl) (fun w => by kernel_rfl)) (fun n41 w42 S43 => ?_)
   simp only [pS, pN, pA, pC, pZ]
   have S43 : St w F w42 F30 [⟨n41, [(.int .i64 a.kind), (.int .i64 a.sess), (.int .i64 a.n), (.slice xa34 a.data.length xc35)], 50⟩, ⟨n36, [(.int .i64 a.kind), (.int .i64 a.sess), (.int .i64 a.n), (.slice xa34 a.data.length xc35)], 50⟩] [ownP 4 AtC AtC.mono 50 w.heap.size v zs] := S43
   refine stPush (i := 0) (r := 0) (p := a) (cs := [(.int .i64 a.kind), (.int .i64 a.sess), (.int .i64 a.n), (.slice xa34 a.data.length xc35)]) S43 rfl i50 (.agg #[(.int .i64 0), (.int .i64 0), (.int .i64 0), (.slice none 0 0)]) 48 Tryd.underlying43 hi50 hz50 hs50 hb50 rfl (by decide) rfl rfl rfl rfl rfl (AtC.one _ _ a ⟨_, _, rfl, R32⟩) (⟨_, _, rfl, R32⟩) (Nat.le_refl _) S43.gr.below.size (by unfold maxLen; omega) (by omega) ?_
   intro v44 w45 S46 hn47
   simp only [pS, pN, pA, pC, pZ]
   have S46 := St.drop S46 (L' := [⟨n36, [(.int .i64 a.kind), (.int .i64 a.sess), (.int .i64 a.n), (.slice xa34 a.data.length xc35)], 50⟩]) (.cons _ (List.Sublist.refl _))
   have S46 : St w F w45 F30 [⟨n36, [(.int .i64 a.kind), (.int .i64 a.sess), (.int .i64 a.n), (.slice xa34 a.data.length xc35)], 50⟩] [ownP 4 AtC AtC.mono 50 w.heap.size v44 (zs ++ [a])] := S46
   refine do_ rfl v44 (ex_assign _) ?_
   simp only [pS, pN, pA, pC, pZ]
   refine wl_nil (hK17 _ _ ?_)
   refine region_wl ?_
   refine do_ rfl (.int .i64 ((i : Nat) : Int)) (ex_move _) ?_
   simp only [pS, pN, pA, pC, pZ]
   refine do_ rfl (.int .i64 (((i + 1) : Nat) : Int)) (ex_add (m := ((i : Nat) : Int)) (n := (1 : Int)) (r := (((i + 1) : Nat) : Int)) rfl rfl (by omega) (by omega) (by omega)) ?_
   simp only [pS, pN, pA, pC, pZ]
   refine do_ rfl (.int .i64 (((i + 1) : Nat) : Int)) (ex_assign _) ?_
   simp only [pS, pN, pA, pC, pZ]
   refine wl_nil ?_
   have S46 := St.drop S46 (L' := []) (.cons _ (List.Sublist.refl _))
   exact hK14 _ _ _ (by omega) ⟨(i + 1), (zs ++ [a]), v44, F30, _, rfl, rfl, rfl, S46, (le13.trans le31), (by omega), (by rw [List.length_append, List.length_singleton]; omega), (by intro z hz; rcases List.mem_append.1 hz with hz | hz; exact hok z hz; rw [List.mem_singleton.1 hz]; exact ⟨hca, hda⟩)⟩
  ·refine do_ rfl (.bool false) (ex_lss (m := ((i : Nat) : Int)) (n := ((m : Nat) : Int)) (b := false) rfl rfl (decide_eq_false (by omega))) ?_
   simp only [pS, pN, pA, pC, pZ]
   refine do_ rfl (.bool false) (ex_pick (b := true) rfl) ?_
   simp only [pS, pN, pA, pC, pZ]
   refine wl_nil (hK16 _ _ ?_)
   refine wp_cond_false rfl ?_
   refine wp_exit ?_
   refine hK3 _ _ ?_
   refine wp_seq_k (fun K48 hK48 => region_wl ?_)
   refine do_ rfl v (ex_move _) ?_
   simp only [pS, pN, pA, pC, pZ]
   refine do_ rfl v (ex_assign _) ?_
   simp only [pS, pN, pA, pC, pZ]
   refine wl_nil (hK48 _ _ ?_)
   refine wp_ret ?_
   (try simp only [Exit.then, Exit.inBlock, ↓reduceIte, Nat.reduceEqDiff])
   refine bodyPost_ret (v := v) ?_ rfl ?_
   ·exact res_t rfl rfl
   ·obtain ⟨F9, S9, le9, hv9⟩ := St.freeze S12 (i := 0) rfl (Nat.le_refl _)
    exact ⟨_, _, rfl, S9.gr, zs, hv9, hok, by omega⟩
 ·refine do_ rfl (.bool false) (ex_lss (m := ((i : Nat) : Int)) (n := ((l.length : Nat) : Int)) (b := false) rfl rfl (decide_eq_false (by omega))) ?_
  simp only [pS, pN, pA, pC, pZ]
  refine do_ rfl (.bool false) (ex_move _) ?_
  simp only [pS, pN, pA, pC, pZ]
  refine doN (wanted_no rfl rfl rfl (c := false) rfl (by decide)) ?_
  simp only [pS, pN, pA, pC, pZ]
  refine doN (wanted_no rfl rfl rfl (c := false) rfl (by decide)) ?_
  simp only [pS, pN, pA, pC, pZ]
  refine doN (wanted_no rfl rfl rfl (c := false) rfl (by decide)) ?_
  simp only [pS, pN, pA, pC, pZ]
  refine do_ rfl (.bool false) (ex_pick (b := false) rfl) ?_
  simp only [pS, pN, pA, pC, pZ]
  refine wl_nil (hK16 _ _ ?_)
  refine wp_cond_false rfl ?_
  refine wp_exit ?_
  refine hK3 _ _ ?_
  refine wp_seq_k (fun K49 hK49 => region_wl ?_)
  refine do_ rfl v (ex_move _) ?_
  simp only [pS, pN, pA, pC, pZ]
  refine do_ rfl v (ex_assign _) ?_
  simp only [pS, pN, pA, pC, pZ]
  refine wl_nil (hK49 _ _ ?_)
  refine wp_ret ?_
  (try simp only [Exit.then, Exit.inBlock, ↓reduceIte, Nat.reduceEqDiff])
  refine bodyPost_ret (v := v) ?_ rfl ?_
  ·exact res_t rfl rfl
  ·obtain ⟨F9, S9, le9, hv9⟩ := St.freeze S12 (i := 0) rfl (Nat.le_refl _)
   exact ⟨_, _, rfl, S9.gr, zs, hv9, hok, by omega⟩
end Go.Proofs.YtajmjolgphadoaaDoor
namespace Go.Proofs.YtajmjolgphadoaaDoor
open Go.RowKit
set_option linter.unusedVariables false
set_option linter.unusedSimpArgs false
set_option maxRecDepth 100000
theorem ex_capt {P : Program} {ρ : Operand → Value} {w : World} {d : Option Tmp} {t : TypeId} {pos : String} {after : Array Edge} {guard : Option (Nat × Bool)} {k : FuncId} {x : Operand} {v : Value} (hx : ρ x = v) : (execOp ρ ⟨d, .makeFunc (.func k) #[] #[x], t, pos, after, guard⟩).run P w = .ok (.value (.func (.func k) #[] #[v])) w := by
  subst hx
  simp [execOp, Instr.makeFunc]
theorem lines_spec (w : World) (l : By) : Calls Tryd.prog 29 #[strV l] w fun e w' => e = .returned (.func (.func 49) #[] #[.pointer (some ⟨w.heap.size, 0, none⟩)]) ∧ w' = w.alloc (.cells #[strV l] 9) := by
  go_enter Tryd.func29, Tryd.ntmps29
  refine wp_seq_k (fun K1 hK1 => region_wl ?_)
  refine do_ rfl (.pointer (some ⟨w.heap.size, 0, none⟩)) (ex_box (v := strV l) rfl) ?_
  simp only [pS, pN, pA, pC, pZ]
  refine do_ rfl .nilFunc (ex_assign _) ?_
  simp only [pS, pN, pA, pC, pZ]
  refine wl_nil (hK1 _ _ ?_)
  refine wp_seq_k (fun K2 hK2 => region_wl ?_)
  refine do_ rfl (.func (.func 49) #[] #[.pointer (some ⟨w.heap.size, 0, none⟩)]) (ex_capt rfl) ?_
  simp only [pS, pN, pA, pC, pZ]
  refine do_ rfl (.func (.func 49) #[] #[.pointer (some ⟨w.heap.size, 0, none⟩)]) (ex_assign _) ?_
  simp only [pS, pN, pA, pC, pZ]
  refine wl_nil (hK2 _ _ ?_)
  refine wp_ret ?_
  (try simp only [Exit.then, Exit.inBlock, ↓reduceIte, Nat.reduceEqDiff])
  refine bodyPost_ret (v := (.func (.func 49) #[] #[.pointer (some ⟨w.heap.size, 0, none⟩)])) ?_ rfl ?_
  · exact res_t rfl rfl
  · exact And.intro rfl rfl
end Go.Proofs.YtajmjolgphadoaaDoor
namespace Go.Proofs.YtajmjolgphadoaaDoor
open Go.RowKit
set_option maxRecDepth 100000
set_option linter.unusedVariables false
set_option linter.unusedSimpArgs false
section
variable {P : Program} {ops : Array Oper} {Q : Exit → Act → World → Prop} {a : Act} {w w' : World} {rest : List Oper} {o : Oper} {n : Nat}
/-- In a round the operations of a region go as they go anywhere. -/
theorem wpListIn_of {l : Nat} (hQ : ¬ LetsOut Q) : ∀ (os : List Oper) (a : Act) (w : World), (∀ o ∈ os, ∀ c, o.op ≠ .defer c) → wpList P ops Q os a w → wpListIn (Fence.wide.inRound l) n P ops Q os a w
  | [], a, w, _, h => h
  | o :: os, a, w, hd, h => by
    have ih : ∀ a w, wpList P ops Q os a w → wpListIn (Fence.wide.inRound l) n P ops Q os a w := fun a w => wpListIn_of hQ os a w (fun o ho => hd o (List.mem_cons_of_mem _ ho))
    unfold wpList at h
    unfold wpListIn
    split at h
    · rename_i hw
      rw [if_pos hw]
      rcases h with h | h
      · refine ⟨fun _ _ => trivial, ?_⟩
        rw [Oper.semAt_eq _ _ _ (hd o (List.mem_cons_self ..))]
        unfold Oper.wp at h
        revert h
        generalize (execOp a.eval o).run P w = r
        intro h
        cases r with
        | ok x w' =>
          cases x with
          | value v => exact ih _ _ h
          | skip => exact ih _ _ h
          | defer d => exact ih _ _ h
          | enter f args =>
            exact ⟨fun e => (by cases e), CallsIn.inRound l (callsIn_wide.2 (Calls.mono h fun e w'' he => by
              cases e with
              | returned v => exact ih _ _ he
              | panicked c => exact he
              | outgrown => exact he))⟩
          | row row args =>
            exact ⟨fun e => (by cases e), fun c cs _ => by
              obtain ⟨v, w2, r, s⟩ := h c cs
              exact ⟨v, w2, ih _ _ r, stepsIn_wide.2 s⟩⟩
          | _ => exact False.elim h
        | halt x w' => cases x <;> first | exact h | exact False.elim h
      · exact absurd h.2 hQ
    · rename_i hw
      rw [if_neg hw]
      exact ⟨fun _ _ => trivial, ih _ _ h⟩
def noDefer (os : List Oper) : Bool := os.all fun o => match o.op with | .defer _ => false | _ => true
theorem noDefer_of {os : List Oper} (h : noDefer os = true) : ∀ o ∈ os, ∀ c, o.op ≠ .defer c := by
  intro o ho c e
  have := List.all_eq_true.1 h o ho
  rw [e] at this
  cases this
theorem regionR_wl {id l : Nat} {os : List Oper} (hd : noDefer os = true) (hQ : ¬ LetsOut Q) (h : WL P os.toArray Q os a w) : (Code.region id os.toArray false).wpIn (Fence.wide.inRound l) n P Q a w :=
  wpIn_region_lit (wpListIn_of hQ os a w (noDefer_of hd) h.out)
theorem regionY_wl {id : Nat} {os : List Oper} (h : wpListIn Fence.wide 2 P os.toArray Q os a w) : (Code.region id os.toArray false).wp P Q a w := (wpIn_wide (n := 2)).1 (wpIn_region_lit h)
theorem dI_ (hw : Region.wanted o (yielded ops a.tmps) = true) (v : Value) (hr : (execOp a.eval o).run P w = .ok (.value v) w') (h : wpListIn Fence.wide n P ops Q rest (a.put o.dst v) w') : wpListIn Fence.wide n P ops Q (o :: rest) a w := by
  unfold wpListIn
  rw [if_pos hw]
  refine ⟨fun _ _ => trivial, ?_⟩
  show o.uponIn _ _ _ _ _ _ ((execOp a.eval o).run P w)
  rw [hr]
  exact h
theorem dY_ {l : Nat} {f : FuncId} {tmps : Array Value} {assign body : Code} {R : Ending → World → Prop} (hw : Region.wanted o (yielded ops a.tmps) = true) (hr : (execOp a.eval o).run P w = .ok (.round l f tmps assign body) w) (hR : RoundIn Fence.wide (n - 1) P l f tmps assign body w R)
    (h : ∀ e w', R e w' → ∃ v, e = .returned v ∧ wpListIn Fence.wide n P ops Q rest (a.put o.dst v) w') : wpListIn Fence.wide n P ops Q (o :: rest) a w := by
  unfold wpListIn
  rw [if_pos hw]
  refine ⟨fun _ _ => trivial, ?_⟩
  show o.uponIn _ _ _ _ _ _ ((execOp a.eval o).run P w)
  rw [hr]
  exact ⟨fun e => (by cases e), hR.mono fun e w' he => by obtain ⟨v, rfl, hv⟩ := h e w' he; exact hv⟩
theorem ex_yield {ρ : Operand → Value} {d : Option Tmp} {t : TypeId} {pos : String} {after : Array Edge} {guard : Option (Nat × Bool)} {c : Operand} {xs : Array Operand} {ats : Array TypeId} {vs : Array Value} {l : Nat} {f : FuncId} {tmps : Array Value} {assign body : Code}
    (hf : ρ c = .func (.yield l) #[] #[]) (hv : xs.map ρ = vs) (hy : (Instr.yield l vs).run P w = .ok (.round l f tmps assign body) w) : (execOp ρ ⟨d, .call ⟨.value c, xs, ats⟩, t, pos, after, guard⟩).run P w = .ok (.round l f tmps assign body) w := by
  subst hv
  have : (#[] : Array Value) ++ Array.map ρ xs = Array.map ρ xs := by simp
  simp only [execOp, resolve, hf, Deferred.ofValue, Sem.run_bind, Sem.run_pure, Result.andThen_ok, invoke, this]
  exact hy
end
/-- The first k of m are taken. -/
def maskB (m : Nat) : Nat → Array Bool
  | 0 => Array.replicate m false
  | k + 1 => (maskB m k).setIfInBounds k true
/-- There is one order alone: that of the text. -/
def seqB (ops : Array Oper) : Bool := (List.range ops.size).all fun k => Region.ready .any ops (maskB ops.size k) == [k]
/-- A block that is no cells, followed as a row is. -/
def recP (k : Nat) (o : Obj) : RowP where
  ob := some k
  holds w _ := w.heap[k]? = some o
  stable := by
    intro w w' F F' h hh _ _
    exact (hh k rfl).trans h
section
variable {w0 w : World} {F0 F : Fz} {L : List Blk} {M : List RowP}
theorem St.follow (S : St w0 F0 w F L M) {k : Nat} {o : Obj} (h : w.heap[k]? = some o) (hF : F k = none) (hk : w0.heap.size ≤ k) (hL : ∀ x ∈ L, x.n ≠ k) (hM : ∀ r ∈ M, r.ob ≠ some k) : St w0 F0 w F L (recP k o :: M) := by
  refine ⟨S.gr, S.blk, fun r hr => ?_, S.bb, fun r hr x hx => ?_, List.pairwise_cons.2 ⟨fun s hs g hg => ?_, S.rr⟩⟩
  · rcases List.mem_cons.1 hr with rfl | hr
    · refine ⟨h, fun g hg => ?_⟩
      cases hg
      exact ⟨(Array.getElem?_eq_some_iff.1 h).1, hF, hk⟩
    · exact S.row r hr
  · rcases List.mem_cons.1 hr with rfl | hr
    · intro e
      cases e
      exact hL x hx rfl
    · exact S.rb r hr x hx
  · cases hg
    exact hM s hs
/-- The two blocks that a loop lays. -/
theorem St.two (S : St w0 F0 w F L M) (o1 o2 : Obj) : St w0 F0 ((w.alloc o1).alloc o2) F L (recP (w.heap.size + 1) o2 :: recP w.heap.size o1 :: M) := by
  have hb : Below w.heap.size w ((w.alloc o1).alloc o2) := ((Below.refl _ w).alloc (Nat.le_refl _) _).alloc (by simp) _
  have S1 := S.tells hb
  have h1 : ((w.alloc o1).alloc o2).heap[w.heap.size]? = some o1 := (Below.heap_alloc _ _ _ (by simp)).trans (World.alloc_heap_new w _)
  have h2 : ((w.alloc o1).alloc o2).heap[w.heap.size + 1]? = some o2 := by have := World.alloc_heap_new (w.alloc o1) o2; rwa [World.size_alloc] at this
  have S2 := S1.follow h1 (S.sat.out (Nat.le_refl _)) S.gr.below.size (fun x hx => by have := S.blk_lt hx; omega) (fun r hr e => by have := ((S.row r hr).2 _ e).1; omega)
  refine S2.follow h2 (S.sat.out (by omega)) (Nat.le_succ_of_le S.gr.below.size) (fun x hx => by have := S.blk_lt hx; omega) (fun r hr e => ?_)
  rcases List.mem_cons.1 hr with rfl | hr
  · have e : w.heap.size = w.heap.size + 1 := Option.some.inj e
    omega
  · have := ((S.row r hr).2 _ e).1
    omega
/-- Such a block is turned. -/
theorem St.turn (S : St w0 F0 w F L M) {i k : Nat} {o : Obj} (h : M[i]? = some (recP k o)) (o' : Obj) : St w0 F0 (w.putObj k o') F L (M.set i (recP k o')) := by
  obtain ⟨hi, he⟩ := List.getElem?_eq_some_iff.1 h
  have hk := S.row _ (List.getElem_mem hi)
  rw [he] at hk
  obtain ⟨h1, h2⟩ := hk
  obtain ⟨h3, h4, h5⟩ := h2 k rfl
  have hp : ∀ b, b ≠ k → (w.putObj k o').heap[b]? = w.heap[b]? := fun b hb => World.putObj_heap_other hb
  have hk2 : (w.putObj k o').heap[k]? = some o' := World.putObj_heap_same h3
  have hne : ∀ x ∈ L, x.n ≠ k := fun x hx e => S.rb _ (List.getElem_mem hi) x hx (by rw [he, e]; rfl)
  have hrr : ∀ j (hj : j < M.length), j ≠ i → M[j].ob ≠ some k := fun j hj hji e => by
    have := List.pairwise_iff_getElem.1 S.rr
    rcases Nat.lt_or_gt_of_ne hji with hlt | hlt
    · exact this j i hj hi hlt k e (by rw [he]; rfl)
    · exact this i j hi hj hlt k (by rw [he]; rfl) e
  have gb := S.gr.below
  have hsat : Sat (w.putObj k o') F := fun b o hb => by
    rw [hp b (fun e => by rw [e, h4] at hb; cases hb)]
    exact S.sat b o hb
  refine ⟨⟨gb.grown (grownBy_putObj' w k _) gb.size (fun j e => by cases e; exact h5), S.gr.old, hsat⟩, fun x hx => ?_, fun r hr => ?_, S.bb, fun r hr x hx => ?_, pairwise_set_row S.rr fun j hj hji g hg => by cases hg; exact hrr j hj hji⟩
  · have := S.blk x hx
    exact ⟨(hp _ (hne x hx)).trans this.1, this.2⟩
  · obtain ⟨j, hj, rfl⟩ := List.getElem_of_mem hr
    rw [List.length_set] at hj
    rw [List.getElem_set]
    split
    · refine ⟨hk2, fun g hg => ?_⟩
      cases hg
      exact ⟨by rw [World.putObj_size]; exact h3, h4, h5⟩
    · rename_i hji
      have hr1 := S.row _ (List.getElem_mem hj)
      have hgn : ∀ g, M[j].ob = some g → g ≠ k := fun g hg e => hrr j hj (fun e => hji e.symm) (by rw [hg, e])
      exact ⟨M[j].stable _ _ _ _ hr1.1 (fun g hg => hp g (hgn g hg)) (Le.refl _) (fun g hg => (hr1.2 g hg).2.1), fun g hg => ⟨by rw [World.putObj_size]; exact (hr1.2 g hg).1, (hr1.2 g hg).2⟩⟩
  · obtain ⟨j, hj, rfl⟩ := List.getElem_of_mem hr
    rw [List.length_set] at hj
    rw [List.getElem_set]
    split
    · intro e
      cases e
      exact hne x hx rfl
    · exact S.rb _ (List.getElem_mem hj) x hx
theorem St.recd (S : St w0 F0 w F L M) {i k : Nat} {o : Obj} (h : M[i]? = some (recP k o)) : w.heap[k]? = some o := by
  obtain ⟨hi, he⟩ := List.getElem?_eq_some_iff.1 h
  have hk := S.row _ (List.getElem_mem hi)
  rw [he] at hk
  exact hk.1
end
end Go.Proofs.YtajmjolgphadoaaDoor
namespace Go.Proofs.YtajmjolgphadoaaDoor
open Go.RowKit
set_option linter.unusedVariables false
set_option linter.unusedSimpArgs false
set_option maxRecDepth 100000
theorem idx_no : ∀ (r : By), Lib.indexByte r 10 < 0 → (10 : UInt8) ∉ r
  | [], _, h => by cases h
  | b :: l, h, hm => by
    unfold Lib.indexByte at h
    split at h
    · omega
    · rename_i hb
      have hg := Lib.indexByte_ge l 10
      split at h
      · rename_i hl
        have hl : Lib.indexByte l 10 = -1 := by simpa using hl
        rcases List.mem_cons.1 hm with e | hm
        · exact hb (by simp [← e])
        · exact idx_no l (by omega) hm
      · rename_i hl
        have hl : Lib.indexByte l 10 ≠ -1 := by simpa using hl
        omega
theorem idx_at : ∀ (r : By) (i : Nat), Lib.indexByte r 10 = (i : Int) → ∃ x m, r = x ++ 10 :: m ∧ x.length = i ∧ (10 : UInt8) ∉ x
  | [], i, h => by
    have : Lib.indexByte [] 10 = -1 := rfl
    omega
  | b :: l, i, h => by
    unfold Lib.indexByte at h
    split at h
    · rename_i hb
      have hb : b = 10 := by simpa using hb
      exact ⟨[], l, by rw [hb]; rfl, by simp; omega, by simp⟩
    · rename_i hb
      have hb : b ≠ 10 := by simpa using hb
      split at h
      · omega
      · rename_i hl
        have hl : Lib.indexByte l 10 ≠ -1 := by simpa using hl
        have hg := Lib.indexByte_ge l 10
        obtain ⟨x, m, e1, e2, e3⟩ := idx_at l (i - 1) (by omega)
        refine ⟨b :: x, m, by rw [e1]; rfl, by rw [List.length_cons]; omega, fun hm => ?_⟩
        rcases List.mem_cons.1 hm with e | hm
        · exact hb e.symm
        · exact e3 hm
theorem lines_last : ∀ (r : By), (10 : UInt8) ∉ r → r ≠ [] → linesOf r = [r]
  | [], _, h => absurd rfl h
  | [c], h, _ => by
    have hc : c ≠ 10 := fun e => h (by simp [e])
    simp [linesOf, hc]
  | c :: d :: r, h, _ => by
    have hc : c ≠ 10 := fun e => h (by simp [e])
    have := lines_last (d :: r) (fun hm => h (List.mem_cons_of_mem _ hm)) (by simp)
    unfold linesOf
    rw [if_neg hc, this]
/-- The first line ends at i. -/
theorem lines_at {r : By} {i : Nat} (h : Lib.indexByte r 10 = (i : Int)) : i + 1 ≤ r.length ∧ linesOf r = (r.drop 0).take (i + 1 - 0) :: linesOf ((r.drop (i + 1)).take (r.length - (i + 1))) := by
  obtain ⟨x, m, rfl, rfl, hx⟩ := idx_at r i h
  refine ⟨by simp, ?_⟩
  have e1 : (x ++ 10 :: m).take (x.length + 1) = x ++ [10] := by
    rw [show x ++ 10 :: m = (x ++ [10]) ++ m from by simp, List.take_append_of_le_length (by simp)]
    exact List.take_of_length_le (by simp)
  have e2 : (x ++ 10 :: m).drop (x.length + 1) = m := by
    rw [show x ++ 10 :: m = (x ++ [10]) ++ m from by simp, show x.length + 1 = (x ++ [10]).length from by simp, List.drop_left]
  rw [e2, List.take_of_length_le (l := m) (by simp; omega), List.drop_zero, Nat.sub_zero, e1]
  exact lines_cut m hx
end Go.Proofs.YtajmjolgphadoaaDoor
namespace Go.Proofs.YtajmjolgphadoaaDoor
open Go.RowKit
set_option linter.unusedVariables false
set_option linter.unusedSimpArgs false
set_option maxRecDepth 100000
theorem ex_strc {P : Program} {ρ : Operand → Value} {w : World} {d : Option Tmp} {t : TypeId} {pos : String} {after : Array Edge} {guard : Option (Nat × Bool)} (x : Operand) {v : Value} (h : ρ x = v) : (execOp ρ ⟨d, .assign x, t, pos, after, guard⟩).run P w = .ok (.value v) w := by
  subst h; exact ex_assign x
theorem load_box {w : World} {b : Nat} {v : Value} {T : TypeId} {fr : Nat × Nat} (h : w.heap[b]? = some (.cells #[v] T fr)) : w.cell? ⟨b, 0, none⟩ = some v := by simp [World.cell?, h]
theorem store_box {P : Program} {w : World} {T T' : TypeId} {b : Nat} {dv : Value} {l : By} (hi : (P.info? T).map (·.size) = some 1) (hb : w.heap[b]? = some (.cells #[dv] T' (0, 0))) : (storeVar T ⟨b, 0, none⟩ (strV l)).run P w = .ok () (w.setCells b 0 [strV l]) :=
  storeV (v := strV l) hi (fun m hm => by
    have h : m < 1 := hm
    obtain rfl : m = 0 := by omega
    exact ⟨by simp [World.cell?, hb], by simp [World.frozen?, hb]⟩) (allc1 rfl)
theorem size_9 : (Tryd.prog.info? 9).map (·.size) = some 1 := by kernel_rfl
set_option maxHeartbeats 8000000 in
theorem lines1_spec {lp b1 : Nat} {J : By → World → Prop} {K : By → By → World → Prop} {Jx : World → Prop}
    (h1 : ∀ r W, J r W → W.heap[b1]? = some (.cells #[strV r] 9 (0, 0)) ∧ r.length ≤ 2000000)
    (h3 : ∀ r W W', J r W → Below W.heap.size W W' → J r W')
    (h2 : ∀ x r r' W, J r W → linesOf r = x :: linesOf r' → r'.length < r.length → K x r' (W.setCells b1 0 [strV r']))
    (hy : ∀ x r W, K x r W → YieldAt Fence.wide 1 Tryd.prog lp #[strV x] W fun e W' => (e = .returned (.bool true) ∧ J r W') ∨ (e = .returned (.bool false) ∧ Jx W'))
    (W : World) (r : By) (h0 : J r W) :
    Calls Tryd.prog 49 #[.func (.yield lp) #[] #[], .pointer (some ⟨b1, 0, none⟩)] W fun e W' => ∃ v, e = .returned v ∧ (J [] W' ∨ Jx W') := by
  go_enter Tryd.func49, Tryd.ntmps49
  refine wp_block ?_
  refine wp_loop_g (fun mm aa wr => ∃ (s : By) (u : Nat → Value), mm = s.length ∧ u = slots aa ∧ aa = ⟨#[.func (.yield lp) #[] #[], .pointer (some ⟨b1, 0, none⟩), u 2, u 3, u 4, u 5, u 6, u 7, u 8, u 9, u 10, u 11, u 12, u 13, u 14, u 15, u 16, u 17, u 18, u 19, u 20, u 21, u 22, u 23, u 24], []⟩ ∧ J s wr) _ ⟨r, _, rfl, rfl, rfl, h0⟩ ?_
  rintro m a wr ⟨s, u, rfl, -, rfl, hJ⟩ K2 hK2
  obtain ⟨hb, hl⟩ := h1 _ _ hJ
  refine wp_seq_k (fun K3 hK3 => ?_)
  refine wp_seq_k (fun K4 hK4 => region_wl ?_)
  refine do_ rfl (strV s) (ex_load rfl (load1 (nagg_9 _) (load_box hb))) ?_
  simp only [pS, pN, pA, pC, pZ]
  refine do_ rfl (.int .i64 (s.length : Nat)) (ex_lenStr Tryd.underlying9 rfl) ?_
  simp only [pS, pN, pA, pC, pZ]
  by_cases hs : s = []
  · subst hs
    refine do_ rfl (.bool false) (ex_gtr (m := 0) (n := 0) rfl rfl rfl) ?_
    simp only [pS, pN, pA, pC, pZ]
    refine wl_nil (hK4 _ _ ?_)
    refine wp_cond_false rfl ?_
    refine wp_exit ?_
    (try simp only [Exit.then, Exit.inBlock, ↓reduceIte, Nat.reduceEqDiff])
    refine bodyPost_end (results_none rfl _ _ _) rfl ?_
    exact ⟨_, rfl, .inl hJ⟩
  have hsl : 0 < s.length := List.length_pos_iff.2 hs
  refine do_ rfl (.bool true) (ex_gtr (m := (s.length : Int)) (n := 0) rfl rfl (decide_eq_true (by omega))) ?_
  simp only [pS, pN, pA, pC, pZ]
  refine wl_nil (hK4 _ _ ?_)
  refine wp_cond_true rfl ?_
  refine wp_skip ?_
  refine hK3 _ _ ?_
  refine wp_block ?_
  refine wp_seq_k (fun K5 hK5 => region_wl ?_)
  refine do_ rfl (strV []) (ex_strc _ rfl) ?_
  simp only [pS, pN, pA, pC, pZ]
  refine wl_nil (hK5 _ _ ?_)
  refine wp_seq_k (fun K7 hK7 => ?_)
  have key : ∀ (a2 : Act) (x r' : By) (w2 : World), a2 = ⟨#[.func (.yield lp) #[] #[], .pointer (some ⟨b1, 0, none⟩), slots a2 2, strV x, slots a2 4, slots a2 5, slots a2 6, slots a2 7, slots a2 8, slots a2 9, slots a2 10, slots a2 11, slots a2 12, slots a2 13, slots a2 14, slots a2 15, slots a2 16, slots a2 17, slots a2 18, slots a2 19, slots a2 20, slots a2 21, slots a2 22, slots a2 23, slots a2 24], []⟩ → K x r' w2 → r'.length < s.length → K7 a2 w2 := by
    intro a2 x r' w2 ha hKx hlt
    generalize slots a2 = v at ha
    subst ha
    refine hK7 _ _ ?_
    obtain ⟨fn, tmps, assign, body, hyy, hR⟩ := hy x r' w2 hKx
    refine wp_seq_k (fun K8 hK8 => regionY_wl ?_)
    refine dI_ rfl (.func (.yield lp) #[] #[]) (ex_move _) ?_
    simp only [pS, pN, pA, pC, pZ]
    refine dI_ rfl (strV x) (ex_move _) ?_
    simp only [pS, pN, pA, pC, pZ]
    refine dY_ rfl (ex_yield rfl (map1 rfl) hyy) hR ?_
    rintro e W' (⟨rfl, hJ3⟩ | ⟨rfl, hJx3⟩)
    · refine ⟨_, rfl, ?_⟩
      simp only [pS, pN, pA, pC, pZ]
      refine dI_ rfl (.bool false) (ex_not (b := true) rfl rfl) ?_
      simp only [pS, pN, pA, pC, pZ]
      refine wpListIn_nil (hK8 _ _ ?_)
      refine wp_cond_false rfl ?_
      refine wp_skip ?_
      refine hK2 r'.length _ _ hlt ?_
      exact ⟨r', _, rfl, rfl, rfl, hJ3⟩
    · refine ⟨_, rfl, ?_⟩
      simp only [pS, pN, pA, pC, pZ]
      refine dI_ rfl (.bool true) (ex_not (b := false) rfl rfl) ?_
      simp only [pS, pN, pA, pC, pZ]
      refine wpListIn_nil (hK8 _ _ ?_)
      refine wp_cond_true rfl ?_
      refine wp_ret ?_
      (try simp only [Exit.then, Exit.inBlock, ↓reduceIte, Nat.reduceEqDiff])
      refine bodyPost_ret (results_none rfl _ _ _) rfl ?_
      exact ⟨_, rfl, .inr hJx3⟩
  refine wp_seq_k (fun K6 hK6 => region_wl ?_)
  refine do_ rfl (strV s) (ex_load rfl (load1 (nagg_9 _) (load_box hb))) ?_
  simp only [pS, pN, pA, pC, pZ]
  have hix : Calls Tryd.prog 50 #[strV s, .int .u8 10] wr (Tells wr (.int .i64 (Lib.indexByte s 10))) := indexB_spec wr s 10
  refine doC rfl (ex_fn (vs := #[strV s, .int .u8 10]) (map2 rfl rfl) rfl (ent_50 _ _)) hix ?_
  rintro e1 w1 ⟨rfl, hw1⟩
  have hJ1 := h3 _ _ _ hJ hw1
  have hb1 := (h1 _ _ hJ1).1
  have hge := Lib.indexByte_ge s 10
  refine ⟨_, rfl, ?_⟩
  simp only [pS, pN, pA, pC, pZ]
  refine do_ rfl (.int .i64 (Lib.indexByte s 10)) (ex_assign _) ?_
  simp only [pS, pN, pA, pC, pZ]
  refine wl_nil (hK6 _ _ ?_)
  refine wp_seq_k (fun K9 hK9 => region_wl ?_)
  refine do_ rfl (.int .i64 (Lib.indexByte s 10)) (ex_move _) ?_
  simp only [pS, pN, pA, pC, pZ]
  by_cases hi : 0 ≤ Lib.indexByte s 10
  · obtain ⟨i, hi2⟩ : ∃ i : Nat, Lib.indexByte s 10 = (i : Int) := ⟨(Lib.indexByte s 10).toNat, (Int.toNat_of_nonneg hi).symm⟩
    obtain ⟨hle, hlin⟩ := lines_at hi2
    simp only [hi2]
    refine do_ rfl (.bool true) (ex_geq (m := (i : Int)) (n := 0) rfl rfl (decide_eq_true (by omega))) ?_
    simp only [pS, pN, pA, pC, pZ]
    refine wl_nil (hK9 _ _ ?_)
    refine wp_cond_true rfl ?_
    have hJ2 : J s w1.drew := h3 _ _ _ hJ1 ((Below.refl _ _).drew)
    have hb2 := (h1 _ _ hJ2).1
    refine region_still 9 (by kernel_rfl) (by kernel_rfl) ?_
    simp only [List.take_succ_cons, List.take_zero]
    refine ws_do rfl (strV s) (ex_load rfl (load1 (nagg_9 _) (load_box hb2))) ?_
    simp only [pS, pN, pA, pC, pZ]
    refine ws_do rfl (.int .i64 (i : Nat)) (ex_move _) ?_
    simp only [pS, pN, pA, pC, pZ]
    refine ws_do rfl (.int .i64 ((i + 1 : Nat) : Int)) (ex_add (m := (i : Int)) (n := 1) rfl rfl (by omega) (by omega) (by omega)) ?_
    simp only [pS, pN, pA, pC, pZ]
    refine ws_do rfl (strV ((s.drop 0).take (i + 1 - 0))) (ex_cutS (k := .i64) (k' := .i64) (l := 0) (h := i + 1) Tryd.underlying9 rfl (.inl ⟨rfl, rfl⟩) (.inr ⟨_, rfl, rfl⟩) (by omega) hle) ?_
    simp only [pS, pN, pA, pC, pZ]
    refine ws_do rfl (strV s) (ex_load rfl (load1 (nagg_9 _) (load_box hb2))) ?_
    simp only [pS, pN, pA, pC, pZ]
    refine ws_do rfl (.int .i64 (i : Nat)) (ex_move _) ?_
    simp only [pS, pN, pA, pC, pZ]
    refine ws_do rfl (.int .i64 ((i + 1 : Nat) : Int)) (ex_add (m := (i : Int)) (n := 1) rfl rfl (by omega) (by omega) (by omega)) ?_
    simp only [pS, pN, pA, pC, pZ]
    refine ws_do rfl (strV ((s.drop (i + 1)).take (s.length - (i + 1)))) (ex_cutS (k := .i64) (k' := .i64) (l := i + 1) (h := s.length) Tryd.underlying9 rfl (.inr ⟨_, rfl, rfl⟩) (.inl ⟨rfl, rfl⟩) hle (Nat.le_refl _)) ?_
    simp only [pS, pN, pA, pC, pZ]
    refine ws_do rfl (strV ((s.drop 0).take (i + 1 - 0))) (ex_assign _) ?_
    simp only [pS, pN, pA, pC, pZ]
    refine wpStill_nil ?_
    simp only [List.drop_succ_cons, List.drop_zero]
    refine doS rfl (ex_store rfl (store_box size_9 hb2)) ?_
    simp only [pS, pN, pA, pC, pZ]
    refine wl_nil ?_
    have hlt : ((s.drop (i + 1)).take (s.length - (i + 1))).length < s.length := by simp; omega
    exact key _ _ _ _ rfl (h2 _ _ _ _ hJ2 hlin hlt) hlt
  · refine do_ rfl (.bool false) (ex_geq (m := Lib.indexByte s 10) (n := 0) rfl rfl (decide_eq_false hi)) ?_
    simp only [pS, pN, pA, pC, pZ]
    refine wl_nil (hK9 _ _ ?_)
    refine wp_cond_false rfl ?_
    refine region_wl ?_
    refine do_ rfl (strV s) (ex_load rfl (load1 (nagg_9 _) (load_box hb1))) ?_
    simp only [pS, pN, pA, pC, pZ]
    refine do_ rfl (strV s) (ex_assign _) ?_
    simp only [pS, pN, pA, pC, pZ]
    refine doS rfl (ex_store rfl (store_box (l := []) size_9 hb1)) ?_
    simp only [pS, pN, pA, pC, pZ]
    refine wl_nil ?_
    have hlin : linesOf s = s :: linesOf [] := lines_last s (idx_no s (by omega)) hs
    exact key _ _ _ _ rfl (h2 _ _ _ _ hJ1 hlin hsl) hsl
end Go.Proofs.YtajmjolgphadoaaDoor
namespace Go.Proofs.YtajmjolgphadoaaDoor
open Go.RowKit
set_option linter.unusedVariables false
set_option linter.unusedSimpArgs false
set_option maxRecDepth 100000
/-- The record of a loop, whatever its state. -/
def IsRec (rec : LoopState → Option Code → Loop) (fn : FuncId) (tmps : Array Value) (ps : Array Tmp) (assign body : Code) (D : Nat) : Prop := ∀ st pe, rec st pe = { state := st, pending := pe, fn := fn, tmps := tmps, params := ps, assign := assign, body := body, defers := D }
section
variable {P : Program} {rec : LoopState → Option Code → Loop} {fn : FuncId} {tmps : Array Value} {ps : Array Tmp} {assign body : Code} {D l n : Nat} {W : World}
theorem rec_begin (hr : IsRec rec fn tmps ps assign body D) (h : W.heap[l]? = some (.loop (rec .ready none))) : (Instr.beginRound l).run P W = .ok () (W.putObj l (.loop (rec .busy none))) := by
  rw [run_beginRound h (by rw [hr]), hr, hr]
theorem rec_end (hr : IsRec rec fn tmps ps assign body D) (h : W.heap[l]? = some (.loop (rec .busy none))) (j : Option Code) : (Instr.endRound l j).run P W = .ok (.bool j.isNone) (W.putObj l (.loop (rec (if j.isNone then .ready else .done) j))) := by
  rw [run_endRound j h, hr, hr]
theorem rec_loop (hr : IsRec rec fn tmps ps assign body D) {st : LoopState} {pe : Option Code} (h : W.heap[l]? = some (.loop (rec st pe))) (hb : st ≠ .busy) : (Instr.endLoop l).run P W = .ok pe (W.putObj l (.loop (rec .exhausted pe))) := by
  rw [run_endLoop h (by rw [hr]; exact hb), hr, hr]
/-- A round. -/
theorem rec_yield (hr : IsRec rec fn tmps ps assign body D) (h : W.heap[l]? = some (.loop (rec .ready none))) {args : Array Value} (hps : args.size = ps.size) {R : Ending → World → Prop} {t' : Array Value} (ht : (ps.zip args).foldl (fun t (p, v) => t.setIfInBounds p v) tmps = t')
    (hb : assign.wpIn (Fence.wide.inRound l) n P (Exit.then (fun a₁ w₁ => ∃ w₂, (Instr.beginRound l).run P w₁ = .ok () w₂ ∧ body.wpIn (Fence.wide.inRound l) n P (roundPost P l R) a₁ w₂) (fun _ _ _ => False)) { tmps := t', defers := [] } W) : YieldAt Fence.wide n P l args W R := by
  have hy := run_yield (P := P) h (show args.size = (rec .ready none).params.size by rw [hr]; exact hps)
  rw [hr] at hy
  refine ⟨fn, _, assign, body, hy, roundIn_of_wpIn trivial ?_⟩
  simp only
  rw [ht]
  exact hb
theorem range_enter {Q : Exit → Act → World → Prop} {a : Act} {g : Operand} {gf : Nat} {lb : Array Value} (hn : 1 ≤ n) (hg : a.eval g = .func (.func gf) #[] lb) (eg : ∀ args w, (callFunc gf args).run P w = .ok (.enter gf args) w)
    (h : ∀ fn rec, IsRec rec fn a.tmps ps assign body W.heap.size → Calls P gf (#[.func (.yield (W.heap.size + 1)) #[] #[]] ++ lb) ((W.alloc (.deferred (some []))).alloc (.loop (rec .ready none))) (rangePost Fence.wide n P (W.heap.size + 1) Q { a with defers := { target := .collected W.heap.size, args := #[] } :: a.defers })) :
    (Code.rangeFunc g ps assign body).wpIn Fence.wide n P Q a W := by
  refine wpIn_rangeFunc fun fn _ => ?_
  have er : Fence.wide.round = none := rfl
  rw [er]
  obtain ⟨rec, hrec⟩ : ∃ rec : LoopState → Option Code → Loop, rec = fun st pe => { state := st, pending := pe, fn := fn, tmps := a.tmps, params := ps, assign := assign, body := body, defers := W.heap.size } := ⟨_, rfl⟩
  have hir : IsRec rec fn a.tmps ps assign body W.heap.size := fun st pe => by rw [hrec]
  have he := run_enterLoop_outer (P := P) (w := W) fn a.tmps ps assign body
  rw [← hir .ready none] at he
  have hh := h fn rec hir
  revert he hh
  generalize (W.alloc (.deferred (some []))).alloc (.loop (rec .ready none)) = W1
  intro he hh
  refine ⟨W.heap.size + 1, [{ target := .collected W.heap.size, args := #[] }], W1, { target := .fn (.func gf) lb, args := #[.func (.yield (W.heap.size + 1)) #[] #[]] }, W1, gf, #[.func (.yield (W.heap.size + 1)) #[] #[]] ++ lb, W1, he, ?_, ?_, ?_, ?_, ?_⟩
  · simp only [resolve, hg]
    simp [go_sem]
  · intro f' _
    exact trivial
  · simp [invoke, go_sem, eg]
  · exact fun _ => hn
  · exact callsIn_wide.2 hh
end
/-- One order alone from here on. -/
def chk1 (ops : Array Oper) : List Nat → Array Bool → Bool
  | [], listed => Region.ready .any ops listed == []
  | i :: is, listed => Region.ready .any ops listed == [i] && chk1 ops is (listed.setIfInBounds i true)
theorem wpAnyIn_chain {F : Fence} {n : Nat} {P : Program} {ops : Array Oper} {Q : Exit → Act → World → Prop} : ∀ (is : List Nat) (listed : Array Bool) (a : Act) (w : World), chk1 ops is listed = true → wpOpsIn F n P ops Q is a w → wpAnyIn F n P .any ops Q is.length listed a w
  | [], listed, a, w, hc, h => ⟨by simpa [chk1] using hc, by simpa [wpOpsIn] using h⟩
  | i :: is, listed, a, w, hc, h => by
    simp only [chk1, Bool.and_eq_true, beq_iff_eq] at hc
    refine ⟨fun e => (by rw [hc.1] at e; cases e), fun j hj => ?_⟩
    rw [hc.1] at hj
    obtain rfl := List.mem_singleton.1 hj
    rw [wpOpsIn_cons] at h
    exact wpOpIn_mono (fun a w hh => wpAnyIn_chain is _ a w hc.2 hh) h
theorem opsIn_of {F : Fence} {n : Nat} {P : Program} {ops : Array Oper} {Q : Exit → Act → World → Prop} : ∀ (is : List Nat) (os : List Oper) (a : Act) (w : World), is.map (fun i => ops[i]?) = os.map some → wpListIn F n P ops Q os a w → wpOpsIn F n P ops Q is a w
  | [], [], a, w, _, h => by unfold wpListIn at h; simpa [wpOpsIn] using h
  | [], o :: os, a, w, e, _ => by cases e
  | i :: is, [], a, w, e, _ => by cases e
  | i :: is, o :: os, a, w, e, h => by
    simp only [List.map_cons, List.cons.injEq] at e
    rw [wpOpsIn_cons]
    unfold wpListIn at h
    unfold wpOpIn
    rw [e.1]
    simp only
    split
    · rename_i hw
      rw [if_pos hw] at h
      exact Oper.wpIn_mono (fun a w hh => opsIn_of is os a w e.2 hh) h
    · rename_i hw
      rw [if_neg hw] at h
      exact ⟨h.1, opsIn_of is os _ w e.2 h.2⟩
/-- Five operations, of which the third may go ahead of the first or the second. -/
def okB5 (ops : Array Oper) : Bool :=
  ops.size == 5 && Region.ready .any ops (Array.replicate 5 false) == [0, 2] && Region.ready .any ops ((Array.replicate 5 false).setIfInBounds 0 true) == [1, 2] &&
  chk1 ops [2, 3, 4] (((Array.replicate 5 false).setIfInBounds 0 true).setIfInBounds 1 true) && chk1 ops [1, 3, 4] (((Array.replicate 5 false).setIfInBounds 0 true).setIfInBounds 2 true) && chk1 ops [0, 1, 3, 4] ((Array.replicate 5 false).setIfInBounds 2 true)
theorem region_5 {P : Program} {Q : Exit → Act → World → Prop} {a : Act} {w : World} {n id l : Nat} {o0 o1 o2 o3 o4 : Oper} (hm : P.follows .mixedOrders = true) (hB : okB5 #[o0, o1, o2, o3, o4] = true) (hd : noDefer [o0, o1, o2, o3, o4] = true) (hQ : ¬ LetsOut Q)
    (hw0 : Region.wanted o0 (yielded #[o0, o1, o2, o3, o4] a.tmps) = true) (v0 : Value) (hv0 : (execOp a.eval o0).run P w.drew = .ok (.value v0) w.drew)
    (hA : WL P #[o0, o1, o2, o3, o4] Q [o1, o2, o3, o4] (a.put o0.dst v0) w.drew) (hB2 : WL P #[o0, o1, o2, o3, o4] Q [o2, o1, o3, o4] (a.put o0.dst v0) w.drew) (hC : WL P #[o0, o1, o2, o3, o4] Q [o2, o0, o1, o3, o4] a w.drew) :
    (Code.region id #[o0, o1, o2, o3, o4] true).wpIn (Fence.wide.inRound l) n P Q a w := by
  refine wpIn_region_any hm ?_
  have hd' := noDefer_of hd
  simp only [List.mem_cons, List.not_mem_nil, or_false, forall_eq_or_imp, forall_eq] at hd'
  obtain ⟨d0, d1, d2, d3, d4⟩ := hd'
  have go : ∀ (os : List Oper) (a : Act) (w : World), (∀ o ∈ os, ∀ c, o.op ≠ .defer c) → WL P #[o0, o1, o2, o3, o4] Q os a w → wpListIn (Fence.wide.inRound l) n P #[o0, o1, o2, o3, o4] Q os a w := fun os a w hd h => wpListIn_of hQ os a w hd h.out
  simp only [okB5, Bool.and_eq_true, beq_iff_eq] at hB
  obtain ⟨⟨⟨⟨⟨_, r0⟩, r1⟩, c1⟩, c2⟩, c3⟩ := hB
  have e0 : (#[o0, o1, o2, o3, o4] : Array Oper)[0]? = some o0 := rfl
  show wpAnyIn _ _ _ _ _ _ 5 (Array.replicate 5 false) _ _
  refine ⟨fun e => (by rw [r0] at e; cases e), fun i hi => ?_⟩
  rw [r0] at hi
  simp only [List.mem_cons, List.not_mem_nil, or_false] at hi
  rcases hi with rfl | rfl
  · unfold wpOpIn
    rw [e0]
    simp only
    rw [if_pos hw0]
    refine ⟨fun _ _ => trivial, ?_⟩
    rw [Oper.semAt_eq _ _ _ d0]
    show o0.uponIn _ _ _ _ _ _ ((execOp a.eval o0).run P w.drew)
    rw [hv0]
    show wpAnyIn _ _ _ _ _ _ 4 ((Array.replicate 5 false).setIfInBounds 0 true) _ _
    refine ⟨fun e => (by rw [r1] at e; cases e), fun i hi => ?_⟩
    rw [r1] at hi
    simp only [List.mem_cons, List.not_mem_nil, or_false] at hi
    rcases hi with rfl | rfl
    · have h1 := opsIn_of (ops := #[o0, o1, o2, o3, o4]) [1, 2, 3, 4] [o1, o2, o3, o4] _ _ rfl (go _ _ _ (by simp only [List.mem_cons, List.not_mem_nil, or_false, forall_eq_or_imp, forall_eq]; exact ⟨d1, d2, d3, d4⟩) hA)
      rw [wpOpsIn_cons] at h1
      exact wpOpIn_mono (fun a w hh => wpAnyIn_chain [2, 3, 4] _ a w c1 hh) h1
    · have h1 := opsIn_of (ops := #[o0, o1, o2, o3, o4]) [2, 1, 3, 4] [o2, o1, o3, o4] _ _ rfl (go _ _ _ (by simp only [List.mem_cons, List.not_mem_nil, or_false, forall_eq_or_imp, forall_eq]; exact ⟨d2, d1, d3, d4⟩) hB2)
      rw [wpOpsIn_cons] at h1
      exact wpOpIn_mono (fun a w hh => wpAnyIn_chain [1, 3, 4] _ a w c2 hh) h1
  · have h1 := opsIn_of (ops := #[o0, o1, o2, o3, o4]) [2, 0, 1, 3, 4] [o2, o0, o1, o3, o4] _ _ rfl (go _ _ _ (by simp only [List.mem_cons, List.not_mem_nil, or_false, forall_eq_or_imp, forall_eq]; exact ⟨d2, d0, d1, d3, d4⟩) hC)
    rw [wpOpsIn_cons] at h1
    exact wpOpIn_mono (fun a w hh => wpAnyIn_chain [0, 1, 3, 4] _ a w c3 hh) h1
theorem res_ccc {fn : Func} {tmps : Array Value} {P : Program} {w : World} {c T c' T' s U : Nat} {v v' x : Value} (h : fn.results = #[.cell c T, .cell c' T', .cell s U]) (h1 : ∃ p, tmps.getD c undef = .pointer (some p) ∧ (loadVar T p).run P w = .ok v w) (h2 : ∃ p, tmps.getD c' undef = .pointer (some p) ∧ (loadVar T' p).run P w = .ok v' w) (h4 : ∃ p, tmps.getD s undef = .pointer (some p) ∧ (loadVar U p).run P w = .ok x w) : (results fn tmps).run P w = .ok (.tuple #[v, v', x]) w := by
  obtain ⟨p, h1, h3⟩ := h1
  obtain ⟨p', h2, h5⟩ := h2
  obtain ⟨p'', h4, h6⟩ := h4
  rw [Array.getD_eq_getD_getElem?] at h1 h2 h4
  simp [results, h, h1, h2, h4, asAddr_ptr, h3, h5, h6]
theorem lines_own {w0 w : World} {F0 F : Fz} {L0 : List Blk} {M0 : List RowP} (S : St w0 F0 w F L0 M0) (l : By) : Calls Tryd.prog 29 #[strV l] w fun e w' => ∃ nb, e = .returned (.func (.func 49) #[] #[.pointer (some ⟨nb, 0, none⟩)]) ∧ St w0 F0 w' F (⟨nb, [strV l], 9⟩ :: L0) M0 :=
  (lines_spec w l).mono fun e w' ⟨he, hw⟩ => ⟨w.heap.size, he, by subst hw; exact S.alloc #[strV l] _⟩
/-- Between two rounds: what was read, what is left. -/
def ReadJ (w0 : World) (F0 : Fz) (t : By) (nb n5 n4 n3 n2 D : Nat) (rec : LoopState → Option Code → Loop) (r : By) (W : World) : Prop :=
  ∃ F acc v, St w0 F0 W F [⟨nb, [strV r], 9⟩, ⟨n5, [v], 43⟩, ⟨n4, [.int .i64 0], 25⟩, ⟨n3, [.int .i64 0], 3⟩, ⟨n2, [.slice none 0 0], 43⟩] (ownP 4 AtC AtC.mono 50 w0.heap.size v acc :: [recP (D + 1) (.loop (rec .ready none)), recP D (.deferred (some []))]) ∧
    (∀ a ∈ acc, checkA a = 0) ∧ acc.length ≤ 100000 ∧ r.length ≤ 2000000 ∧ readL [] (linesOf t) = readL acc (linesOf r)
/-- As a round begins. -/
def ReadK (w0 : World) (F0 : Fz) (t : By) (nb n5 n4 n3 n2 D : Nat) (rec : LoopState → Option Code → Loop) (x r : By) (W : World) : Prop :=
  ∃ F acc v, St w0 F0 W F [⟨nb, [strV r], 9⟩, ⟨n5, [v], 43⟩, ⟨n4, [.int .i64 0], 25⟩, ⟨n3, [.int .i64 0], 3⟩, ⟨n2, [.slice none 0 0], 43⟩] (ownP 4 AtC AtC.mono 50 w0.heap.size v acc :: [recP (D + 1) (.loop (rec .ready none)), recP D (.deferred (some []))]) ∧
    (∀ a ∈ acc, checkA a = 0) ∧ acc.length ≤ 100000 ∧ r.length ≤ 2000000 ∧ x.length ≤ 2000000 ∧ readL [] (linesOf t) = readL acc (x :: linesOf r)
/-- Where a round has left the loop. -/
def ReadX (w0 : World) (F0 : Fz) (t : By) (nb n5 n4 n3 n2 D : Nat) (rec : LoopState → Option Code → Loop) (W : World) : Prop :=
  ∃ F v1 v5 M0 i e, St w0 F0 W F [⟨nb, [v1], 9⟩, ⟨n5, [v5], 43⟩, ⟨n4, [.int .i64 e], 25⟩, ⟨n3, [.int .i64 ((i : Nat) : Int)], 3⟩, ⟨n2, [.slice none 0 0], 43⟩] (M0 :: [recP (D + 1) (.loop (rec .done (some .ret))), recP D (.deferred (some []))]) ∧ readL [] (linesOf t) = ([], i, e)
section
variable {w0 : World} {F0 : Fz} {t : By} {nb n5 n4 n3 n2 D : Nat} {rec : LoopState → Option Code → Loop}
theorem ReadJ.box {r : By} {W : World} (h : ReadJ w0 F0 t nb n5 n4 n3 n2 D rec r W) : W.heap[nb]? = some (.cells #[strV r] 9 (0, 0)) ∧ r.length ≤ 2000000 := by
  obtain ⟨F, acc, v, S, _, _, hl, _⟩ := h
  exact ⟨(S.blk _ (St.mem (i := 0) rfl)).1, hl⟩
theorem ReadJ.below {r : By} {W W' : World} (h : ReadJ w0 F0 t nb n5 n4 n3 n2 D rec r W) (hb : Below W.heap.size W W') : ReadJ w0 F0 t nb n5 n4 n3 n2 D rec r W' := by
  obtain ⟨F, acc, v, S, hh⟩ := h
  exact ⟨F, acc, v, S.tells hb, hh⟩
theorem ReadJ.next {x r r' : By} {W : World} (h : ReadJ w0 F0 t nb n5 n4 n3 n2 D rec r W) (he : linesOf r = x :: linesOf r') (hlt : r'.length < r.length) : ReadK w0 F0 t nb n5 n4 n3 n2 D rec x r' (W.setCells nb 0 [strV r']) := by
  obtain ⟨F, acc, v, S, h1, h2, h3, h4⟩ := h
  have hx : x.length ≤ r.length := by
    have := lines_flat r
    rw [he, List.flatten_cons] at this
    rw [← this, List.length_append]; omega
  exact ⟨F, acc, v, S.store (i := 0) rfl 0 [strV r'] (by simp), h1, h2, by omega, by omega, by rw [h4, he]⟩
end
end Go.Proofs.YtajmjolgphadoaaDoor
namespace Go.Proofs.YtajmjolgphadoaaDoor
open Go.RowKit
set_option maxRecDepth 100000
set_option linter.unusedVariables false
set_option linter.unusedSimpArgs false
theorem readL_cons (acc : List At) (l : By) (ls : List By) : readL acc (l :: ls) = if acc.length = 100000 then ([], acc.length, 11) else if checkA (actL l) = 0 ∧ lineL (actL l) = l then readL (acc ++ [actL l]) ls else ([], acc.length, 4) := by rw [readL]
theorem ent_29 (vs : Array Value) (w : World) : (callFunc 29 vs).run Tryd.prog w = .ok (.enter 29 vs) w := by kernel_rfl
theorem ent_49 (vs : Array Value) (w : World) : (callFunc 49 vs).run Tryd.prog w = .ok (.enter 49 vs) w := by kernel_rfl
set_option maxHeartbeats 8000000 in
theorem readIn_spec (W : World) (hT : Laid W) (hW : WordsL W) (F : Fz) (hF : Le (whole W) F) (w : World) (t : By) (hs : Sat w F) (hl : t.length ≤ 2000000) :
    Calls Tryd.prog 15 #[strV t] w (Gives w F fun F' u => ∃ zs i e sv, u = .tuple #[sv, .int .i64 ((i : Nat) : Int), .int .i64 e] ∧ readT t = (zs, i, e) ∧ Ats F' sv zs) := by
 obtain ⟨i50, hi50, hz50, hs50, hb50⟩ := info_parts info_50
 have S := St.start hs
 refine (callsIn_wide (n := 3)).1 (callsIn_of_wp_marks Tryd.func15 rfl trivial (wpIn_wide.2 ?_))
 simp only [Tryd.ntmps15, List.size_toArray, List.length_cons, List.length_nil, Nat.reduceAdd, Nat.reduceSub, Array.replicate_succ,
  Array.replicate_zero, List.push_toArray, List.append_toArray, List.nil_append, List.cons_append]
 refine wp_seq_k (fun K1 hK1 => region_wl ?_)
 refine stNew S (v := fun n => .pointer (some ⟨n, 0, none⟩)) rfl (ex_alloc (zero_43 _)) (fun n2 w3 S4 => ?_)
 simp only [pS, pN, pA, pC, pZ]
 have S4 : St w F w3 F [⟨n2, [(.slice none 0 0)], 43⟩] [] := S4
 refine stNew S4 (v := fun n => .pointer (some ⟨n, 0, none⟩)) rfl (ex_alloc (zero_3 _)) (fun n5 w6 S7 => ?_)
 simp only [pS, pN, pA, pC, pZ]
 have S7 : St w F w6 F [⟨n5, [(.int .i64 0)], 3⟩, ⟨n2, [(.slice none 0 0)], 43⟩] [] := S7
 refine stNew S7 (v := fun n => .pointer (some ⟨n, 0, none⟩)) rfl (ex_alloc (zero_25 _)) (fun n8 w9 S10 => ?_)
 simp only [pS, pN, pA, pC, pZ]
 have S10 : St w F w9 F [⟨n8, [(.int .i64 0)], 25⟩, ⟨n5, [(.int .i64 0)], 3⟩, ⟨n2, [(.slice none 0 0)], 43⟩] [] := S10
 refine wl_nil (hK1 _ _ ?_)
 refine wp_seq_k (fun K11 hK11 => ?_)
 refine wp_seq_k (fun K12 hK12 => region_wl ?_)
 refine do_ rfl (.string ⟨t.toArray⟩) (ex_move _) ?_
 simp only [pS, pN, pA, pC, pZ]
 refine do_ rfl (.int .i64 ((t.length : Nat) : Int)) (ex_lenStr Tryd.underlying9 rfl) ?_
 simp only [pS, pN, pA, pC, pZ]
 refine do_ rfl (.bool false) (ex_gtr (m := ((t.length : Nat) : Int)) (n := (2000000 : Int)) (b := false) rfl rfl (decide_eq_false (by omega))) ?_
 simp only [pS, pN, pA, pC, pZ]
 refine wl_nil (hK12 _ _ ?_)
 refine wp_cond_false rfl ?_
 refine wp_skip ?_
 refine hK11 _ _ ?_
 refine wp_seq_k (fun K13 hK13 => region_wl ?_)
 refine stNew S10 (v := fun n => .pointer (some ⟨n, 0, none⟩)) rfl (ex_alloc (zero_43 _)) (fun n14 w15 S16 => ?_)
 simp only [pS, pN, pA, pC, pZ]
 have S16 : St w F w15 F [⟨n14, [(.slice none 0 0)], 43⟩, ⟨n8, [(.int .i64 0)], 25⟩, ⟨n5, [(.int .i64 0)], 3⟩, ⟨n2, [(.slice none 0 0)], 43⟩] [] := S16
 refine wl_nil (hK13 _ _ ?_)
 refine wp_seq_k (fun K17 hK17 => ?_)
 refine wp_seq_k (fun K18 hK18 => region_wl ?_)
 refine do_ rfl (.string ⟨t.toArray⟩) (ex_move _) ?_
 simp only [pS, pN, pA, pC, pZ]
 refine doC rfl (ex_fn (vs := #[(.string ⟨t.toArray⟩)]) (map1 rfl) rfl (ent_29 _ _)) (lines_own S16 t) ?_
 rintro e19 w20 ⟨nb21, rfl, S22⟩
 refine ⟨_, rfl, ?_⟩
 simp only [pS, pN, pA, pC, pZ]
 have S22 : St w F w20 F [⟨nb21, [(.string ⟨t.toArray⟩)], 9⟩, ⟨n14, [(.slice none 0 0)], 43⟩, ⟨n8, [(.int .i64 0)], 25⟩, ⟨n5, [(.int .i64 0)], 3⟩, ⟨n2, [(.slice none 0 0)], 43⟩] [] := S22
 refine wl_nil (hK18 _ _ ?_)
 refine wp_block ?_
 refine (wpIn_wide (n := 3)).1 (range_enter (n := 3) (by omega) rfl (fun args w => ent_49 args w) (fun fn rec hrec => ?_))
 have S2 := St.two S22 (.deferred (some [])) (.loop (rec .ready none))
 revert S2 hrec
 generalize (w20.alloc (.deferred (some []))).alloc (.loop (rec .ready none)) = W2
 generalize w20.heap.size = D
 intro hrec S2
 show Calls _ _ #[.func (.yield (D + 1)) #[] #[], .pointer (some ⟨nb21, 0, none⟩)] _ _
 have hJ0 : ReadJ w F t nb21 n14 n8 n5 n2 D rec t W2 := ⟨F, [], .slice none 0 0, St.addNil S2 4 AtC AtC.mono 50 w.heap.size, by simp, by simp, hl, rfl⟩
 refine (lines1_spec (J := ReadJ w F t nb21 n14 n8 n5 n2 D rec) (K := ReadK w F t nb21 n14 n8 n5 n2 D rec) (Jx := ReadX w F t nb21 n14 n8 n5 n2 D rec) (fun r W h => h.box) (fun r W W' h hb => h.below hb) (fun x r r' W h e hlt => h.next e hlt) ?round W2 t hJ0).mono ?fin
 case round =>
  rintro x r W1 ⟨F3, acc, v, S3, hok, hal, hrl, hxl, hrd⟩
  obtain ⟨xa3, xc3, rfl, hac, _⟩ := (S3.own (i := 0) rfl).shape
  refine rec_yield hrec (S3.recd (i := 1) rfl) rfl (t' := #[(.string ⟨t.toArray⟩), undef, (.pointer (some ⟨n2, 0, none⟩)), (.pointer (some ⟨n5, 0, none⟩)), (.pointer (some ⟨n8, 0, none⟩)), (.pointer (some ⟨n14, 0, none⟩)), undef, undef, (.string ⟨t.toArray⟩), (.int .i64 ((t.length : Nat) : Int)), (.bool false), (.string ⟨t.toArray⟩), (.func (.func 49) #[] #[(.pointer (some ⟨nb21, 0, none⟩))]), (.string ⟨x.toArray⟩), undef, undef, undef, undef, undef, undef, undef, undef, undef, undef, undef, undef, undef, undef, undef, undef, undef, undef, undef, undef, undef, undef, undef]) (by simp) ?_
  refine regionR_wl rfl (fun ⟨_, _, h⟩ => h) ?_
  refine do_ rfl (.string ⟨x.toArray⟩) (ex_assign _) ?_
  simp only [pS, pN, pA, pC, pZ]
  refine wl_nil ?_
  (try simp only [Exit.then, Exit.inBlock, ↓reduceIte, Nat.reduceEqDiff])
  refine ⟨_, rec_begin hrec (S3.recd (i := 1) rfl), ?_⟩
  have S23 := St.turn S3 (i := 1) rfl (.loop (rec .busy none))
  revert S23
  generalize (World.putObj W1 (D + 1) (.loop (rec .busy none))) = w24
  intro S23
  have S23 : St w F w24 F3 [⟨nb21, [(.string ⟨r.toArray⟩)], 9⟩, ⟨n14, [(.slice xa3 acc.length xc3)], 43⟩, ⟨n8, [(.int .i64 0)], 25⟩, ⟨n5, [(.int .i64 0)], 3⟩, ⟨n2, [(.slice none 0 0)], 43⟩] (ownP 4 AtC AtC.mono 50 w.heap.size (.slice xa3 acc.length xc3) acc :: [recP (D + 1) (.loop (rec .busy none)), recP D (.deferred (some []))]) := S23
  refine wpIn_block ?_
  refine wpIn_seq_k (fun K25 hK25 => ?_)
  refine wpIn_seq_k (fun K26 hK26 => ?_)
  refine regionR_wl rfl (fun ⟨_, _, h⟩ => h) ?_
  refine do_ rfl (.slice xa3 acc.length xc3) (ex_load rfl (load1 (nagg_43 _) (St.cell S23 (i := 1) rfl rfl))) ?_
  simp only [pS, pN, pA, pC, pZ]
  refine do_ rfl (.int .i64 ((acc.length : Nat) : Int)) (ex_len Tryd.underlying43 rfl) ?_
  simp only [pS, pN, pA, pC, pZ]
  by_cases hc16 : acc.length = 100000
  ·refine do_ rfl (.bool true) (ex_eql (m := ((acc.length : Nat) : Int)) (n := (100000 : Int)) (b := true) rfl rfl (beq_iff_eq.2 (by omega))) ?_
   simp only [pS, pN, pA, pC, pZ]
   refine wl_nil (hK26 _ _ ?_)
   refine wpIn_cond_true rfl ?_
   refine wpIn_seq_k (fun K27 hK27 => ?_)
   have S28 : St w F w24.drew F3 [⟨nb21, [(.string ⟨r.toArray⟩)], 9⟩, ⟨n14, [(.slice xa3 acc.length xc3)], 43⟩, ⟨n8, [(.int .i64 0)], 25⟩, ⟨n5, [(.int .i64 0)], 3⟩, ⟨n2, [(.slice none 0 0)], 43⟩] (ownP 4 AtC AtC.mono 50 w.heap.size (.slice xa3 acc.length xc3) acc :: [recP (D + 1) (.loop (rec .busy none)), recP D (.deferred (some []))]) := S23.tells (Below.refl _ _).drew
   refine region_5 (by kernel_rfl) (by kernel_rfl) rfl (fun ⟨_, _, h⟩ => h) rfl (.slice xa3 acc.length xc3) (ex_load rfl (load1 (nagg_43 _) (St.cell S28 (i := 1) rfl rfl))) ?_ ?_ ?_
   ·simp only [pS, pN, pA, pC, pZ]
    refine do_ rfl (.int .i64 ((acc.length : Nat) : Int)) (ex_len Tryd.underlying43 rfl) ?_
    simp only [pS, pN, pA, pC, pZ]
    refine stStore (i := 4) (v := (.slice none 0 0)) S28 rfl rfl rfl rfl (size_43) (allc1 rfl) (Nat.le_of_ble_eq_true rfl) (fun w29 S30 => ?_)
    simp only [pS, pN, pA, pC, pZ]
    have S30 : St w F w29 F3 [⟨nb21, [(.string ⟨r.toArray⟩)], 9⟩, ⟨n14, [(.slice xa3 acc.length xc3)], 43⟩, ⟨n8, [(.int .i64 0)], 25⟩, ⟨n5, [(.int .i64 0)], 3⟩, ⟨n2, [(.slice none 0 0)], 43⟩] (ownP 4 AtC AtC.mono 50 w.heap.size (.slice xa3 acc.length xc3) acc :: [recP (D + 1) (.loop (rec .busy none)), recP D (.deferred (some []))]) := S30
    refine stStore (i := 3) (v := (.int .i64 ((acc.length : Nat) : Int))) S30 rfl rfl rfl rfl (size_3) (allc1 rfl) (Nat.le_of_ble_eq_true rfl) (fun w31 S32 => ?_)
    simp only [pS, pN, pA, pC, pZ]
    have S32 : St w F w31 F3 [⟨nb21, [(.string ⟨r.toArray⟩)], 9⟩, ⟨n14, [(.slice xa3 acc.length xc3)], 43⟩, ⟨n8, [(.int .i64 0)], 25⟩, ⟨n5, [(.int .i64 ((acc.length : Nat) : Int))], 3⟩, ⟨n2, [(.slice none 0 0)], 43⟩] (ownP 4 AtC AtC.mono 50 w.heap.size (.slice xa3 acc.length xc3) acc :: [recP (D + 1) (.loop (rec .busy none)), recP D (.deferred (some []))]) := S32
    refine stStore (i := 2) (v := (.int .i64 11)) S32 rfl rfl rfl rfl (size_25) (allc1 rfl) (Nat.le_of_ble_eq_true rfl) (fun w33 S34 => ?_)
    simp only [pS, pN, pA, pC, pZ]
    have S34 : St w F w33 F3 [⟨nb21, [(.string ⟨r.toArray⟩)], 9⟩, ⟨n14, [(.slice xa3 acc.length xc3)], 43⟩, ⟨n8, [(.int .i64 11)], 25⟩, ⟨n5, [(.int .i64 ((acc.length : Nat) : Int))], 3⟩, ⟨n2, [(.slice none 0 0)], 43⟩] (ownP 4 AtC AtC.mono 50 w.heap.size (.slice xa3 acc.length xc3) acc :: [recP (D + 1) (.loop (rec .busy none)), recP D (.deferred (some []))]) := S34
    refine wl_nil (hK27 _ _ ?_)
    refine wpIn_ret ?_
    (try simp only [Exit.then, Exit.inBlock, ↓reduceIte, Nat.reduceEqDiff])
    have S35 := St.turn S34 (i := 1) rfl (.loop (rec .done (some .ret)))
    refine ⟨_, _, rec_end hrec (S34.recd (i := 1) rfl) (some .ret), .inr ⟨rfl, ?_⟩⟩
    refine ⟨_, _, _, _, acc.length, 11, S35, ?_⟩
    rw [hrd]
    unfold readL
    rw [if_pos hc16]
   ·simp only [pS, pN, pA, pC, pZ]
    refine stStore (i := 4) (v := (.slice none 0 0)) S28 rfl rfl rfl rfl (size_43) (allc1 rfl) (Nat.le_of_ble_eq_true rfl) (fun w36 S37 => ?_)
    simp only [pS, pN, pA, pC, pZ]
    have S37 : St w F w36 F3 [⟨nb21, [(.string ⟨r.toArray⟩)], 9⟩, ⟨n14, [(.slice xa3 acc.length xc3)], 43⟩, ⟨n8, [(.int .i64 0)], 25⟩, ⟨n5, [(.int .i64 0)], 3⟩, ⟨n2, [(.slice none 0 0)], 43⟩] (ownP 4 AtC AtC.mono 50 w.heap.size (.slice xa3 acc.length xc3) acc :: [recP (D + 1) (.loop (rec .busy none)), recP D (.deferred (some []))]) := S37
    refine do_ rfl (.int .i64 ((acc.length : Nat) : Int)) (ex_len Tryd.underlying43 rfl) ?_
    simp only [pS, pN, pA, pC, pZ]
    refine stStore (i := 3) (v := (.int .i64 ((acc.length : Nat) : Int))) S37 rfl rfl rfl rfl (size_3) (allc1 rfl) (Nat.le_of_ble_eq_true rfl) (fun w38 S39 => ?_)
    simp only [pS, pN, pA, pC, pZ]
    have S39 : St w F w38 F3 [⟨nb21, [(.string ⟨r.toArray⟩)], 9⟩, ⟨n14, [(.slice xa3 acc.length xc3)], 43⟩, ⟨n8, [(.int .i64 0)], 25⟩, ⟨n5, [(.int .i64 ((acc.length : Nat) : Int))], 3⟩, ⟨n2, [(.slice none 0 0)], 43⟩] (ownP 4 AtC AtC.mono 50 w.heap.size (.slice xa3 acc.length xc3) acc :: [recP (D + 1) (.loop (rec .busy none)), recP D (.deferred (some []))]) := S39
    refine stStore (i := 2) (v := (.int .i64 11)) S39 rfl rfl rfl rfl (size_25) (allc1 rfl) (Nat.le_of_ble_eq_true rfl) (fun w40 S41 => ?_)
    simp only [pS, pN, pA, pC, pZ]
    have S41 : St w F w40 F3 [⟨nb21, [(.string ⟨r.toArray⟩)], 9⟩, ⟨n14, [(.slice xa3 acc.length xc3)], 43⟩, ⟨n8, [(.int .i64 11)], 25⟩, ⟨n5, [(.int .i64 ((acc.length : Nat) : Int))], 3⟩, ⟨n2, [(.slice none 0 0)], 43⟩] (ownP 4 AtC AtC.mono 50 w.heap.size (.slice xa3 acc.length xc3) acc :: [recP (D + 1) (.loop (rec .busy none)), recP D (.deferred (some []))]) := S41
    refine wl_nil (hK27 _ _ ?_)
    refine wpIn_ret ?_
    (try simp only [Exit.then, Exit.inBlock, ↓reduceIte, Nat.reduceEqDiff])
    have S42 := St.turn S41 (i := 1) rfl (.loop (rec .done (some .ret)))
    refine ⟨_, _, rec_end hrec (S41.recd (i := 1) rfl) (some .ret), .inr ⟨rfl, ?_⟩⟩
    refine ⟨_, _, _, _, acc.length, 11, S42, ?_⟩
    rw [hrd]
    unfold readL
    rw [if_pos hc16]
   ·refine stStore (i := 4) (v := (.slice none 0 0)) S28 rfl rfl rfl rfl (size_43) (allc1 rfl) (Nat.le_of_ble_eq_true rfl) (fun w43 S44 => ?_)
    simp only [pS, pN, pA, pC, pZ]
    have S44 : St w F w43 F3 [⟨nb21, [(.string ⟨r.toArray⟩)], 9⟩, ⟨n14, [(.slice xa3 acc.length xc3)], 43⟩, ⟨n8, [(.int .i64 0)], 25⟩, ⟨n5, [(.int .i64 0)], 3⟩, ⟨n2, [(.slice none 0 0)], 43⟩] (ownP 4 AtC AtC.mono 50 w.heap.size (.slice xa3 acc.length xc3) acc :: [recP (D + 1) (.loop (rec .busy none)), recP D (.deferred (some []))]) := S44
    refine do_ rfl (.slice xa3 acc.length xc3) (ex_load rfl (load1 (nagg_43 _) (St.cell S44 (i := 1) rfl rfl))) ?_
    simp only [pS, pN, pA, pC, pZ]
    refine do_ rfl (.int .i64 ((acc.length : Nat) : Int)) (ex_len Tryd.underlying43 rfl) ?_
    simp only [pS, pN, pA, pC, pZ]
    refine stStore (i := 3) (v := (.int .i64 ((acc.length : Nat) : Int))) S44 rfl rfl rfl rfl (size_3) (allc1 rfl) (Nat.le_of_ble_eq_true rfl) (fun w45 S46 => ?_)
    simp only [pS, pN, pA, pC, pZ]
    have S46 : St w F w45 F3 [⟨nb21, [(.string ⟨r.toArray⟩)], 9⟩, ⟨n14, [(.slice xa3 acc.length xc3)], 43⟩, ⟨n8, [(.int .i64 0)], 25⟩, ⟨n5, [(.int .i64 ((acc.length : Nat) : Int))], 3⟩, ⟨n2, [(.slice none 0 0)], 43⟩] (ownP 4 AtC AtC.mono 50 w.heap.size (.slice xa3 acc.length xc3) acc :: [recP (D + 1) (.loop (rec .busy none)), recP D (.deferred (some []))]) := S46
    refine stStore (i := 2) (v := (.int .i64 11)) S46 rfl rfl rfl rfl (size_25) (allc1 rfl) (Nat.le_of_ble_eq_true rfl) (fun w47 S48 => ?_)
    simp only [pS, pN, pA, pC, pZ]
    have S48 : St w F w47 F3 [⟨nb21, [(.string ⟨r.toArray⟩)], 9⟩, ⟨n14, [(.slice xa3 acc.length xc3)], 43⟩, ⟨n8, [(.int .i64 11)], 25⟩, ⟨n5, [(.int .i64 ((acc.length : Nat) : Int))], 3⟩, ⟨n2, [(.slice none 0 0)], 43⟩] (ownP 4 AtC AtC.mono 50 w.heap.size (.slice xa3 acc.length xc3) acc :: [recP (D + 1) (.loop (rec .busy none)), recP D (.deferred (some []))]) := S48
    refine wl_nil (hK27 _ _ ?_)
    refine wpIn_ret ?_
    (try simp only [Exit.then, Exit.inBlock, ↓reduceIte, Nat.reduceEqDiff])
    have S49 := St.turn S48 (i := 1) rfl (.loop (rec .done (some .ret)))
    refine ⟨_, _, rec_end hrec (S48.recd (i := 1) rfl) (some .ret), .inr ⟨rfl, ?_⟩⟩
    refine ⟨_, _, _, _, acc.length, 11, S49, ?_⟩
    rw [hrd]
    unfold readL
    rw [if_pos hc16]
  ·refine do_ rfl (.bool false) (ex_eql (m := ((acc.length : Nat) : Int)) (n := (100000 : Int)) (b := false) rfl rfl (beq_eq_false_iff_ne.2 (by omega))) ?_
   simp only [pS, pN, pA, pC, pZ]
   refine wl_nil (hK26 _ _ ?_)
   refine wpIn_cond_false rfl ?_
   refine wpIn_skip ?_
   refine hK25 _ _ ?_
   refine wpIn_seq_k (fun K50 hK50 => ?_)
   obtain ⟨a, hact⟩ : ∃ a, actL x = a := ⟨_, rfl⟩
   refine regionR_wl rfl (fun ⟨_, _, h⟩ => h) ?_
   refine do_ rfl (.string ⟨x.toArray⟩) (ex_move _) ?_
   simp only [pS, pN, pA, pC, pZ]
   refine stGives S23 rfl (ex_fn (vs := #[(.string ⟨x.toArray⟩)]) (map1 rfl) rfl (ent_30 _ _)) (hact ▸ act_spec W hT hW _ (hF.trans (S23.gr.le hs)) _ _ (S23).sat hxl) ?_
   intro v56 w51 F53 S52 le54 R55
   obtain ⟨xa57, xc58, rfl, R55⟩ := R55
   simp only [pS, pN, pA, pC, pZ]
   refine stNew S52 (v := fun n => .pointer (some ⟨n, 0, none⟩)) rfl (ex_alloc (zero_50 _)) (fun n59 w60 S61 => ?_)
   simp only [pS, pN, pA, pC, pZ]
   have S61 : St w F w60 F53 [⟨n59, [(.int .i64 0), (.int .i64 0), (.int .i64 0), (.slice none 0 0)], 50⟩, ⟨nb21, [(.string ⟨r.toArray⟩)], 9⟩, ⟨n14, [(.slice xa3 acc.length xc3)], 43⟩, ⟨n8, [(.int .i64 0)], 25⟩, ⟨n5, [(.int .i64 0)], 3⟩, ⟨n2, [(.slice none 0 0)], 43⟩] (ownP 4 AtC AtC.mono 50 w.heap.size (.slice xa3 acc.length xc3) acc :: [recP (D + 1) (.loop (rec .busy none)), recP D (.deferred (some []))]) := S61
   refine stStore (i := 0) (v := (.agg #[(.int .i64 a.kind), (.int .i64 a.sess), (.int .i64 a.n), (.slice xa57 a.data.length xc58)])) S61 rfl rfl rfl rfl (size_50) (allc4 rfl rfl rfl rfl) (Nat.le_of_ble_eq_true rfl) (fun w62 S63 => ?_)
   simp only [pS, pN, pA, pC, pZ]
   have S63 : St w F w62 F53 [⟨n59, [(.int .i64 a.kind), (.int .i64 a.sess), (.int .i64 a.n), (.slice xa57 a.data.length xc58)], 50⟩, ⟨nb21, [(.string ⟨r.toArray⟩)], 9⟩, ⟨n14, [(.slice xa3 acc.length xc3)], 43⟩, ⟨n8, [(.int .i64 0)], 25⟩, ⟨n5, [(.int .i64 0)], 3⟩, ⟨n2, [(.slice none 0 0)], 43⟩] (ownP 4 AtC AtC.mono 50 w.heap.size (.slice xa3 acc.length xc3) acc :: [recP (D + 1) (.loop (rec .busy none)), recP D (.deferred (some []))]) := S63
   refine wl_nil (hK50 _ _ ?_)
   refine wpIn_seq_k (fun K64 hK64 => ?_)
   refine wpIn_seq_k (fun K65 hK65 => ?_)
   by_cases hck : checkA a = 0
   ·by_cases hln : lineL a = x
    ·refine regionR_wl rfl (fun ⟨_, _, h⟩ => h) ?_
     refine do_ rfl (.agg #[(.int .i64 a.kind), (.int .i64 a.sess), (.int .i64 a.n), (.slice xa57 a.data.length xc58)]) (ex_load rfl (loadN (cs := [(.int .i64 a.kind), (.int .i64 a.sess), (.int .i64 a.n), (.slice xa57 a.data.length xc58)]) Tryd.underlying50 rfl (size_50) (St.range S63 (i := 0) rfl 0 [(.int .i64 a.kind), (.int .i64 a.sess), (.int .i64 a.n), (.slice xa57 a.data.length xc58)] (sub_range 0 rfl)))) ?_
     simp only [pS, pN, pA, pC, pZ]
     refine stTells (v := (.int .i64 (checkA a))) S63 rfl (ex_fn (vs := #[(.agg #[(.int .i64 a.kind), (.int .i64 a.sess), (.int .i64 a.n), (.slice xa57 a.data.length xc58)])]) (map1 rfl) rfl (ent_25 _ _)) (checkA_spec _ _ _ a (S63).sat ⟨_, _, rfl, R55⟩) (fun w66 S67 => ?_)
     simp only [pS, pN, pA, pC, pZ]
     refine do_ rfl (.bool false) (ex_neq (m := (checkA a)) (n := (0 : Int)) (b := false) rfl rfl (bne_eq_false_iff_eq.2 (hck))) ?_
     simp only [pS, pN, pA, pC, pZ]
     refine do_ rfl (.bool false) (ex_move _) ?_
     simp only [pS, pN, pA, pC, pZ]
     refine do_ rfl (.agg #[(.int .i64 a.kind), (.int .i64 a.sess), (.int .i64 a.n), (.slice xa57 a.data.length xc58)]) (ex_load rfl (loadN (cs := [(.int .i64 a.kind), (.int .i64 a.sess), (.int .i64 a.n), (.slice xa57 a.data.length xc58)]) Tryd.underlying50 rfl (size_50) (St.range S67 (i := 0) rfl 0 [(.int .i64 a.kind), (.int .i64 a.sess), (.int .i64 a.n), (.slice xa57 a.data.length xc58)] (sub_range 0 rfl)))) ?_
     simp only [pS, pN, pA, pC, pZ]
     refine stTells (v := (.string ⟨(lineL a).toArray⟩)) S67 rfl (ex_fn (vs := #[(.agg #[(.int .i64 a.kind), (.int .i64 a.sess), (.int .i64 a.n), (.slice xa57 a.data.length xc58)])]) (map1 rfl) rfl (ent_27 _ _)) (lineA_spec W hT hW _ (hF.trans (S67.gr.le hs)) _ _ a (S67).sat ⟨_, _, rfl, R55⟩ hck) (fun w68 S69 => ?_)
     simp only [pS, pN, pA, pC, pZ]
     refine do_ rfl (.string ⟨x.toArray⟩) (ex_move _) ?_
     simp only [pS, pN, pA, pC, pZ]
     refine do_ rfl (.bool false) (ex_strop (op := .neq) (l := (lineL a)) (m := x) (b := false) (by simp) rfl rfl (show (!(lineL a == x)) = false from by simp [hln])) ?_
     simp only [pS, pN, pA, pC, pZ]
     refine do_ rfl (.bool false) (ex_pick (b := false) rfl) ?_
     simp only [pS, pN, pA, pC, pZ]
     refine wl_nil (hK65 _ _ ?_)
     refine wpIn_cond_false rfl ?_
     refine wpIn_skip ?_
     refine hK64 _ _ ?_
     refine regionR_wl rfl (fun ⟨_, _, h⟩ => h) ?_
     refine do_ rfl (.slice xa3 acc.length xc3) (ex_load rfl (load1 (nagg_43 _) (St.cell S69 (i := 2) rfl rfl))) ?_
     simp only [pS, pN, pA, pC, pZ]
     refine do_ rfl (.agg #[(.int .i64 a.kind), (.int .i64 a.sess), (.int .i64 a.n), (.slice xa57 a.data.length xc58)]) (ex_load rfl (loadN (cs := [(.int .i64 a.kind), (.int .i64 a.sess), (.int .i64 a.n), (.slice xa57 a.data.length xc58)]) Tryd.underlying50 rfl (size_50) (St.range S69 (i := 0) rfl 0 [(.int .i64 a.kind), (.int .i64 a.sess), (.int .i64 a.n), (.slice xa57 a.data.length xc58)] (sub_range 0 rfl)))) ?_
     simp only [pS, pN, pA, pC, pZ]
     refine stNew S69 (v := fun n => .slice (some ⟨n, 0, none⟩) 1 1) rfl (ex_lit (ps := #[(0, (.agg #[(.int .i64 a.kind), (.int .i64 a.sess), (.int .i64 a.n), (.slice xa57 a.data.length xc58)]))]) (cells := #[(.int .i64 a.kind), (.int .i64 a.sess), (.int .i64 a.n), (.slice xa57 a.data.length xc58)]) (E := 50) (bmap1 rfl) (fun w => by kernel_rfl)) (fun n70 w71 S72 => ?_)
     simp only [pS, pN, pA, pC, pZ]
     have S72 : St w F w71 F53 [⟨n70, [(.int .i64 a.kind), (.int .i64 a.sess), (.int .i64 a.n), (.slice xa57 a.data.length xc58)], 50⟩, ⟨n59, [(.int .i64 a.kind), (.int .i64 a.sess), (.int .i64 a.n), (.slice xa57 a.data.length xc58)], 50⟩, ⟨nb21, [(.string ⟨r.toArray⟩)], 9⟩, ⟨n14, [(.slice xa3 acc.length xc3)], 43⟩, ⟨n8, [(.int .i64 0)], 25⟩, ⟨n5, [(.int .i64 0)], 3⟩, ⟨n2, [(.slice none 0 0)], 43⟩] (ownP 4 AtC AtC.mono 50 w.heap.size (.slice xa3 acc.length xc3) acc :: [recP (D + 1) (.loop (rec .busy none)), recP D (.deferred (some []))]) := S72
     refine stPush (i := 0) (r := 0) (p := a) (cs := [(.int .i64 a.kind), (.int .i64 a.sess), (.int .i64 a.n), (.slice xa57 a.data.length xc58)]) S72 rfl i50 (.agg #[(.int .i64 0), (.int .i64 0), (.int .i64 0), (.slice none 0 0)]) 48 Tryd.underlying43 hi50 hz50 hs50 hb50 rfl (by decide) rfl rfl rfl rfl rfl (AtC.one _ _ a ⟨_, _, rfl, R55⟩) (⟨_, _, rfl, R55⟩) (Nat.le_refl _) S72.gr.below.size (by unfold maxLen; omega) (by omega) ?_
     intro v73 w74 S75 hn76
     simp only [pS, pN, pA, pC, pZ]
     have S75 := St.drop S75 (L' := [⟨n59, [(.int .i64 a.kind), (.int .i64 a.sess), (.int .i64 a.n), (.slice xa57 a.data.length xc58)], 50⟩, ⟨nb21, [(.string ⟨r.toArray⟩)], 9⟩, ⟨n14, [(.slice xa3 acc.length xc3)], 43⟩, ⟨n8, [(.int .i64 0)], 25⟩, ⟨n5, [(.int .i64 0)], 3⟩, ⟨n2, [(.slice none 0 0)], 43⟩]) (.cons _ (List.Sublist.refl _))
     have S75 : St w F w74 F53 [⟨n59, [(.int .i64 a.kind), (.int .i64 a.sess), (.int .i64 a.n), (.slice xa57 a.data.length xc58)], 50⟩, ⟨nb21, [(.string ⟨r.toArray⟩)], 9⟩, ⟨n14, [(.slice xa3 acc.length xc3)], 43⟩, ⟨n8, [(.int .i64 0)], 25⟩, ⟨n5, [(.int .i64 0)], 3⟩, ⟨n2, [(.slice none 0 0)], 43⟩] (ownP 4 AtC AtC.mono 50 w.heap.size v73 (acc ++ [a]) :: [recP (D + 1) (.loop (rec .busy none)), recP D (.deferred (some []))]) := S75
     obtain ⟨a77, cap78, rfl, h79, h80⟩ := (S75.own (i := 0) rfl).shape
     unfold maxLen at h80
     refine stStore (i := 2) (v := (.slice a77 (acc ++ [a]).length cap78)) S75 rfl rfl rfl rfl (size_43) (allc1 rfl) (Nat.le_of_ble_eq_true rfl) (fun w81 S82 => ?_)
     simp only [pS, pN, pA, pC, pZ]
     have S82 : St w F w81 F53 [⟨n59, [(.int .i64 a.kind), (.int .i64 a.sess), (.int .i64 a.n), (.slice xa57 a.data.length xc58)], 50⟩, ⟨nb21, [(.string ⟨r.toArray⟩)], 9⟩, ⟨n14, [(.slice a77 (acc ++ [a]).length cap78)], 43⟩, ⟨n8, [(.int .i64 0)], 25⟩, ⟨n5, [(.int .i64 0)], 3⟩, ⟨n2, [(.slice none 0 0)], 43⟩] (ownP 4 AtC AtC.mono 50 w.heap.size (.slice a77 (acc ++ [a]).length cap78) (acc ++ [a]) :: [recP (D + 1) (.loop (rec .busy none)), recP D (.deferred (some []))]) := S82
     refine wl_nil ?_
     (try simp only [Exit.then, Exit.inBlock, ↓reduceIte, Nat.reduceEqDiff])
     have S83 := St.drop S82 (L' := [⟨nb21, [(.string ⟨r.toArray⟩)], 9⟩, ⟨n14, [(.slice a77 (acc ++ [a]).length cap78)], 43⟩, ⟨n8, [(.int .i64 0)], 25⟩, ⟨n5, [(.int .i64 0)], 3⟩, ⟨n2, [(.slice none 0 0)], 43⟩]) (.cons _ (List.Sublist.refl _))
     have S83 : St w F w81 F53 [⟨nb21, [(.string ⟨r.toArray⟩)], 9⟩, ⟨n14, [(.slice a77 (acc ++ [a]).length cap78)], 43⟩, ⟨n8, [(.int .i64 0)], 25⟩, ⟨n5, [(.int .i64 0)], 3⟩, ⟨n2, [(.slice none 0 0)], 43⟩] (ownP 4 AtC AtC.mono 50 w.heap.size (.slice a77 (acc ++ [a]).length cap78) (acc ++ [a]) :: [recP (D + 1) (.loop (rec .busy none)), recP D (.deferred (some []))]) := S83
     have S84 := St.turn S83 (i := 1) rfl (.loop (rec .ready none))
     refine ⟨_, _, rec_end hrec (S83.recd (i := 1) rfl) none, .inl ⟨rfl, ?_⟩⟩
     refine ⟨_, acc ++ [a], _, S84, fun z hz => ?_, by rw [List.length_append, List.length_singleton]; omega, hrl, ?_⟩
     ·rcases List.mem_append.1 hz with hz | hz
      ·exact hok z hz
      ·rw [List.mem_singleton.1 hz]; exact hck
     ·rw [hrd, readL_cons]
      rw [if_neg (by omega), hact, if_pos ⟨hck, hln⟩]
    ·refine regionR_wl rfl (fun ⟨_, _, h⟩ => h) ?_
     refine do_ rfl (.agg #[(.int .i64 a.kind), (.int .i64 a.sess), (.int .i64 a.n), (.slice xa57 a.data.length xc58)]) (ex_load rfl (loadN (cs := [(.int .i64 a.kind), (.int .i64 a.sess), (.int .i64 a.n), (.slice xa57 a.data.length xc58)]) Tryd.underlying50 rfl (size_50) (St.range S63 (i := 0) rfl 0 [(.int .i64 a.kind), (.int .i64 a.sess), (.int .i64 a.n), (.slice xa57 a.data.length xc58)] (sub_range 0 rfl)))) ?_
     simp only [pS, pN, pA, pC, pZ]
     refine stTells (v := (.int .i64 (checkA a))) S63 rfl (ex_fn (vs := #[(.agg #[(.int .i64 a.kind), (.int .i64 a.sess), (.int .i64 a.n), (.slice xa57 a.data.length xc58)])]) (map1 rfl) rfl (ent_25 _ _)) (checkA_spec _ _ _ a (S63).sat ⟨_, _, rfl, R55⟩) (fun w85 S86 => ?_)
     simp only [pS, pN, pA, pC, pZ]
     refine do_ rfl (.bool false) (ex_neq (m := (checkA a)) (n := (0 : Int)) (b := false) rfl rfl (bne_eq_false_iff_eq.2 (hck))) ?_
     simp only [pS, pN, pA, pC, pZ]
     refine do_ rfl (.bool false) (ex_move _) ?_
     simp only [pS, pN, pA, pC, pZ]
     refine do_ rfl (.agg #[(.int .i64 a.kind), (.int .i64 a.sess), (.int .i64 a.n), (.slice xa57 a.data.length xc58)]) (ex_load rfl (loadN (cs := [(.int .i64 a.kind), (.int .i64 a.sess), (.int .i64 a.n), (.slice xa57 a.data.length xc58)]) Tryd.underlying50 rfl (size_50) (St.range S86 (i := 0) rfl 0 [(.int .i64 a.kind), (.int .i64 a.sess), (.int .i64 a.n), (.slice xa57 a.data.length xc58)] (sub_range 0 rfl)))) ?_
     simp only [pS, pN, pA, pC, pZ]
     refine stTells (v := (.string ⟨(lineL a).toArray⟩)) S86 rfl (ex_fn (vs := #[(.agg #[(.int .i64 a.kind), (.int .i64 a.sess), (.int .i64 a.n), (.slice xa57 a.data.length xc58)])]) (map1 rfl) rfl (ent_27 _ _)) (lineA_spec W hT hW _ (hF.trans (S86.gr.le hs)) _ _ a (S86).sat ⟨_, _, rfl, R55⟩ hck) (fun w87 S88 => ?_)
     simp only [pS, pN, pA, pC, pZ]
     refine do_ rfl (.string ⟨x.toArray⟩) (ex_move _) ?_
     simp only [pS, pN, pA, pC, pZ]
     refine do_ rfl (.bool true) (ex_strop (op := .neq) (l := (lineL a)) (m := x) (b := true) (by simp) rfl rfl (show (!(lineL a == x)) = true from by simp [hln])) ?_
     simp only [pS, pN, pA, pC, pZ]
     refine do_ rfl (.bool true) (ex_pick (b := false) rfl) ?_
     simp only [pS, pN, pA, pC, pZ]
     refine wl_nil (hK65 _ _ ?_)
     refine wpIn_cond_true rfl ?_
     refine wpIn_seq_k (fun K89 hK89 => ?_)
     have S90 : St w F w87.drew F53 [⟨n59, [(.int .i64 a.kind), (.int .i64 a.sess), (.int .i64 a.n), (.slice xa57 a.data.length xc58)], 50⟩, ⟨nb21, [(.string ⟨r.toArray⟩)], 9⟩, ⟨n14, [(.slice xa3 acc.length xc3)], 43⟩, ⟨n8, [(.int .i64 0)], 25⟩, ⟨n5, [(.int .i64 0)], 3⟩, ⟨n2, [(.slice none 0 0)], 43⟩] (ownP 4 AtC AtC.mono 50 w.heap.size (.slice xa3 acc.length xc3) acc :: [recP (D + 1) (.loop (rec .busy none)), recP D (.deferred (some []))]) := S88.tells (Below.refl _ _).drew
     refine region_5 (by kernel_rfl) (by kernel_rfl) rfl (fun ⟨_, _, h⟩ => h) rfl (.slice xa3 acc.length xc3) (ex_load rfl (load1 (nagg_43 _) (St.cell S90 (i := 2) rfl rfl))) ?_ ?_ ?_
     ·simp only [pS, pN, pA, pC, pZ]
      refine do_ rfl (.int .i64 ((acc.length : Nat) : Int)) (ex_len Tryd.underlying43 rfl) ?_
      simp only [pS, pN, pA, pC, pZ]
      refine stStore (i := 5) (v := (.slice none 0 0)) S90 rfl rfl rfl rfl (size_43) (allc1 rfl) (Nat.le_of_ble_eq_true rfl) (fun w91 S92 => ?_)
      simp only [pS, pN, pA, pC, pZ]
      have S92 : St w F w91 F53 [⟨n59, [(.int .i64 a.kind), (.int .i64 a.sess), (.int .i64 a.n), (.slice xa57 a.data.length xc58)], 50⟩, ⟨nb21, [(.string ⟨r.toArray⟩)], 9⟩, ⟨n14, [(.slice xa3 acc.length xc3)], 43⟩, ⟨n8, [(.int .i64 0)], 25⟩, ⟨n5, [(.int .i64 0)], 3⟩, ⟨n2, [(.slice none 0 0)], 43⟩] (ownP 4 AtC AtC.mono 50 w.heap.size (.slice xa3 acc.length xc3) acc :: [recP (D + 1) (.loop (rec .busy none)), recP D (.deferred (some []))]) := S92
      refine stStore (i := 4) (v := (.int .i64 ((acc.length : Nat) : Int))) S92 rfl rfl rfl rfl (size_3) (allc1 rfl) (Nat.le_of_ble_eq_true rfl) (fun w93 S94 => ?_)
      simp only [pS, pN, pA, pC, pZ]
      have S94 : St w F w93 F53 [⟨n59, [(.int .i64 a.kind), (.int .i64 a.sess), (.int .i64 a.n), (.slice xa57 a.data.length xc58)], 50⟩, ⟨nb21, [(.string ⟨r.toArray⟩)], 9⟩, ⟨n14, [(.slice xa3 acc.length xc3)], 43⟩, ⟨n8, [(.int .i64 0)], 25⟩, ⟨n5, [(.int .i64 ((acc.length : Nat) : Int))], 3⟩, ⟨n2, [(.slice none 0 0)], 43⟩] (ownP 4 AtC AtC.mono 50 w.heap.size (.slice xa3 acc.length xc3) acc :: [recP (D + 1) (.loop (rec .busy none)), recP D (.deferred (some []))]) := S94
      refine stStore (i := 3) (v := (.int .i64 4)) S94 rfl rfl rfl rfl (size_25) (allc1 rfl) (Nat.le_of_ble_eq_true rfl) (fun w95 S96 => ?_)
      simp only [pS, pN, pA, pC, pZ]
      have S96 : St w F w95 F53 [⟨n59, [(.int .i64 a.kind), (.int .i64 a.sess), (.int .i64 a.n), (.slice xa57 a.data.length xc58)], 50⟩, ⟨nb21, [(.string ⟨r.toArray⟩)], 9⟩, ⟨n14, [(.slice xa3 acc.length xc3)], 43⟩, ⟨n8, [(.int .i64 4)], 25⟩, ⟨n5, [(.int .i64 ((acc.length : Nat) : Int))], 3⟩, ⟨n2, [(.slice none 0 0)], 43⟩] (ownP 4 AtC AtC.mono 50 w.heap.size (.slice xa3 acc.length xc3) acc :: [recP (D + 1) (.loop (rec .busy none)), recP D (.deferred (some []))]) := S96
      refine wl_nil (hK89 _ _ ?_)
      refine wpIn_ret ?_
      (try simp only [Exit.then, Exit.inBlock, ↓reduceIte, Nat.reduceEqDiff])
      have S97 := St.drop S96 (L' := [⟨nb21, [(.string ⟨r.toArray⟩)], 9⟩, ⟨n14, [(.slice xa3 acc.length xc3)], 43⟩, ⟨n8, [(.int .i64 4)], 25⟩, ⟨n5, [(.int .i64 ((acc.length : Nat) : Int))], 3⟩, ⟨n2, [(.slice none 0 0)], 43⟩]) (.cons _ (List.Sublist.refl _))
      have S97 : St w F w95 F53 [⟨nb21, [(.string ⟨r.toArray⟩)], 9⟩, ⟨n14, [(.slice xa3 acc.length xc3)], 43⟩, ⟨n8, [(.int .i64 4)], 25⟩, ⟨n5, [(.int .i64 ((acc.length : Nat) : Int))], 3⟩, ⟨n2, [(.slice none 0 0)], 43⟩] (ownP 4 AtC AtC.mono 50 w.heap.size (.slice xa3 acc.length xc3) acc :: [recP (D + 1) (.loop (rec .busy none)), recP D (.deferred (some []))]) := S97
      have S98 := St.turn S97 (i := 1) rfl (.loop (rec .done (some .ret)))
      refine ⟨_, _, rec_end hrec (S97.recd (i := 1) rfl) (some .ret), .inr ⟨rfl, ?_⟩⟩
      refine ⟨_, _, _, _, acc.length, 4, S98, ?_⟩
      rw [hrd]
      unfold readL
      rw [if_neg (by omega), hact, if_neg (fun q => hln q.2)]
     ·simp only [pS, pN, pA, pC, pZ]
      refine stStore (i := 5) (v := (.slice none 0 0)) S90 rfl rfl rfl rfl (size_43) (allc1 rfl) (Nat.le_of_ble_eq_true rfl) (fun w99 S100 => ?_)
      simp only [pS, pN, pA, pC, pZ]
      have S100 : St w F w99 F53 [⟨n59, [(.int .i64 a.kind), (.int .i64 a.sess), (.int .i64 a.n), (.slice xa57 a.data.length xc58)], 50⟩, ⟨nb21, [(.string ⟨r.toArray⟩)], 9⟩, ⟨n14, [(.slice xa3 acc.length xc3)], 43⟩, ⟨n8, [(.int .i64 0)], 25⟩, ⟨n5, [(.int .i64 0)], 3⟩, ⟨n2, [(.slice none 0 0)], 43⟩] (ownP 4 AtC AtC.mono 50 w.heap.size (.slice xa3 acc.length xc3) acc :: [recP (D + 1) (.loop (rec .busy none)), recP D (.deferred (some []))]) := S100
      refine do_ rfl (.int .i64 ((acc.length : Nat) : Int)) (ex_len Tryd.underlying43 rfl) ?_
      simp only [pS, pN, pA, pC, pZ]
      refine stStore (i := 4) (v := (.int .i64 ((acc.length : Nat) : Int))) S100 rfl rfl rfl rfl (size_3) (allc1 rfl) (Nat.le_of_ble_eq_true rfl) (fun w101 S102 => ?_)
      simp only [pS, pN, pA, pC, pZ]
      have S102 : St w F w101 F53 [⟨n59, [(.int .i64 a.kind), (.int .i64 a.sess), (.int .i64 a.n), (.slice xa57 a.data.length xc58)], 50⟩, ⟨nb21, [(.string ⟨r.toArray⟩)], 9⟩, ⟨n14, [(.slice xa3 acc.length xc3)], 43⟩, ⟨n8, [(.int .i64 0)], 25⟩, ⟨n5, [(.int .i64 ((acc.length : Nat) : Int))], 3⟩, ⟨n2, [(.slice none 0 0)], 43⟩] (ownP 4 AtC AtC.mono 50 w.heap.size (.slice xa3 acc.length xc3) acc :: [recP (D + 1) (.loop (rec .busy none)), recP D (.deferred (some []))]) := S102
      refine stStore (i := 3) (v := (.int .i64 4)) S102 rfl rfl rfl rfl (size_25) (allc1 rfl) (Nat.le_of_ble_eq_true rfl) (fun w103 S104 => ?_)
      simp only [pS, pN, pA, pC, pZ]
      have S104 : St w F w103 F53 [⟨n59, [(.int .i64 a.kind), (.int .i64 a.sess), (.int .i64 a.n), (.slice xa57 a.data.length xc58)], 50⟩, ⟨nb21, [(.string ⟨r.toArray⟩)], 9⟩, ⟨n14, [(.slice xa3 acc.length xc3)], 43⟩, ⟨n8, [(.int .i64 4)], 25⟩, ⟨n5, [(.int .i64 ((acc.length : Nat) : Int))], 3⟩, ⟨n2, [(.slice none 0 0)], 43⟩] (ownP 4 AtC AtC.mono 50 w.heap.size (.slice xa3 acc.length xc3) acc :: [recP (D + 1) (.loop (rec .busy none)), recP D (.deferred (some []))]) := S104
      refine wl_nil (hK89 _ _ ?_)
      refine wpIn_ret ?_
      (try simp only [Exit.then, Exit.inBlock, ↓reduceIte, Nat.reduceEqDiff])
      have S105 := St.drop S104 (L' := [⟨nb21, [(.string ⟨r.toArray⟩)], 9⟩, ⟨n14, [(.slice xa3 acc.length xc3)], 43⟩, ⟨n8, [(.int .i64 4)], 25⟩, ⟨n5, [(.int .i64 ((acc.length : Nat) : Int))], 3⟩, ⟨n2, [(.slice none 0 0)], 43⟩]) (.cons _ (List.Sublist.refl _))
      have S105 : St w F w103 F53 [⟨nb21, [(.string ⟨r.toArray⟩)], 9⟩, ⟨n14, [(.slice xa3 acc.length xc3)], 43⟩, ⟨n8, [(.int .i64 4)], 25⟩, ⟨n5, [(.int .i64 ((acc.length : Nat) : Int))], 3⟩, ⟨n2, [(.slice none 0 0)], 43⟩] (ownP 4 AtC AtC.mono 50 w.heap.size (.slice xa3 acc.length xc3) acc :: [recP (D + 1) (.loop (rec .busy none)), recP D (.deferred (some []))]) := S105
      have S106 := St.turn S105 (i := 1) rfl (.loop (rec .done (some .ret)))
      refine ⟨_, _, rec_end hrec (S105.recd (i := 1) rfl) (some .ret), .inr ⟨rfl, ?_⟩⟩
      refine ⟨_, _, _, _, acc.length, 4, S106, ?_⟩
      rw [hrd]
      unfold readL
      rw [if_neg (by omega), hact, if_neg (fun q => hln q.2)]
     ·refine stStore (i := 5) (v := (.slice none 0 0)) S90 rfl rfl rfl rfl (size_43) (allc1 rfl) (Nat.le_of_ble_eq_true rfl) (fun w107 S108 => ?_)
      simp only [pS, pN, pA, pC, pZ]
      have S108 : St w F w107 F53 [⟨n59, [(.int .i64 a.kind), (.int .i64 a.sess), (.int .i64 a.n), (.slice xa57 a.data.length xc58)], 50⟩, ⟨nb21, [(.string ⟨r.toArray⟩)], 9⟩, ⟨n14, [(.slice xa3 acc.length xc3)], 43⟩, ⟨n8, [(.int .i64 0)], 25⟩, ⟨n5, [(.int .i64 0)], 3⟩, ⟨n2, [(.slice none 0 0)], 43⟩] (ownP 4 AtC AtC.mono 50 w.heap.size (.slice xa3 acc.length xc3) acc :: [recP (D + 1) (.loop (rec .busy none)), recP D (.deferred (some []))]) := S108
      refine do_ rfl (.slice xa3 acc.length xc3) (ex_load rfl (load1 (nagg_43 _) (St.cell S108 (i := 2) rfl rfl))) ?_
      simp only [pS, pN, pA, pC, pZ]
      refine do_ rfl (.int .i64 ((acc.length : Nat) : Int)) (ex_len Tryd.underlying43 rfl) ?_
      simp only [pS, pN, pA, pC, pZ]
      refine stStore (i := 4) (v := (.int .i64 ((acc.length : Nat) : Int))) S108 rfl rfl rfl rfl (size_3) (allc1 rfl) (Nat.le_of_ble_eq_true rfl) (fun w109 S110 => ?_)
      simp only [pS, pN, pA, pC, pZ]
      have S110 : St w F w109 F53 [⟨n59, [(.int .i64 a.kind), (.int .i64 a.sess), (.int .i64 a.n), (.slice xa57 a.data.length xc58)], 50⟩, ⟨nb21, [(.string ⟨r.toArray⟩)], 9⟩, ⟨n14, [(.slice xa3 acc.length xc3)], 43⟩, ⟨n8, [(.int .i64 0)], 25⟩, ⟨n5, [(.int .i64 ((acc.length : Nat) : Int))], 3⟩, ⟨n2, [(.slice none 0 0)], 43⟩] (ownP 4 AtC AtC.mono 50 w.heap.size (.slice xa3 acc.length xc3) acc :: [recP (D + 1) (.loop (rec .busy none)), recP D (.deferred (some []))]) := S110
      refine stStore (i := 3) (v := (.int .i64 4)) S110 rfl rfl rfl rfl (size_25) (allc1 rfl) (Nat.le_of_ble_eq_true rfl) (fun w111 S112 => ?_)
      simp only [pS, pN, pA, pC, pZ]
      have S112 : St w F w111 F53 [⟨n59, [(.int .i64 a.kind), (.int .i64 a.sess), (.int .i64 a.n), (.slice xa57 a.data.length xc58)], 50⟩, ⟨nb21, [(.string ⟨r.toArray⟩)], 9⟩, ⟨n14, [(.slice xa3 acc.length xc3)], 43⟩, ⟨n8, [(.int .i64 4)], 25⟩, ⟨n5, [(.int .i64 ((acc.length : Nat) : Int))], 3⟩, ⟨n2, [(.slice none 0 0)], 43⟩] (ownP 4 AtC AtC.mono 50 w.heap.size (.slice xa3 acc.length xc3) acc :: [recP (D + 1) (.loop (rec .busy none)), recP D (.deferred (some []))]) := S112
      refine wl_nil (hK89 _ _ ?_)
      refine wpIn_ret ?_
      (try simp only [Exit.then, Exit.inBlock, ↓reduceIte, Nat.reduceEqDiff])
      have S113 := St.drop S112 (L' := [⟨nb21, [(.string ⟨r.toArray⟩)], 9⟩, ⟨n14, [(.slice xa3 acc.length xc3)], 43⟩, ⟨n8, [(.int .i64 4)], 25⟩, ⟨n5, [(.int .i64 ((acc.length : Nat) : Int))], 3⟩, ⟨n2, [(.slice none 0 0)], 43⟩]) (.cons _ (List.Sublist.refl _))
      have S113 : St w F w111 F53 [⟨nb21, [(.string ⟨r.toArray⟩)], 9⟩, ⟨n14, [(.slice xa3 acc.length xc3)], 43⟩, ⟨n8, [(.int .i64 4)], 25⟩, ⟨n5, [(.int .i64 ((acc.length : Nat) : Int))], 3⟩, ⟨n2, [(.slice none 0 0)], 43⟩] (ownP 4 AtC AtC.mono 50 w.heap.size (.slice xa3 acc.length xc3) acc :: [recP (D + 1) (.loop (rec .busy none)), recP D (.deferred (some []))]) := S113
      have S114 := St.turn S113 (i := 1) rfl (.loop (rec .done (some .ret)))
      refine ⟨_, _, rec_end hrec (S113.recd (i := 1) rfl) (some .ret), .inr ⟨rfl, ?_⟩⟩
      refine ⟨_, _, _, _, acc.length, 4, S114, ?_⟩
      rw [hrd]
      unfold readL
      rw [if_neg (by omega), hact, if_neg (fun q => hln q.2)]
   ·refine regionR_wl rfl (fun ⟨_, _, h⟩ => h) ?_
    refine do_ rfl (.agg #[(.int .i64 a.kind), (.int .i64 a.sess), (.int .i64 a.n), (.slice xa57 a.data.length xc58)]) (ex_load rfl (loadN (cs := [(.int .i64 a.kind), (.int .i64 a.sess), (.int .i64 a.n), (.slice xa57 a.data.length xc58)]) Tryd.underlying50 rfl (size_50) (St.range S63 (i := 0) rfl 0 [(.int .i64 a.kind), (.int .i64 a.sess), (.int .i64 a.n), (.slice xa57 a.data.length xc58)] (sub_range 0 rfl)))) ?_
    simp only [pS, pN, pA, pC, pZ]
    refine stTells (v := (.int .i64 (checkA a))) S63 rfl (ex_fn (vs := #[(.agg #[(.int .i64 a.kind), (.int .i64 a.sess), (.int .i64 a.n), (.slice xa57 a.data.length xc58)])]) (map1 rfl) rfl (ent_25 _ _)) (checkA_spec _ _ _ a (S63).sat ⟨_, _, rfl, R55⟩) (fun w115 S116 => ?_)
    simp only [pS, pN, pA, pC, pZ]
    refine do_ rfl (.bool true) (ex_neq (m := (checkA a)) (n := (0 : Int)) (b := true) rfl rfl (bne_iff_ne.2 (hck))) ?_
    simp only [pS, pN, pA, pC, pZ]
    refine do_ rfl (.bool true) (ex_move _) ?_
    simp only [pS, pN, pA, pC, pZ]
    refine doN (wanted_no rfl rfl rfl (c := true) rfl (by decide)) ?_
    simp only [pS, pN, pA, pC, pZ]
    refine doN (wanted_no rfl rfl rfl (c := true) rfl (by decide)) ?_
    simp only [pS, pN, pA, pC, pZ]
    refine doN (wanted_no rfl rfl rfl (c := true) rfl (by decide)) ?_
    simp only [pS, pN, pA, pC, pZ]
    refine doN (wanted_no rfl rfl rfl (c := true) rfl (by decide)) ?_
    simp only [pS, pN, pA, pC, pZ]
    refine do_ rfl (.bool true) (ex_pick (b := true) rfl) ?_
    simp only [pS, pN, pA, pC, pZ]
    refine wl_nil (hK65 _ _ ?_)
    refine wpIn_cond_true rfl ?_
    refine wpIn_seq_k (fun K117 hK117 => ?_)
    have S118 : St w F w115.drew F53 [⟨n59, [(.int .i64 a.kind), (.int .i64 a.sess), (.int .i64 a.n), (.slice xa57 a.data.length xc58)], 50⟩, ⟨nb21, [(.string ⟨r.toArray⟩)], 9⟩, ⟨n14, [(.slice xa3 acc.length xc3)], 43⟩, ⟨n8, [(.int .i64 0)], 25⟩, ⟨n5, [(.int .i64 0)], 3⟩, ⟨n2, [(.slice none 0 0)], 43⟩] (ownP 4 AtC AtC.mono 50 w.heap.size (.slice xa3 acc.length xc3) acc :: [recP (D + 1) (.loop (rec .busy none)), recP D (.deferred (some []))]) := S116.tells (Below.refl _ _).drew
    refine region_5 (by kernel_rfl) (by kernel_rfl) rfl (fun ⟨_, _, h⟩ => h) rfl (.slice xa3 acc.length xc3) (ex_load rfl (load1 (nagg_43 _) (St.cell S118 (i := 2) rfl rfl))) ?_ ?_ ?_
    ·simp only [pS, pN, pA, pC, pZ]
     refine do_ rfl (.int .i64 ((acc.length : Nat) : Int)) (ex_len Tryd.underlying43 rfl) ?_
     simp only [pS, pN, pA, pC, pZ]
     refine stStore (i := 5) (v := (.slice none 0 0)) S118 rfl rfl rfl rfl (size_43) (allc1 rfl) (Nat.le_of_ble_eq_true rfl) (fun w119 S120 => ?_)
     simp only [pS, pN, pA, pC, pZ]
     have S120 : St w F w119 F53 [⟨n59, [(.int .i64 a.kind), (.int .i64 a.sess), (.int .i64 a.n), (.slice xa57 a.data.length xc58)], 50⟩, ⟨nb21, [(.string ⟨r.toArray⟩)], 9⟩, ⟨n14, [(.slice xa3 acc.length xc3)], 43⟩, ⟨n8, [(.int .i64 0)], 25⟩, ⟨n5, [(.int .i64 0)], 3⟩, ⟨n2, [(.slice none 0 0)], 43⟩] (ownP 4 AtC AtC.mono 50 w.heap.size (.slice xa3 acc.length xc3) acc :: [recP (D + 1) (.loop (rec .busy none)), recP D (.deferred (some []))]) := S120
     refine stStore (i := 4) (v := (.int .i64 ((acc.length : Nat) : Int))) S120 rfl rfl rfl rfl (size_3) (allc1 rfl) (Nat.le_of_ble_eq_true rfl) (fun w121 S122 => ?_)
     simp only [pS, pN, pA, pC, pZ]
     have S122 : St w F w121 F53 [⟨n59, [(.int .i64 a.kind), (.int .i64 a.sess), (.int .i64 a.n), (.slice xa57 a.data.length xc58)], 50⟩, ⟨nb21, [(.string ⟨r.toArray⟩)], 9⟩, ⟨n14, [(.slice xa3 acc.length xc3)], 43⟩, ⟨n8, [(.int .i64 0)], 25⟩, ⟨n5, [(.int .i64 ((acc.length : Nat) : Int))], 3⟩, ⟨n2, [(.slice none 0 0)], 43⟩] (ownP 4 AtC AtC.mono 50 w.heap.size (.slice xa3 acc.length xc3) acc :: [recP (D + 1) (.loop (rec .busy none)), recP D (.deferred (some []))]) := S122
     refine stStore (i := 3) (v := (.int .i64 4)) S122 rfl rfl rfl rfl (size_25) (allc1 rfl) (Nat.le_of_ble_eq_true rfl) (fun w123 S124 => ?_)
     simp only [pS, pN, pA, pC, pZ]
     have S124 : St w F w123 F53 [⟨n59, [(.int .i64 a.kind), (.int .i64 a.sess), (.int .i64 a.n), (.slice xa57 a.data.length xc58)], 50⟩, ⟨nb21, [(.string ⟨r.toArray⟩)], 9⟩, ⟨n14, [(.slice xa3 acc.length xc3)], 43⟩, ⟨n8, [(.int .i64 4)], 25⟩, ⟨n5, [(.int .i64 ((acc.length : Nat) : Int))], 3⟩, ⟨n2, [(.slice none 0 0)], 43⟩] (ownP 4 AtC AtC.mono 50 w.heap.size (.slice xa3 acc.length xc3) acc :: [recP (D + 1) (.loop (rec .busy none)), recP D (.deferred (some []))]) := S124
     refine wl_nil (hK117 _ _ ?_)
     refine wpIn_ret ?_
     (try simp only [Exit.then, Exit.inBlock, ↓reduceIte, Nat.reduceEqDiff])
     have S125 := St.drop S124 (L' := [⟨nb21, [(.string ⟨r.toArray⟩)], 9⟩, ⟨n14, [(.slice xa3 acc.length xc3)], 43⟩, ⟨n8, [(.int .i64 4)], 25⟩, ⟨n5, [(.int .i64 ((acc.length : Nat) : Int))], 3⟩, ⟨n2, [(.slice none 0 0)], 43⟩]) (.cons _ (List.Sublist.refl _))
     have S125 : St w F w123 F53 [⟨nb21, [(.string ⟨r.toArray⟩)], 9⟩, ⟨n14, [(.slice xa3 acc.length xc3)], 43⟩, ⟨n8, [(.int .i64 4)], 25⟩, ⟨n5, [(.int .i64 ((acc.length : Nat) : Int))], 3⟩, ⟨n2, [(.slice none 0 0)], 43⟩] (ownP 4 AtC AtC.mono 50 w.heap.size (.slice xa3 acc.length xc3) acc :: [recP (D + 1) (.loop (rec .busy none)), recP D (.deferred (some []))]) := S125
     have S126 := St.turn S125 (i := 1) rfl (.loop (rec .done (some .ret)))
     refine ⟨_, _, rec_end hrec (S125.recd (i := 1) rfl) (some .ret), .inr ⟨rfl, ?_⟩⟩
     refine ⟨_, _, _, _, acc.length, 4, S126, ?_⟩
     rw [hrd]
     unfold readL
     rw [if_neg (by omega), hact, if_neg (fun q => hck q.1)]
    ·simp only [pS, pN, pA, pC, pZ]
     refine stStore (i := 5) (v := (.slice none 0 0)) S118 rfl rfl rfl rfl (size_43) (allc1 rfl) (Nat.le_of_ble_eq_true rfl) (fun w127 S128 => ?_)
     simp only [pS, pN, pA, pC, pZ]
     have S128 : St w F w127 F53 [⟨n59, [(.int .i64 a.kind), (.int .i64 a.sess), (.int .i64 a.n), (.slice xa57 a.data.length xc58)], 50⟩, ⟨nb21, [(.string ⟨r.toArray⟩)], 9⟩, ⟨n14, [(.slice xa3 acc.length xc3)], 43⟩, ⟨n8, [(.int .i64 0)], 25⟩, ⟨n5, [(.int .i64 0)], 3⟩, ⟨n2, [(.slice none 0 0)], 43⟩] (ownP 4 AtC AtC.mono 50 w.heap.size (.slice xa3 acc.length xc3) acc :: [recP (D + 1) (.loop (rec .busy none)), recP D (.deferred (some []))]) := S128
     refine do_ rfl (.int .i64 ((acc.length : Nat) : Int)) (ex_len Tryd.underlying43 rfl) ?_
     simp only [pS, pN, pA, pC, pZ]
     refine stStore (i := 4) (v := (.int .i64 ((acc.length : Nat) : Int))) S128 rfl rfl rfl rfl (size_3) (allc1 rfl) (Nat.le_of_ble_eq_true rfl) (fun w129 S130 => ?_)
     simp only [pS, pN, pA, pC, pZ]
     have S130 : St w F w129 F53 [⟨n59, [(.int .i64 a.kind), (.int .i64 a.sess), (.int .i64 a.n), (.slice xa57 a.data.length xc58)], 50⟩, ⟨nb21, [(.string ⟨r.toArray⟩)], 9⟩, ⟨n14, [(.slice xa3 acc.length xc3)], 43⟩, ⟨n8, [(.int .i64 0)], 25⟩, ⟨n5, [(.int .i64 ((acc.length : Nat) : Int))], 3⟩, ⟨n2, [(.slice none 0 0)], 43⟩] (ownP 4 AtC AtC.mono 50 w.heap.size (.slice xa3 acc.length xc3) acc :: [recP (D + 1) (.loop (rec .busy none)), recP D (.deferred (some []))]) := S130
     refine stStore (i := 3) (v := (.int .i64 4)) S130 rfl rfl rfl rfl (size_25) (allc1 rfl) (Nat.le_of_ble_eq_true rfl) (fun w131 S132 => ?_)
     simp only [pS, pN, pA, pC, pZ]
     have S132 : St w F w131 F53 [⟨n59, [(.int .i64 a.kind), (.int .i64 a.sess), (.int .i64 a.n), (.slice xa57 a.data.length xc58)], 50⟩, ⟨nb21, [(.string ⟨r.toArray⟩)], 9⟩, ⟨n14, [(.slice xa3 acc.length xc3)], 43⟩, ⟨n8, [(.int .i64 4)], 25⟩, ⟨n5, [(.int .i64 ((acc.length : Nat) : Int))], 3⟩, ⟨n2, [(.slice none 0 0)], 43⟩] (ownP 4 AtC AtC.mono 50 w.heap.size (.slice xa3 acc.length xc3) acc :: [recP (D + 1) (.loop (rec .busy none)), recP D (.deferred (some []))]) := S132
     refine wl_nil (hK117 _ _ ?_)
     refine wpIn_ret ?_
     (try simp only [Exit.then, Exit.inBlock, ↓reduceIte, Nat.reduceEqDiff])
     have S133 := St.drop S132 (L' := [⟨nb21, [(.string ⟨r.toArray⟩)], 9⟩, ⟨n14, [(.slice xa3 acc.length xc3)], 43⟩, ⟨n8, [(.int .i64 4)], 25⟩, ⟨n5, [(.int .i64 ((acc.length : Nat) : Int))], 3⟩, ⟨n2, [(.slice none 0 0)], 43⟩]) (.cons _ (List.Sublist.refl _))
     have S133 : St w F w131 F53 [⟨nb21, [(.string ⟨r.toArray⟩)], 9⟩, ⟨n14, [(.slice xa3 acc.length xc3)], 43⟩, ⟨n8, [(.int .i64 4)], 25⟩, ⟨n5, [(.int .i64 ((acc.length : Nat) : Int))], 3⟩, ⟨n2, [(.slice none 0 0)], 43⟩] (ownP 4 AtC AtC.mono 50 w.heap.size (.slice xa3 acc.length xc3) acc :: [recP (D + 1) (.loop (rec .busy none)), recP D (.deferred (some []))]) := S133
     have S134 := St.turn S133 (i := 1) rfl (.loop (rec .done (some .ret)))
     refine ⟨_, _, rec_end hrec (S133.recd (i := 1) rfl) (some .ret), .inr ⟨rfl, ?_⟩⟩
     refine ⟨_, _, _, _, acc.length, 4, S134, ?_⟩
     rw [hrd]
     unfold readL
     rw [if_neg (by omega), hact, if_neg (fun q => hck q.1)]
    ·refine stStore (i := 5) (v := (.slice none 0 0)) S118 rfl rfl rfl rfl (size_43) (allc1 rfl) (Nat.le_of_ble_eq_true rfl) (fun w135 S136 => ?_)
     simp only [pS, pN, pA, pC, pZ]
     have S136 : St w F w135 F53 [⟨n59, [(.int .i64 a.kind), (.int .i64 a.sess), (.int .i64 a.n), (.slice xa57 a.data.length xc58)], 50⟩, ⟨nb21, [(.string ⟨r.toArray⟩)], 9⟩, ⟨n14, [(.slice xa3 acc.length xc3)], 43⟩, ⟨n8, [(.int .i64 0)], 25⟩, ⟨n5, [(.int .i64 0)], 3⟩, ⟨n2, [(.slice none 0 0)], 43⟩] (ownP 4 AtC AtC.mono 50 w.heap.size (.slice xa3 acc.length xc3) acc :: [recP (D + 1) (.loop (rec .busy none)), recP D (.deferred (some []))]) := S136
     refine do_ rfl (.slice xa3 acc.length xc3) (ex_load rfl (load1 (nagg_43 _) (St.cell S136 (i := 2) rfl rfl))) ?_
     simp only [pS, pN, pA, pC, pZ]
     refine do_ rfl (.int .i64 ((acc.length : Nat) : Int)) (ex_len Tryd.underlying43 rfl) ?_
     simp only [pS, pN, pA, pC, pZ]
     refine stStore (i := 4) (v := (.int .i64 ((acc.length : Nat) : Int))) S136 rfl rfl rfl rfl (size_3) (allc1 rfl) (Nat.le_of_ble_eq_true rfl) (fun w137 S138 => ?_)
     simp only [pS, pN, pA, pC, pZ]
     have S138 : St w F w137 F53 [⟨n59, [(.int .i64 a.kind), (.int .i64 a.sess), (.int .i64 a.n), (.slice xa57 a.data.length xc58)], 50⟩, ⟨nb21, [(.string ⟨r.toArray⟩)], 9⟩, ⟨n14, [(.slice xa3 acc.length xc3)], 43⟩, ⟨n8, [(.int .i64 0)], 25⟩, ⟨n5, [(.int .i64 ((acc.length : Nat) : Int))], 3⟩, ⟨n2, [(.slice none 0 0)], 43⟩] (ownP 4 AtC AtC.mono 50 w.heap.size (.slice xa3 acc.length xc3) acc :: [recP (D + 1) (.loop (rec .busy none)), recP D (.deferred (some []))]) := S138
     refine stStore (i := 3) (v := (.int .i64 4)) S138 rfl rfl rfl rfl (size_25) (allc1 rfl) (Nat.le_of_ble_eq_true rfl) (fun w139 S140 => ?_)
     simp only [pS, pN, pA, pC, pZ]
     have S140 : St w F w139 F53 [⟨n59, [(.int .i64 a.kind), (.int .i64 a.sess), (.int .i64 a.n), (.slice xa57 a.data.length xc58)], 50⟩, ⟨nb21, [(.string ⟨r.toArray⟩)], 9⟩, ⟨n14, [(.slice xa3 acc.length xc3)], 43⟩, ⟨n8, [(.int .i64 4)], 25⟩, ⟨n5, [(.int .i64 ((acc.length : Nat) : Int))], 3⟩, ⟨n2, [(.slice none 0 0)], 43⟩] (ownP 4 AtC AtC.mono 50 w.heap.size (.slice xa3 acc.length xc3) acc :: [recP (D + 1) (.loop (rec .busy none)), recP D (.deferred (some []))]) := S140
     refine wl_nil (hK117 _ _ ?_)
     refine wpIn_ret ?_
     (try simp only [Exit.then, Exit.inBlock, ↓reduceIte, Nat.reduceEqDiff])
     have S141 := St.drop S140 (L' := [⟨nb21, [(.string ⟨r.toArray⟩)], 9⟩, ⟨n14, [(.slice xa3 acc.length xc3)], 43⟩, ⟨n8, [(.int .i64 4)], 25⟩, ⟨n5, [(.int .i64 ((acc.length : Nat) : Int))], 3⟩, ⟨n2, [(.slice none 0 0)], 43⟩]) (.cons _ (List.Sublist.refl _))
     have S141 : St w F w139 F53 [⟨nb21, [(.string ⟨r.toArray⟩)], 9⟩, ⟨n14, [(.slice xa3 acc.length xc3)], 43⟩, ⟨n8, [(.int .i64 4)], 25⟩, ⟨n5, [(.int .i64 ((acc.length : Nat) : Int))], 3⟩, ⟨n2, [(.slice none 0 0)], 43⟩] (ownP 4 AtC AtC.mono 50 w.heap.size (.slice xa3 acc.length xc3) acc :: [recP (D + 1) (.loop (rec .busy none)), recP D (.deferred (some []))]) := S141
     have S142 := St.turn S141 (i := 1) rfl (.loop (rec .done (some .ret)))
     refine ⟨_, _, rec_end hrec (S141.recd (i := 1) rfl) (some .ret), .inr ⟨rfl, ?_⟩⟩
     refine ⟨_, _, _, _, acc.length, 4, S142, ?_⟩
     rw [hrd]
     unfold readL
     rw [if_neg (by omega), hact, if_neg (fun q => hck q.1)]
 case fin =>
  rintro e W4 ⟨v4, rfl, hJ | hX⟩
  ·obtain ⟨F5, acc, v, S5, hok, hal, -, hrd⟩ := hJ
   refine ⟨_, _, rec_loop hrec (S5.recd (i := 1) rfl) (by decide), ?_⟩
   have S6 := St.turn S5 (i := 1) rfl (.loop (rec .exhausted none))
   revert S6
   generalize (World.putObj W4 (D + 1) (.loop (rec .exhausted none))) = W6
   intro S6
   obtain ⟨xa3, xc3, rfl, hac, _⟩ := (S6.own (i := 0) rfl).shape
   have S6 : St w F W6 F5 [⟨nb21, [(.string ⟨([] : By).toArray⟩)], 9⟩, ⟨n14, [(.slice xa3 acc.length xc3)], 43⟩, ⟨n8, [(.int .i64 0)], 25⟩, ⟨n5, [(.int .i64 0)], 3⟩, ⟨n2, [(.slice none 0 0)], 43⟩] (ownP 4 AtC AtC.mono 50 w.heap.size (.slice xa3 acc.length xc3) acc :: [recP (D + 1) (.loop (rec .exhausted none)), recP D (.deferred (some []))]) := S6
   (try simp only [Exit.then, Exit.inBlock, ↓reduceIte, Nat.reduceEqDiff])
   refine hK17 _ _ ?_
   refine wp_seq_k (fun K143 hK143 => region_wl ?_)
   refine do_ rfl (.slice xa3 acc.length xc3) (ex_load rfl (load1 (nagg_43 _) (St.cell S6 (i := 1) rfl rfl))) ?_
   simp only [pS, pN, pA, pC, pZ]
   refine stStore (i := 4) (v := (.slice xa3 acc.length xc3)) S6 rfl rfl rfl rfl (size_43) (allc1 rfl) (Nat.le_of_ble_eq_true rfl) (fun w144 S145 => ?_)
   simp only [pS, pN, pA, pC, pZ]
   have S145 : St w F w144 F5 [⟨nb21, [(.string ⟨([] : By).toArray⟩)], 9⟩, ⟨n14, [(.slice xa3 acc.length xc3)], 43⟩, ⟨n8, [(.int .i64 0)], 25⟩, ⟨n5, [(.int .i64 0)], 3⟩, ⟨n2, [(.slice xa3 acc.length xc3)], 43⟩] (ownP 4 AtC AtC.mono 50 w.heap.size (.slice xa3 acc.length xc3) acc :: [recP (D + 1) (.loop (rec .exhausted none)), recP D (.deferred (some []))]) := S145
   refine stStore (i := 3) (v := (.int .i64 0)) S145 rfl rfl rfl rfl (size_3) (allc1 rfl) (Nat.le_of_ble_eq_true rfl) (fun w146 S147 => ?_)
   simp only [pS, pN, pA, pC, pZ]
   have S147 : St w F w146 F5 [⟨nb21, [(.string ⟨([] : By).toArray⟩)], 9⟩, ⟨n14, [(.slice xa3 acc.length xc3)], 43⟩, ⟨n8, [(.int .i64 0)], 25⟩, ⟨n5, [(.int .i64 0)], 3⟩, ⟨n2, [(.slice xa3 acc.length xc3)], 43⟩] (ownP 4 AtC AtC.mono 50 w.heap.size (.slice xa3 acc.length xc3) acc :: [recP (D + 1) (.loop (rec .exhausted none)), recP D (.deferred (some []))]) := S147
   refine stStore (i := 2) (v := (.int .i64 0)) S147 rfl rfl rfl rfl (size_25) (allc1 rfl) (Nat.le_of_ble_eq_true rfl) (fun w148 S149 => ?_)
   simp only [pS, pN, pA, pC, pZ]
   have S149 : St w F w148 F5 [⟨nb21, [(.string ⟨([] : By).toArray⟩)], 9⟩, ⟨n14, [(.slice xa3 acc.length xc3)], 43⟩, ⟨n8, [(.int .i64 0)], 25⟩, ⟨n5, [(.int .i64 0)], 3⟩, ⟨n2, [(.slice xa3 acc.length xc3)], 43⟩] (ownP 4 AtC AtC.mono 50 w.heap.size (.slice xa3 acc.length xc3) acc :: [recP (D + 1) (.loop (rec .exhausted none)), recP D (.deferred (some []))]) := S149
   refine wl_nil (hK143 _ _ ?_)
   refine wp_ret ?_
   (try simp only [Exit.then, Exit.inBlock, ↓reduceIte, Nat.reduceEqDiff])
   have S8 := St.turn S149 (i := 2) rfl (.deferred none)
   refine ⟨by simp, .inl ⟨_, _, rfl, run_takeDeferred (S149.recd (i := 2) rfl), ?_⟩⟩
   refine ⟨_, res_ccc rfl ⟨_, rfl, load1 (nagg_43 _) (St.cell S8 (i := 4) rfl rfl)⟩ ⟨_, rfl, load1 (nagg_3 _) (St.cell S8 (i := 3) rfl rfl)⟩ ⟨_, rfl, load1 (nagg_25 _) (St.cell S8 (i := 2) rfl rfl)⟩, ?_⟩
   obtain ⟨F9, S9, le9, hv9⟩ := St.freeze S8 (i := 0) rfl (Nat.le_refl _)
   refine ⟨_, _, rfl, S9.gr, acc, 0, 0, _, rfl, ?_, hv9⟩
   unfold readT
   rw [if_neg (by omega), hrd]
   rfl
  ·obtain ⟨F5, v1, v5, M0, i, e, S5, hrd⟩ := hX
   refine ⟨_, _, rec_loop hrec (S5.recd (i := 1) rfl) (by decide), ?_⟩
   have S6 := St.turn S5 (i := 1) rfl (.loop (rec .exhausted (some .ret)))
   revert S6
   generalize (World.putObj W4 (D + 1) (.loop (rec .exhausted (some .ret)))) = W6
   intro S6
   simp only
   refine (wpIn_wide (n := 3)).2 (wp_ret ?_)
   (try simp only [Exit.then, Exit.inBlock, ↓reduceIte, Nat.reduceEqDiff])
   have S8 := St.turn S6 (i := 2) rfl (.deferred none)
   refine ⟨by simp, .inl ⟨_, _, rfl, run_takeDeferred (S6.recd (i := 2) rfl), ?_⟩⟩
   refine ⟨_, res_ccc rfl ⟨_, rfl, load1 (nagg_43 _) (St.cell S8 (i := 4) rfl rfl)⟩ ⟨_, rfl, load1 (nagg_3 _) (St.cell S8 (i := 3) rfl rfl)⟩ ⟨_, rfl, load1 (nagg_25 _) (St.cell S8 (i := 2) rfl rfl)⟩, ?_⟩
   refine ⟨_, _, rfl, S8.gr, [], i, e, _, rfl, ?_, Sl.nil _ _ _⟩
   unfold readT
   rw [if_neg (by omega), hrd]
set_option maxHeartbeats 8000000 in
theorem readLong_spec (F : Fz) (w : World) (t : By) (hs : Sat w F) (hl : 2000000 < t.length) :
    Calls Tryd.prog 15 #[strV t] w (Gives w F fun F' u => ∃ zs i e sv, u = .tuple #[sv, .int .i64 ((i : Nat) : Int), .int .i64 e] ∧ readT t = (zs, i, e) ∧ Ats F' sv zs) := by
 have S := St.start hs
 go_enter Tryd.func15, Tryd.ntmps15
 refine wp_seq_k (fun K1 hK1 => region_wl ?_)
 refine stNew S (v := fun n => .pointer (some ⟨n, 0, none⟩)) rfl (ex_alloc (zero_43 _)) (fun n2 w3 S4 => ?_)
 simp only [pS, pN, pA, pC, pZ]
 have S4 : St w F w3 F [⟨n2, [(.slice none 0 0)], 43⟩] [] := S4
 refine stNew S4 (v := fun n => .pointer (some ⟨n, 0, none⟩)) rfl (ex_alloc (zero_3 _)) (fun n5 w6 S7 => ?_)
 simp only [pS, pN, pA, pC, pZ]
 have S7 : St w F w6 F [⟨n5, [(.int .i64 0)], 3⟩, ⟨n2, [(.slice none 0 0)], 43⟩] [] := S7
 refine stNew S7 (v := fun n => .pointer (some ⟨n, 0, none⟩)) rfl (ex_alloc (zero_25 _)) (fun n8 w9 S10 => ?_)
 simp only [pS, pN, pA, pC, pZ]
 have S10 : St w F w9 F [⟨n8, [(.int .i64 0)], 25⟩, ⟨n5, [(.int .i64 0)], 3⟩, ⟨n2, [(.slice none 0 0)], 43⟩] [] := S10
 refine wl_nil (hK1 _ _ ?_)
 refine wp_seq_k (fun K11 hK11 => ?_)
 refine wp_seq_k (fun K12 hK12 => region_wl ?_)
 refine do_ rfl (.string ⟨t.toArray⟩) (ex_move _) ?_
 simp only [pS, pN, pA, pC, pZ]
 refine do_ rfl (.int .i64 ((t.length : Nat) : Int)) (ex_lenStr Tryd.underlying9 rfl) ?_
 simp only [pS, pN, pA, pC, pZ]
 refine do_ rfl (.bool true) (ex_gtr (m := ((t.length : Nat) : Int)) (n := (2000000 : Int)) (b := true) rfl rfl (decide_eq_true (by omega))) ?_
 simp only [pS, pN, pA, pC, pZ]
 refine wl_nil (hK12 _ _ ?_)
 refine wp_cond_true rfl ?_
 refine wp_seq_k (fun K13 hK13 => region_wl ?_)
 refine stStore (i := 2) (v := (.slice none 0 0)) S10 rfl rfl rfl rfl (size_43) (allc1 rfl) (Nat.le_of_ble_eq_true rfl) (fun w14 S15 => ?_)
 simp only [pS, pN, pA, pC, pZ]
 have S15 : St w F w14 F [⟨n8, [(.int .i64 0)], 25⟩, ⟨n5, [(.int .i64 0)], 3⟩, ⟨n2, [(.slice none 0 0)], 43⟩] [] := S15
 refine stStore (i := 1) (v := (.int .i64 0)) S15 rfl rfl rfl rfl (size_3) (allc1 rfl) (Nat.le_of_ble_eq_true rfl) (fun w16 S17 => ?_)
 simp only [pS, pN, pA, pC, pZ]
 have S17 : St w F w16 F [⟨n8, [(.int .i64 0)], 25⟩, ⟨n5, [(.int .i64 0)], 3⟩, ⟨n2, [(.slice none 0 0)], 43⟩] [] := S17
 refine stStore (i := 0) (v := (.int .i64 1)) S17 rfl rfl rfl rfl (size_25) (allc1 rfl) (Nat.le_of_ble_eq_true rfl) (fun w18 S19 => ?_)
 simp only [pS, pN, pA, pC, pZ]
 have S19 : St w F w18 F [⟨n8, [(.int .i64 1)], 25⟩, ⟨n5, [(.int .i64 0)], 3⟩, ⟨n2, [(.slice none 0 0)], 43⟩] [] := S19
 refine wl_nil (hK13 _ _ ?_)
 refine wp_ret ?_
 (try simp only [Exit.then, Exit.inBlock, ↓reduceIte, Nat.reduceEqDiff])
 refine bodyPost_ret (v := .tuple #[.slice none 0 0, .int .i64 0, .int .i64 1]) ?_ rfl ?_
 ·exact res_ccc rfl ⟨_, rfl, load1 (nagg_43 _) (St.cell S19 (i := 2) rfl rfl)⟩ ⟨_, rfl, load1 (nagg_3 _) (St.cell S19 (i := 1) rfl rfl)⟩ ⟨_, rfl, load1 (nagg_25 _) (St.cell S19 (i := 0) rfl rfl)⟩
 ·refine ⟨_, _, rfl, S19.gr, [], 0, 1, _, rfl, ?_, Sl.nil _ _ _⟩
  unfold readT
  rw [if_pos (by omega)]
theorem read_spec (W : World) (hT : Laid W) (hW : WordsL W) (F : Fz) (hF : Le (whole W) F) (w : World) (t : By) (hs : Sat w F) :
    Calls Tryd.prog 15 #[strV t] w (Gives w F fun F' u => ∃ zs i e sv, u = .tuple #[sv, .int .i64 ((i : Nat) : Int), .int .i64 e] ∧ readT t = (zs, i, e) ∧ Ats F' sv zs) := by
  by_cases hl : t.length ≤ 2000000
  · exact readIn_spec W hT hW F hF w t hs hl
  · exact readLong_spec F w t hs (by omega)
end Go.Proofs.YtajmjolgphadoaaDoor
namespace Go.Proofs.YtajmjolgphadoaaDoor
open Go.RowKit
set_option linter.unusedVariables false
set_option linter.unusedSimpArgs false
set_option maxRecDepth 100000
theorem read_ok {t : By} {zs : List At} {i : Nat} (h : readT t = (zs, i, 0)) : i = 0 ∧ (∀ a ∈ zs, checkA a = 0) ∧ zs.length ≤ 100000 ∧ flatA zs = t ∧ t.length ≤ 2000000 := by
  unfold readT at h
  split at h
  · simp at h
  · obtain ⟨h1, h2, h3, h4⟩ := readL_ok (by simp) (by simp) h
    rw [lines_flat] at h4
    exact ⟨h1, h2, h3, h4, by omega⟩
theorem hexs_len : ∀ l : By, (l.flatMap hexB).length = 2 * l.length
  | [] => rfl
  | c :: l => by
    rw [List.flatMap_cons, List.length_append, hexs_len l, List.length_cons]
    unfold hexB
    simp only [List.length_cons, List.length_nil]
    omega
theorem line_len {a : At} (h : checkA a = 0) (hd : a.data.length ≤ 80) : (lineL a).length ≤ 200 := by
  obtain ⟨k, u, n, e, h1, h2, h3, h4⟩ := at_nat h
  rw [e]
  unfold lineL
  simp only
  have w1 := word_len k (by omega)
  have w2 := itoa_len u h2
  have w3 := itoa_len n h3
  have w4 := hexs_len a.data
  split
  · simp only [List.length_append, List.length_cons, List.length_nil]; omega
  · split
    · simp only [List.length_append, List.length_cons, List.length_nil]; omega
    · simp only [List.length_append, List.length_cons, List.length_nil]; omega
theorem flat_len : ∀ {zs : List At}, (∀ z ∈ zs, checkA z = 0 ∧ z.data.length ≤ 80) → (flatA zs).length ≤ 200 * zs.length
  | [], _ => by simp [flatA]
  | z :: zs, h => by
    have h1 := line_len (h z (List.mem_cons_self ..)).1 (h z (List.mem_cons_self ..)).2
    have h2 := flat_len (zs := zs) fun y hy => h y (List.mem_cons_of_mem _ hy)
    show (lineL z ++ flatA zs).length ≤ _
    rw [List.length_append, List.length_cons]
    omega
theorem show_back {zs : List At} (h : ∀ z ∈ zs, checkA z = 0 ∧ z.data.length ≤ 80) (hl : zs.length ≤ 1000) : readT (flatA zs) = (zs, 0, 0) := by
  have := flat_len h
  exact show_read (fun a ha => (h a ha).1) (by omega) (by omega)
end Go.Proofs.YtajmjolgphadoaaDoor
namespace Go.Proofs.YtajmjolgphadoaaDoor
open Go.ChangeShapes Go.WideShapes Go.ChangeAt Go.RowKit Go.Deep
set_option maxRecDepth 100000
set_option linter.unusedVariables false
set_option linter.unusedSimpArgs false
section
variable {H : Type} {enc : TypeId × Value → H} {P : Program} {w : World}
/-- An array of strings that reads as these holds these. -/
theorem cells_of_strs {fuel n : Nat} {t e : TypeId} {base : Nat} {sp : Nat → Bool} {held : Bool} {cs : List Value} {ss : List By} {p : List MemPlace} (ht : P.underlying t = some (.array n e)) (he : P.underlying e = some .string) (hce : P.cellsOf e = 1) (hct : P.cellsOf t = n)
    (h : DataW.trod enc P w base sp held fuel t cs = some (.agg (ss.map fun s => .lit (.string s)), p)) (i : Nat) (hi : i < n) : cs[i]? = (ss[i]?).map strV := by
  cases fuel with
  | zero => simp [DataW.trod] at h
  | succ fuel =>
    simp only [DataW.trod, ht, hce, hct, Nat.mul_one] at h
    split at h
    · obtain ⟨xs, hm, hx⟩ := Option.map_eq_some_iff.1 h
      have hxs : xs.map (·.1) = ss.map fun s => (DataW.lit (.string s) : DataW H) := by
        have := congrArg Prod.fst hx
        simpa using this
      obtain ⟨b, hb, hf⟩ := Lib.mapM_at hm i i (by simp [hi])
      obtain ⟨s, hc, rfl, _⟩ := DataW.trod_string he hf
      have h1 : cs[i]? = some (.string s) := by
        have := congrArg (·[0]?) hc
        simpa [List.getElem?_take, List.getElem?_drop] using this
      have h2 : (xs.map (·.1))[i]? = some (DataW.lit (.string s.data.toList) : DataW H) := by simp [hb]
      rw [hxs] at h2
      simp only [List.getElem?_map, Option.map_eq_some_iff, DataW.lit.injEq, Lit.string.injEq] at h2
      obtain ⟨z, hz, hzs⟩ := h2
      rw [h1, hz, hzs]
      rfl
    · cases h
theorem iface_of {fuel : Nat} {t : TypeId} {base : Nat} {sp : Nat → Bool} {held : Bool} {cs : List Value} {nm : String} {d : DataW H} {p : List MemPlace} {ms : Array (String × TypeId)} (ht : P.underlying t = some (.interface ms))
    (h : DataW.trod enc P w base sp held fuel t cs = some (.iface nm d, p)) : ∃ u v, cs = [.iface u v] := by
  cases fuel with
  | zero => simp [DataW.trod] at h
  | succ fuel =>
    unfold DataW.trod at h
    rw [ht] at h
    split at h <;> simp_all
def FtB (g : Ft) : Prop := (-9223372036854775808 ≤ g.kind ∧ g.kind ≤ 9223372036854775807) ∧ (-9223372036854775808 ≤ g.a ∧ g.a ≤ 9223372036854775807)
theorem AllR.snd {α : Type} {R : List Value → α → Prop} {B : α → Prop} : ∀ {xs : List (List Value)} {ps : List α}, AllR (fun c p => R c p ∧ B p) xs ps → ∀ p ∈ ps, B p
  | [], [], _, p, hp => by cases hp
  | [], _ :: _, h, _, _ => h.elim
  | _ :: _, [], h, _, _ => h.elim
  | x :: xs, q :: ps, h, p, hp => by
    rcases List.mem_cons.1 hp with rfl | hp
    · exact h.1.2
    · exact AllR.snd h.2 p hp
theorem list3 {α : Type} {cs : List α} (h : cs.length = 3) : ∃ a b c, cs = [a, b, c] := by
  match cs, h with
  | [a, b, c], _ => exact ⟨a, b, c, rfl⟩
theorem rd_feats {t e it tb u8 : TypeId} {f0 f1 f2 : Field} {fuel : Nat} {v : Value} {x : DataW H × List MemPlace} (ht : P.underlying t = some (.slice e)) (hs : P.underlying e = some (.struct #[f0, f1, f2])) (hone : oneCellFields P #[f0, f1, f2] = true) (hC : P.cellsOf e = 3)
    (e0 : f0.type = it) (e1 : f1.type = it) (e2 : f2.type = tb) (hi : P.underlying it = some (.int .i64)) (hb : P.underlying tb = some (.slice u8)) (hu : P.underlying u8 = some (.int .u8)) (hc : P.cellsOf u8 = 1)
    (h : DataW.trod enc P w 0 (fun _ => true) true fuel t [v] = some x) : ∃ l : List Ft, Fts (whole w) v l ∧ ∀ g ∈ l, FtB g := by
  obtain ⟨l, el, q1, q2, q3⟩ := rd_slice (α := Ft) (k := 3) (R := fun F c p => FtC F c p ∧ FtB p) ht hC (by omega) h (fun n cs y hl hy => by
    obtain ⟨c0, c1, c2, rfl⟩ := list3 hl
    obtain ⟨xs, m, _, _, _, hlen, hf⟩ := DataW.trod_struct hs hy
    obtain ⟨o0, k0⟩ := hone_of hone 0 f0 rfl
    obtain ⟨o1, k1⟩ := hone_of hone 1 f1 rfl
    obtain ⟨o2, k2⟩ := hone_of hone 2 f2 rfl
    match xs, hlen with
    | [y0, y1, y2], _ =>
      have h0 := hf 0 f0 rfl
      have h1 := hf 1 f1 rfl
      have h2 := hf 2 f2 rfl
      rw [o0, k0] at h0
      rw [o1, k1] at h1
      rw [o2, k2] at h2
      simp only [List.drop_zero, List.drop_succ_cons, List.take_succ_cons, List.take_zero] at h0 h1 h2
      rw [e0] at h0
      rw [e1] at h1
      rw [e2] at h2
      obtain ⟨z0, hz0, _, w0⟩ := DataW.trod_int hi h0
      obtain ⟨z1, hz1, _, w1⟩ := DataW.trod_int hi h1
      have b0 := bounds_i64 w0
      have b1 := bounds_i64 w1
      obtain ⟨l2, r2⟩ := rd_bytes_cells hb hu hc h2
      obtain rfl : c0 = .int .i64 z0 := by simpa using hz0
      obtain rfl : c1 = .int .i64 z1 := by simpa using hz1
      exact ⟨⟨z0, z1, l2⟩, ⟨_, _, c2, rfl, rfl, rfl, r2⟩, ⟨by simp only; omega, by simp only; omega⟩, ⟨by simp only; omega, by simp only; omega⟩⟩)
  exact ⟨l, ⟨el, q1, q2.imp fun _ _ h => h.1, q3⟩, AllR.snd q2⟩
end
theorem gPow : Tryd.prog.globalNamed "internal/strconv.uint64pow10" = some 7 := by kernel_rfl
theorem gPowType : (Tryd.prog.globals[(7 : Nat)]?).map (·.type) = some 210 := by kernel_rfl
theorem gPowCells : Tryd.prog.cellsOf 210 = 20 := by kernel_rfl
theorem gU64Cells : Tryd.prog.cellsOf 157 = 1 := by kernel_rfl
theorem gWords : Tryd.prog.globalNamed "canopy/lines.words" = some 0 := by kernel_rfl
theorem gWordsType : (Tryd.prog.globals[(0 : Nat)]?).map (·.type) = some 105 := by kernel_rfl
theorem gWordsCells : Tryd.prog.cellsOf 105 = 5 := by kernel_rfl
theorem gStrCells : Tryd.prog.cellsOf 9 = 1 := by kernel_rfl
theorem gSyn : Tryd.prog.globalNamed "strconv.ErrSyntax" = some 2 := by kernel_rfl
theorem gSynType : (Tryd.prog.globals[(2 : Nat)]?).map (·.type) = some 72 := by kernel_rfl
theorem gRan : Tryd.prog.globalNamed "strconv.ErrRange" = some 3 := by kernel_rfl
theorem gRanType : (Tryd.prog.globals[(3 : Nat)]?).map (·.type) = some 72 := by kernel_rfl
theorem err_at {W : World} {l : List (String × DataW Unit)} (h : laidMet Tryd.prog l W) (i : Nat) {nm s : String} {d : DataW Unit} {g : Nat} (hi : l[i]? = some (nm, .iface s d)) (hg : Tryd.prog.globalNamed nm = some g) (ht : (Tryd.prog.globals[(g : Nat)]?).map (·.type) = some 72) :
    ∃ ev, W.cell? ⟨g, 0, none⟩ = some ev ∧ (ev = .nilIface ∨ ∃ te pe, ev = .iface te pe) := by
  obtain ⟨ps, hv, _, _⟩ := h
  obtain ⟨g', t', cs, fuel, p, hg', ht', hvar, hd⟩ := laidVars_at hv i nm _ hi
  obtain rfl := Option.some.inj (hg.symm.trans hg')
  obtain rfl := Option.some.inj (ht.symm.trans ht')
  obtain ⟨u, v, hc⟩ := iface_of Tryd.underlying72 hd
  have := World.var?_cell hg hvar 0
  refine ⟨.iface u v, this.trans ?_, .inr ⟨u, v, rfl⟩⟩
  have e : cs = #[.iface u v] := by rw [← Array.toList_inj]; exact hc
  rw [e]
  rfl
theorem words_at {W : World} {l : List (String × DataW Unit)} (h : laidMet Tryd.prog l W) (i : Nat) (hi : l[i]? = some ("canopy/lines.words", .agg (words.map fun s => .lit (.string s)))) : WordsL W := by
  obtain ⟨ps, hv, _, _⟩ := h
  obtain ⟨g', t', cs, fuel, p, hg', ht', hvar, hd⟩ := laidVars_at hv i _ _ hi
  obtain rfl := Option.some.inj (gWords.symm.trans hg')
  obtain rfl := Option.some.inj (gWordsType.symm.trans ht')
  intro j hj
  have h1 := cells_of_strs Tryd.underlying105 Tryd.underlying9 gStrCells gWordsCells hd j hj
  have h2 := World.var?_cell gWords hvar j
  rw [h2]
  have h3 : cs[j]? = (words[j]?).map strV := by rw [← h1]; simp
  rw [h3]
  match j, hj with
  | 0, _ => rfl
  | 1, _ => rfl
  | 2, _ => rfl
  | 3, _ => rfl
  | 4, _ => rfl
theorem lin_met {W : World} (h : laidMetH Tryd.prog Rows.linesBackRow.laid W) (hsh : W.ShapedOpen Tryd.prog) : Laid W ∧ WordsL W := by
  have h' : laidMet Tryd.prog Rows.linesBackRow.laid W := h
  refine ⟨⟨?_, ?_, ?_, ?_⟩, words_at h' 6 rfl⟩
  · exact tabIs_at h' 2 _ _ Lib.pow10Tab rfl gPow gPowType Tryd.underlying210 Tryd.underlying157 gU64Cells gPowCells
  · exact cell_of_shapedOpen_int (t := 3) (zero := #[.int .i64 0]) hsh (by decide +kernel) (by kernel_rfl) rfl (by kernel_rfl) (by kernel_rfl) Tryd.underlying3
  · exact err_at h' 5 rfl gSyn gSynType
  · exact err_at h' 4 rfl gRan gRanType
noncomputable def linWorld (os : Os) : World := World.laidAll Tryd.prog os Rows.linesBackRow.laid
theorem lin_fits (os : Os) : (World.holding Tryd.prog os ⟨#[], #[], []⟩).layFits Tryd.prog Rows.linesBackRow.laid [] = true := by kernel_rfl
theorem lin_ifaces (os : Os) : (World.holding Tryd.prog os ⟨#[], #[], []⟩).layIfaces Tryd.prog Rows.linesBackRow.laid (World.laidAll Tryd.prog os Rows.linesBackRow.laid) = true := by kernel_rfl
theorem lin_laid (os : Os) (args : Array Value) : laidMet Tryd.prog Rows.linesBackRow.laid ((linWorld os).forCall (fun _ _ => 0) ⟨#[], args, []⟩).memory := laidMet_laidAll args (lin_fits os) (lin_ifaces os)
end Go.Proofs.YtajmjolgphadoaaDoor
