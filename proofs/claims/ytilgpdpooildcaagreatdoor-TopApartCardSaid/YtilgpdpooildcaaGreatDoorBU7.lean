/- Rules, plain laws and walks: X6 H1 TP1 TP2 TP3 TP4 T0 D1 DG1 DG2 DG3 -/
import Derived.Test.YtilgpdpooildcaaGreatDoorBU6
import Derived.Test.YtilgpdpooildcaaGreatDoorBU2
import Derived.Test.YtilgpdpooildcaaGreatDoorBU5
import Derived.Test.YtilgpdpooildcaaGreatDoorBU1
import Derived.Test.YtilgpdpooildcaaGreatDoorCards
import Derived.Test.YtilgpdpooildcaaGreatDoorTie
import Derived.WalkKit
import Derived.ProofKit
import Derived.OpenShut
import Derived.Deep.DeepHandedRow
import Derived.Lib.LaidTab
import Derived.Lib.SmallJoins
import Derived.Deep.QuietTactic
import Derived.BigQuiet
import Derived.Test.YtilgpdpooildcaaGreatDoorBU3
import Derived.StillTailTactics
import Derived.Deep.MidRow
namespace Go.Proofs.YtilgpdpooildcaaGreatDoor
set_option maxHeartbeats 8000000
open Go.RowKit
set_option maxRecDepth 100000
set_option linter.unusedVariables false
set_option linter.unusedSimpArgs false
def LookR (o : Option By) (b : Bool) (e : Int) (F : Fz) (u : Value) : Prop := ∃ x, u = .tuple #[x, .bool b, .int .i64 e] ∧ FndV F x o
def FdV (F : Fz) (u : Value) (b : Bool) (l : By) : Prop := ∃ a c, u = .agg #[.bool b, .slice a l.length c] ∧ Bs F (.slice a l.length c) l
theorem FdV.dropF {w : World} {F : Fz} {n : Nat} {cs : List Value} {T : TypeId} (hs : Sat w F) (hb : w.heap[n]? = some (.cells cs.toArray T (0, 0))) (hc : ∀ u ∈ cs, ∀ x, u ≠ bv x) {v : Value} {b : Bool} {l : By} (h : FdV F v b l) : FdV (Proofs.YtilgpdpooildcaaGreatDoor.dropF F n) v b l := by
 obtain ⟨a, c, rfl, h1⟩ := h
 exact ⟨a, c, rfl, h1.dropF hs hb hc⟩
theorem FdV.fnd {F : Fz} {u : Value} {p : Wr} (h : FdV F u (!p.gone) p.value) (hp : WrOk p) : FndV F u (if p.gone then none else some p.value) := by
 obtain ⟨a, c, rfl, h1⟩ := h
 cases hg : p.gone with
 | true =>
  have := hp.gone hg
  rw [this] at h1
  refine ⟨a, c, by rw [this]; rfl, h1⟩
 | false => exact ⟨a, c, rfl, h1⟩
theorem find_hit {α : Type} {l : List α} {g : α → Bool} {k : Nat} {p : α} (hp : l[k]? = some p) (h : (l.take k).any g = false) (hg : g p = true) : l.find? g = some p := by
 obtain ⟨hk, rfl⟩ := List.getElem?_eq_some_iff.1 hp
 rw [List.find?_eq_some_iff_getElem]
 exact ⟨hg, k, hk, rfl, fun j hj => by rw [any_take.1 h j _ hj (List.getElem?_eq_getElem (by omega))]; rfl⟩
theorem find_no {α : Type} {l : List α} {g : α → Bool} (h : l.any g = false) : l.find? g = none := by
 rw [List.find?_eq_none]
 intro x hx
 have := List.any_eq_false.1 h x hx
 simpa using this
theorem look_spec (F : Fz) (w : World) (u v y z : Value) (l : Forest) (t : Tx) (n k : By) (hs : Sat w F) (hl : Tns F u l) (hv : TxV F v t) (hn : Bs F y n) (hk : Bs F z k) (hf : ForestOk 60 l) (ht : TxOk t) (hnn : 1 ≤ n.length ∧ n.length ≤ 8) (hkk : 1 ≤ k.length ∧ k.length ≤ 16) :
    Calls Tryz.prog 89 #[u, v, y, z] w (Gives w F (LookR (lookX l t n k).1 (lookX l t n k).2 0)) := by
 obtain ⟨a, c, rfl, hc1, hc2⟩ := Sl.shape hl
 unfold maxLen at hc2
 obtain ⟨x0, y0, x1, y1, rfl, h0, h1⟩ := hv
 obtain ⟨_, _, e0, q0, q1⟩ := Sl.shape h0
 obtain ⟨_, _, e1, q2, q3⟩ := Sl.shape h1
 injection e0 with _ _ e0
 injection e1 with _ _ e1
 subst e0 e1
 unfold maxLen at q1 q3
 obtain ⟨a2, c2, rfl, _⟩ := hn.shape
 obtain ⟨a3, c3, rfl, _⟩ := hk.shape
 have hb0 := bothE_ok.2 ⟨hf, ht⟩
 have hbw := fun r hr => (ht.writes r hr).small
 have S := St.start hs
 go_enter Tryz.func89, Tryz.ntmps89
 refine sk fun K1 hK1 => ?_
 refine stNew S (v := fun n => .pointer (aA n 0)) rfl (ex_box (v := (.agg #[(.int .i64 t.start), (.slice x0 t.reads.length y0), (.slice x1 t.writes.length y1)])) rfl) (fun n2 w3 S4 => ?_)
 refine sA S4 (zero_72 _) fun n5 w6 S7 => ?_
 iterate 2 refine dy ?_
 simp only [pq]
 refine wn hK1 ?_
 refine wp_seq_k (fun K8 hK8 => ?_)
 refine sk fun K9 hK9 => ?_
 refine dx ?_
 refine dR S7 1 Tryz.underlying141 (size_141) ?_
 refine stTells (v := (.int .i64 (bothE l t))) S7 rfl (fn2 (ent_103 _ _)) (both_spec _ _ _ _ l t (S7).sat hl ⟨_, _, _, _, rfl, h0, h1⟩ hbw) (fun w10 S11 => ?_)
 refine dy ?_
 simp only [pq]
 refine wn hK9 ?_
 refine sk fun K12 hK12 => ?_
 refine dx ?_
 refine dr bF (ex_neq (m := (bothE l t)) (n := (0 : Int)) (b := false) rfl rfl (bne_eq_false_iff_eq.2 (hb0))) ?_
 refine wn hK12 ?_
 refine wp_cond_false rfl ?_
 refine wp_skip ?_
 refine hK8 _ _ ?_
 refine sk fun K13 hK13 => ?_
 iterate 3 refine dx ?_
 simp only [pq]
 refine stGives S11 rfl (fn3 (ent_29 _ _)) (getF_spec _ _ _ _ _ l n k (S11).sat hl hn hk hf hnn hkk) ?_
 intro v19 w14 F16 S15 le17 R18
 obtain ⟨_, rfl, a20, c21, rfl, r22⟩ := R18
 have r22 : Bs _ (.slice a20 ((getF l n k).getD []).length c21) ((getF l n k).getD []) := r22
 refine dx ?_
 iterate 2 refine de ?_
 simp only [pq]
 refine sA S15 (zero_72 _) fun n23 w24 S25 => ?_
 refine sW 0 S25 (size_72) fun w26 S27 => ?_
 refine dy ?_
 simp only [pq]
 refine wn hK13 ?_
 refine wp_seq_k (fun K28 hK28 => ?_)
 refine sk fun K29 hK29 => ?_
 refine dx ?_
 refine dr bF (ex_neq (b := false) rfl rfl (by decide)) ?_
 refine wn hK29 ?_
 refine wp_cond_false rfl ?_
 refine wp_skip ?_
 refine hK28 _ _ ?_
 refine wp_seq_k (fun K30 hK30 => ?_)
 refine sk fun K31 hK31 => ?_
 refine df (fa_141_2 _ _) ?_
 refine dl (nagg_40 _) S27 2 ?_
 refine dn Tryz.underlying40 ?_
 simp only [pq]
 refine dx ?_
 refine wn hK31 ?_
 refine wp_block ?_
 refine wp_loop_g (fun mm aa w34 => ∃ (i : Nat) (F32 : Fz) (u33 : Nat → Value), mm = t.writes.length - i ∧ u33 = slots aa ∧ aa = ⟨#[(.slice a l.length c), (.agg #[(.int .i64 t.start), (.slice x0 t.reads.length y0), (.slice x1 t.writes.length y1)]), (.slice a2 n.length c2), (.slice a3 k.length c3), undef, (pP n2 0), undef, undef, (pP n5 0), (u33 9), (u33 10), (.int .i64 (bothE l t)), (pP n23 0), (iI 0), undef, (u33 15), (.slice a l.length c), (.agg #[(.int .i64 t.start), (.slice x0 t.reads.length y0), (.slice x1 t.writes.length y1)]), (.int .i64 (bothE l t)), (.int .i64 (bothE l t)), bF, undef, undef, (.tuple #[(.agg #[(.bool (getF l n k).isSome), (.slice a20 ((getF l n k).getD []).length c21)]), (iI 0)]), (.slice a l.length c), (.slice a2 n.length c2), (.slice a3 k.length c3), (.tuple #[(.agg #[(.bool (getF l n k).isSome), (.slice a20 ((getF l n k).getD []).length c21)]), (iI 0)]), (.agg #[(.bool (getF l n k).isSome), (.slice a20 ((getF l n k).getD []).length c21)]), (iI 0), (iI 0), bF, undef, undef, (pP n2 2), (.slice x1 t.writes.length y1), (nI t.writes.length), (nI i), (u33 38), (u33 39), (u33 40), (u33 41), (u33 42), (u33 43), (u33 44), (u33 45), (u33 46), (u33 47), (u33 48), (u33 49), (u33 50), (u33 51), (u33 52), (u33 53), undef], []⟩ ∧ St w F w34 F32 [⟨n23, [(.bool (getF l n k).isSome), (.slice a20 ((getF l n k).getD []).length c21)], 72⟩, ⟨n5, [bF, Zn], 72⟩, ⟨n2, [(.int .i64 t.start), (.slice x0 t.reads.length y0), (.slice x1 t.writes.length y1)], 141⟩] [] ∧ Le F16 F32 ∧ (i ≤ t.writes.length) ∧ ((t.writes.take i).any (fun w : Wr => samePl w (⟨n, k, false, ([] : By)⟩ : Wr)) = false)) _ ⟨0, F16, _, rfl, rfl, rfl, S27, Le.refl _, (by omega), rfl⟩ ?_
 rintro m35 a36 w37 ⟨i, F32, u33, rfl, -, rfl, S38, le39, hi, hno⟩ K40 hK40
 refine sk fun K41 hK41 => ?_
 by_cases hc38 : i < t.writes.length
 refine lssT ?_
 refine wn hK41 ?_
 refine wp_seq_k (fun K42 hK42 => ?_)
 refine wp_cond_true rfl ?_
 refine wp_skip ?_
 refine hK42 _ _ ?_
 refine wp_seq_k (fun K43 hK43 => ?_)
 refine wp_block ?_
 refine wp_seq_k (fun K44 hK44 => ?_)
 obtain ⟨p, hp⟩ : ∃ p, t.writes[i]? = some p := ⟨t.writes[i], List.getElem?_eq_getElem hc38⟩
 have hpo := ht.writes p (List.mem_of_getElem? hp)
 have hps := hpo.small
 obtain ⟨b45, o46, ha47, xa49, xc50, xa53, xc54, xa58, xc59, c48, c52, c56, c57, r51, r55, r60⟩ := Wrs.get (h1.mono (le17.trans le39)) hp
 refine region_wl ?_
 refine dr (pP b45 (o46 + i * 4)) (ex_at (i := i) (sz := 4) Tryz.underlying40 (sizeof_39 _) rfl ha47 rfl (by omega) rfl) ?_
 refine dr _ (ex_load rfl (loadM Tryz.underlying39 rfl (size_39) (range4 (St.fz S38 c48) (St.fz S38 c52) (St.fz S38 c56) (St.fz S38 c57)))) ?_
 simp only [pq]
 refine sA S38 (zero_39 _) fun n61 w62 S63 => ?_
 refine sW 0 S63 (size_39) fun w64 S65 => ?_
 refine wl_nil (hK44 _ _ ?_)
 refine sk fun K66 hK66 => ?_
 refine dR S65 0 Tryz.underlying39 (size_39) ?_
 iterate 2 refine dx ?_
 simp only [pq]
 refine dr (.agg #[(.slice a2 n.length c2), (.slice a3 k.length c3), bF, Zn]) (ex_build (bmap2 rfl rfl) (by kernel_rfl)) ?_
 refine stTells (v := (.bool (samePl p (⟨n, k, false, ([] : By)⟩ : Wr)))) S65 rfl (fn2 (ent_104 _ _)) (samePlace_spec _ _ _ _ p (⟨n, k, false, ([] : By)⟩ : Wr) (S65).sat ⟨_, _, _, _, _, _, rfl, r51, r55, r60⟩ ⟨_, _, _, _, _, _, rfl, (hn.mono (le17.trans le39)), (hk.mono (le17.trans le39)), (Bs.nil _)⟩) (fun w67 S68 => ?_)
 refine wn hK66 ?_
 refine wp_cond_split rfl (fun hc69 => ?_) (fun hc69 => ?_)
 refine wp_seq_k (fun K70 hK70 => ?_)
 refine region_gw F32 6 [(5, .made (fun F' u => Bs F' u p.value))] (by kernel_rfl) (by kernel_rfl) ?_
 simp only [List.take_succ_cons, List.take_zero]
 refine gf (fa_39_2 _ _) ?_
 refine gl nagg_4 S68 0 ?_
 simp only [pq]
 refine gv (.bool (!p.gone)) (fun _ _ => ex_not rfl rfl) ?_
 refine gf (fa_39_3 _ _) ?_
 refine gl nagg_25 S68 0 ?_
 simp only [pq]
 refine gw_rel rfl rfl (fun w71 C71 hF => does_call (ex_fn (vs := #[(.slice xa58 p.value.length xc59)]) (map1 rfl) rfl (ent_45 _ _)) (call_made S68.sat C71 (clone_spec _ _ _ p.value ((St.tells S68 C71)).sat r60 (by omega)))) (fun v72 => ?_)
 refine gw_nil ?_
 intro w73 hC75 hF76
 obtain ⟨F77, g78, R79⟩ := hF76.get 5 rfl rfl
 have S74 := St.gives S68 g78
 have le81 : Le _ _ := g78.le S68.sat
 have R82 := R79
 generalize F77 = F80 at *
 obtain ⟨xa83, xc84, rfl, _⟩ := R82.shape
 clear hF76
 simp only [List.drop_succ_cons, List.drop_zero]
 refine dr (.agg #[(.bool (!p.gone)), (.slice xa83 p.value.length xc84)]) (ex_build (bmap2 rfl rfl) (by kernel_rfl)) ?_
 simp only [pq]
 refine sW 2 S74 (size_72) fun w85 S86 => ?_
 iterate 2 refine dy ?_
 simp only [pq]
 refine wl_nil (hK70 _ _ ?_)
 refine wp_ret ?_
 (try simp only [Exit.then, Exit.inBlock, ↓reduceIte, Nat.reduceEqDiff])
 refine bR (res_ctt rfl ⟨_, rfl, lR S86 2 Tryz.underlying72 (size_72)⟩ (gD rfl) (gD rfl)) ?_
 have ho : ownW t.writes n k = some p := find_hit hp hno hc69
 have hx : lookX l t n k = (if p.gone then none else some p.value, true) := by unfold lookX; rw [ho]
 rw [hx]
 exact ⟨_, _, rfl, S86.gr, _, rfl, FdV.fnd ⟨_, _, rfl, R82⟩ hpo⟩
 refine wp_skip ?_
 refine hK43 _ _ ?_
 refine region_wl ?_
 refine dAdd (i + 1) ?_
 refine dx ?_
 refine wl_nil ?_
 have S68 := St.drop S68 (.cons _ (List.Sublist.refl _))
 exact hK40 _ _ _ (by omega) ⟨(i + 1), F32, _, rfl, rfl, rfl, S68, le39, (by omega), (any_next hp hno (by simpa using hc69))⟩
 refine lssF ?_
 simp only [pq]
 refine wn hK41 ?_
 refine wp_seq_k (fun K87 hK87 => ?_)
 refine wp_cond_false rfl ?_
 refine wp_exit ?_
 refine hK30 _ _ ?_
 refine sk fun K88 hK88 => ?_
 refine dR S38 0 Tryz.underlying72 (size_72) ?_
 refine sW 1 S38 (size_72) fun w89 S90 => ?_
 iterate 2 refine dy ?_
 simp only [pq]
 refine wn hK88 ?_
 refine wp_ret ?_
 (try simp only [Exit.then, Exit.inBlock, ↓reduceIte, Nat.reduceEqDiff])
 refine bR (res_ctt rfl ⟨_, rfl, lR S90 1 Tryz.underlying72 (size_72)⟩ (gD rfl) (gD rfl)) ?_
 have ho : ownW t.writes n k = none := find_no (any_all (by omega) hno)
 have hx : lookX l t n k = (getF l n k, false) := by unfold lookX; rw [ho]
 rw [hx]
 exact ⟨_, _, rfl, S90.gr, _, rfl, _, _, rfl, (r22.mono le39)⟩
theorem scan_at {ws : List Wr} {i : Nat} {p : Wr} (hp : ws[i]? = some p) (n a b : By) (m : List Pr) : scanFrom n a b m (ws.drop i) = match scanStep n a b m p with | some x => scanFrom n a b x (ws.drop (i + 1)) | none => none := by
 obtain ⟨hi, rfl⟩ := List.getElem?_eq_some_iff.1 hp
 rw [List.drop_eq_getElem_cons hi]
 rfl
theorem scan_skip {ws : List Wr} {i : Nat} {p : Wr} {n a b : By} {m : List Pr} {o : Option (List Pr)} (hp : ws[i]? = some p) (hr : inR n a b p = false) (h : scanFrom n a b m (ws.drop i) = o) : scanFrom n a b m (ws.drop (i + 1)) = o := by
 rw [scan_at hp] at h
 unfold scanStep at h
 rw [if_neg (by simp [hr])] at h
 exact h
theorem scan_del {ws : List Wr} {i : Nat} {p : Wr} {n a b : By} {m : List Pr} {o : Option (List Pr)} (hp : ws[i]? = some p) (hr : inR n a b p = true) (hg : p.gone = true) (h : scanFrom n a b m (ws.drop i) = o) : scanFrom n a b (delT m p.key) (ws.drop (i + 1)) = o := by
 rw [scan_at hp] at h
 unfold scanStep at h
 rw [if_pos hr, if_neg (by simp [hg]), next_gone hg] at h
 exact h
theorem scan_put {ws : List Wr} {i : Nat} {p : Wr} {n a b : By} {m : List Pr} {o : Option (List Pr)} (hp : ws[i]? = some p) (hr : inR n a b p = true) (hg : p.gone = false) (hl : ¬ 60 < (putT m p.key p.value).length) (h : scanFrom n a b m (ws.drop i) = o) : scanFrom n a b (putT m p.key p.value) (ws.drop (i + 1)) = o := by
 rw [scan_at hp] at h
 unfold scanStep at h
 rw [if_pos hr, next_put hg, if_neg (fun k => hl k.2)] at h
 exact h
theorem scan_full {ws : List Wr} {i : Nat} {p : Wr} {n a b : By} {m : List Pr} {o : Option (List Pr)} (hp : ws[i]? = some p) (hr : inR n a b p = true) (hg : p.gone = false) (hl : 60 < (putT m p.key p.value).length) (h : scanFrom n a b m (ws.drop i) = o) : none = o := by
 rw [scan_at hp] at h
 unfold scanStep at h
 rw [if_pos hr, next_put hg, if_pos ⟨hg, hl⟩] at h
 exact h
def ScanR (o : Option (List Pr)) (F : Fz) (u : Value) : Prop := match o with
  | some R => PrsE R 0 F u
  | none => PrsE [] 11 F u
theorem scanA_spec (F : Fz) (w : World) (u v y z x : Value) (l : Forest) (t : Tx) (n k j : By) (hs : Sat w F) (hl : Tns F u l) (hv : TxV F v t) (hn : Bs F y n) (hk : Bs F z k) (hj : Bs F x j) (hf : ForestOk 60 l) (ht : TxOk t) (hnn : 1 ≤ n.length ∧ n.length ≤ 8) (hkk : 1 ≤ k.length ∧ k.length ≤ 16) (hjj : 1 ≤ j.length ∧ j.length ≤ 16) :
    Calls Tryz.prog 91 #[u, v, y, z, x] w (Gives w F (ScanR (scanX l t n k j))) := by
 obtain ⟨a, c, rfl, hc1, hc2⟩ := Sl.shape hl
 unfold maxLen at hc2
 obtain ⟨x0, y0, x1, y1, rfl, h0, h1⟩ := hv
 obtain ⟨_, _, e0, q0, q1⟩ := Sl.shape h0
 obtain ⟨_, _, e1, q2, q3⟩ := Sl.shape h1
 injection e0 with _ _ e0
 injection e1 with _ _ e1
 subst e0 e1
 unfold maxLen at q1 q3
 obtain ⟨a2, c2, rfl, _⟩ := hn.shape
 obtain ⟨a3, c3, rfl, _⟩ := hk.shape
 obtain ⟨a4, c4, rfl, _⟩ := hj.shape
 have hb0 := bothE_ok.2 ⟨hf, ht⟩
 have hbw := fun r hr => (ht.writes r hr).small
 have hnw := ht.nw
 obtain ⟨o, ho⟩ : ∃ o, scanX l t n k j = o := ⟨_, rfl⟩
 rw [ho]
 have hsc : scanFrom n k j (rangeT (treeF l n) k j) (t.writes.drop 0) = o := ho
 have S := St.start hs
 go_enter Tryz.func91, Tryz.ntmps91
 refine sk fun K1 hK1 => ?_
 refine stNew S (v := fun n => .pointer (aA n 0)) rfl (ex_box (v := (.agg #[(.int .i64 t.start), (.slice x0 t.reads.length y0), (.slice x1 t.writes.length y1)])) rfl) (fun n2 w3 S4 => ?_)
 iterate 2 refine dy ?_
 refine wn hK1 ?_
 refine wp_seq_k (fun K5 hK5 => ?_)
 refine sk fun K6 hK6 => ?_
 refine dx ?_
 refine dR S4 0 Tryz.underlying141 (size_141) ?_
 simp only [pq]
 refine stTells (v := (.int .i64 (bothE l t))) S4 rfl (fn2 (ent_103 _ _)) (both_spec _ _ _ _ l t (S4).sat hl ⟨_, _, _, _, rfl, h0, h1⟩ hbw) (fun w7 S8 => ?_)
 refine dy ?_
 refine wn hK6 ?_
 refine sk fun K9 hK9 => ?_
 refine dx ?_
 refine dr bF (ex_neq (m := (bothE l t)) (n := (0 : Int)) (b := false) rfl rfl (bne_eq_false_iff_eq.2 (hb0))) ?_
 simp only [pq]
 refine wn hK9 ?_
 refine wp_cond_false rfl ?_
 refine wp_skip ?_
 refine hK5 _ _ ?_
 refine sk fun K10 hK10 => ?_
 iterate 3 refine dx ?_
 simp only [pq]
 refine dx ?_
 refine stGives S8 rfl (fn4 (ent_107 _ _)) (rangeF_spec _ _ _ _ _ _ l n k j (S8).sat hl hn hk hj hf hnn hkk hjj) ?_
 intro v16 w11 F13 S12 le14 R15
 obtain ⟨_, rfl, r19⟩ := R15
 obtain ⟨a17, c18, rfl, h20, h21⟩ := Sl.shape r19
 unfold maxLen at h21
 have h20 : (rangeT (treeF l n) k j).length ≤ c18 := h20
 have r19 : Prs _ (.slice a17 (rangeT (treeF l n) k j).length c18) (rangeT (treeF l n) k j) := r19
 refine dx ?_
 iterate 2 refine de ?_
 simp only [pq]
 iterate 2 refine dy ?_
 refine wn hK10 ?_
 refine wp_seq_k (fun K22 hK22 => ?_)
 refine sk fun K23 hK23 => ?_
 refine dx ?_
 refine dr bF (ex_neq (b := false) rfl rfl (by decide)) ?_
 simp only [pq]
 refine wn hK23 ?_
 refine wp_cond_false rfl ?_
 refine wp_skip ?_
 refine hK22 _ _ ?_
 refine wp_seq_k (fun K24 hK24 => ?_)
 refine sk fun K25 hK25 => ?_
 refine df (fa_141_2 _ _) ?_
 refine dl (nagg_40 _) S12 0 ?_
 refine dn Tryz.underlying40 ?_
 simp only [pq]
 refine dx ?_
 refine wn hK25 ?_
 refine wp_block ?_
 refine wp_loop_g (fun mm aa w28 => ∃ (i : Nat) (m : List Pr) (v : Value) (F26 : Fz) (u27 : Nat → Value), mm = t.writes.length - i ∧ u27 = slots aa ∧ aa = ⟨#[(.slice a l.length c), (.agg #[(.int .i64 t.start), (.slice x0 t.reads.length y0), (.slice x1 t.writes.length y1)]), (.slice a2 n.length c2), (.slice a3 k.length c3), (.slice a4 j.length c4), undef, (pP n2 0), undef, undef, undef, (u27 10), (u27 11), (.int .i64 (bothE l t)), v, (u27 14), undef, (u27 16), (u27 17), (.slice a l.length c), (.agg #[(.int .i64 t.start), (.slice x0 t.reads.length y0), (.slice x1 t.writes.length y1)]), (.int .i64 (bothE l t)), (.int .i64 (bothE l t)), bF, undef, (.tuple #[(.slice a17 (rangeT (treeF l n) k j).length c18), (iI 0)]), (.slice a l.length c), (.slice a2 n.length c2), (.slice a3 k.length c3), (.slice a4 j.length c4), (.tuple #[(.slice a17 (rangeT (treeF l n) k j).length c18), (iI 0)]), (.slice a17 (rangeT (treeF l n) k j).length c18), (iI 0), (iI 0), bF, undef, (pP n2 2), (.slice x1 t.writes.length y1), (nI t.writes.length), (nI i), (u27 39), (u27 40), (u27 41), (u27 42), (u27 43), (u27 44), (u27 45), (u27 46), (u27 47), (u27 48), (u27 49), (u27 50), (u27 51), (u27 52), (u27 53), (u27 54), (u27 55), (u27 56), (u27 57), (u27 58), (u27 59), (u27 60), (u27 61), (u27 62), (u27 63), (u27 64), (u27 65), (u27 66), (u27 67), (u27 68), (u27 69), (u27 70), (u27 71), (u27 72), (u27 73), (u27 74), (u27 75), (u27 76), (u27 77), (u27 78), (u27 79), (u27 80), (u27 81), (u27 82), (u27 83), (u27 84), undef], []⟩ ∧ St w F w28 F26 [⟨n2, [(.int .i64 t.start), (.slice x0 t.reads.length y0), (.slice x1 t.writes.length y1)], 141⟩] [] ∧ Le F13 F26 ∧ (i ≤ t.writes.length) ∧ (Prs F26 v m) ∧ (TreeOk 60 m) ∧ (scanFrom n k j m (t.writes.drop i) = o)) _ ⟨0, (rangeT (treeF l n) k j), (.slice a17 (rangeT (treeF l n) k j).length c18), F13, _, rfl, rfl, rfl, S12, Le.refl _, (by omega), r19, ((treeF_ok hf n).range k j), hsc⟩ ?_
 rintro m29 a30 w31 ⟨i, m, v, F26, u27, rfl, -, rfl, S32, le33, hi, hvm, okm, hsm⟩ K34 hK34
 refine sk fun K35 hK35 => ?_
 by_cases hc39 : i < t.writes.length
 refine lssT ?_
 refine wn hK35 ?_
 refine wp_seq_k (fun K36 hK36 => ?_)
 refine wp_cond_true rfl ?_
 refine wp_skip ?_
 refine hK36 _ _ ?_
 refine wp_seq_k (fun K37 hK37 => ?_)
 refine wp_block ?_
 refine wp_seq_k (fun K38 hK38 => ?_)
 obtain ⟨p, hp⟩ : ∃ p, t.writes[i]? = some p := ⟨t.writes[i], List.getElem?_eq_getElem hc39⟩
 have hpo := ht.writes p (List.mem_of_getElem? hp)
 have hps := hpo.small
 obtain ⟨b39, o40, ha41, xa43, xc44, xa47, xc48, xa52, xc53, c42, c46, c50, c51, r45, r49, r54⟩ := Wrs.get (h1.mono (le14.trans le33)) hp
 refine region_wl ?_
 refine dr (pP b39 (o40 + i * 4)) (ex_at (i := i) (sz := 4) Tryz.underlying40 (sizeof_39 _) rfl ha41 rfl (by omega) rfl) ?_
 refine dr _ (ex_load rfl (loadM Tryz.underlying39 rfl (size_39) (range4 (St.fz S32 c42) (St.fz S32 c46) (St.fz S32 c50) (St.fz S32 c51)))) ?_
 simp only [pq]
 refine sA S32 (zero_39 _) fun n55 w56 S57 => ?_
 refine sW 0 S57 (size_39) fun w58 S59 => ?_
 refine wl_nil (hK38 _ _ ?_)
 refine wp_seq_k (fun K60 hK60 => ?_)
 refine wp_seq_k (fun K61 hK61 => ?_)
 by_cases e1 : p.name = n
 refine region_wl ?_
 refine df (fa_39_0 _ _) ?_
 refine dl (nagg_25 _) S59 0 ?_
 refine dx ?_
 simp only [pq]
 refine stTells (v := bT) S59 rfl (fn2 (ent_108 _ _)) (tells_bool (bytesEqual_spec _ _ _ _ p.name n (S59).sat r45 (hn.mono (le14.trans le33))) (beq_iff_eq.2 (e1))) (fun w62 S63 => ?_)
 refine dt ?_
 refine dx ?_
 refine df (fa_39_1 _ _) ?_
 simp only [pq]
 refine dl (nagg_25 _) S63 0 ?_
 refine dx ?_
 refine stTells (v := (.int .i64 (cmpL p.key k))) S63 rfl (fn2 (ent_44 _ _)) (bytesCompare_spec _ _ _ _ p.key k (S63).sat r49 (hk.mono (le14.trans le33))) (fun w64 S65 => ?_)
 simp only [pq]
 by_cases hc52 : (cmpL p.key k) < (0 : Int)
 refine lssT ?_
 refine dp ?_
 refine dx ?_
 simp only [pq]
 iterate 3 refine nO ?_
 simp only [pq]
 iterate 2 refine nO ?_
 refine dp ?_
 simp only [pq]
 refine wl_nil (hK61 _ _ ?_)
 refine wp_cond_true rfl ?_
 refine wp_exit ?_
 refine hK37 _ _ ?_
 refine region_wl ?_
 refine dAdd (i + 1) ?_
 refine dx ?_
 refine wl_nil ?_
 have S65 := St.drop S65 (.cons _ (List.Sublist.refl _))
 exact hK34 _ _ _ (by omega) ⟨(i + 1), m, v, F26, _, rfl, rfl, rfl, S65, le33, (by omega), hvm, okm, (scan_skip hp (by unfold inR; rw [beq_iff_eq.2 e1, geq_cmp, leq_cmp]; first | rw [decide_eq_false (by omega)]; rfl | rw [decide_eq_true (by omega), decide_eq_false (by omega)]; rfl) hsm)⟩
 refine lssF ?_
 refine dp ?_
 refine dx ?_
 simp only [pq]
 refine df (fa_39_1 _ _) ?_
 refine dl (nagg_25 _) S65 0 ?_
 refine dx ?_
 simp only [pq]
 refine stTells (v := (.int .i64 (cmpL p.key j))) S65 rfl (fn2 (ent_44 _ _)) (bytesCompare_spec _ _ _ _ p.key j (S65).sat r49 (hj.mono (le14.trans le33))) (fun w66 S67 => ?_)
 simp only [pq]
 by_cases hc59 : (0 : Int) < (cmpL p.key j)
 refine gtrT ?_
 refine dp ?_
 refine wl_nil (hK61 _ _ ?_)
 refine wp_cond_true rfl ?_
 refine wp_exit ?_
 refine hK37 _ _ ?_
 refine region_wl ?_
 refine dAdd (i + 1) ?_
 refine dx ?_
 simp only [pq]
 refine wl_nil ?_
 have S67 := St.drop S67 (.cons _ (List.Sublist.refl _))
 exact hK34 _ _ _ (by omega) ⟨(i + 1), m, v, F26, _, rfl, rfl, rfl, S67, le33, (by omega), hvm, okm, (scan_skip hp (by unfold inR; rw [beq_iff_eq.2 e1, geq_cmp, leq_cmp]; first | rw [decide_eq_false (by omega)]; rfl | rw [decide_eq_true (by omega), decide_eq_false (by omega)]; rfl) hsm)⟩
 refine gtrF ?_
 refine dp ?_
 refine wl_nil (hK61 _ _ ?_)
 refine wp_cond_false rfl ?_
 refine wp_skip ?_
 refine hK60 _ _ ?_
 refine sk fun K68 hK68 => ?_
 refine dy ?_
 simp only [pq]
 refine wn hK68 ?_
 refine wp_seq_k (fun K69 hK69 => ?_)
 refine wp_seq_k (fun K70 hK70 => ?_)
 have hin : inR n k j p = true := by unfold inR; rw [beq_iff_eq.2 e1, geq_cmp, leq_cmp, decide_eq_true (by omega), decide_eq_true (by omega)]; rfl
 cases hg : p.gone with
 | true =>
  rw [hg] at S67
  refine region_wl ?_
  refine df (fa_39_2 _ _) ?_
  refine dl (nagg_4 _) S67 0 ?_
  refine wl_nil (hK70 _ _ ?_)
  refine wp_cond_true rfl ?_
  refine region_wl ?_
  refine dx ?_
  refine df (fa_39_1 _ _) ?_
  refine dl (nagg_25 _) S67 0 ?_
  simp only [pq]
  refine stGives S67 rfl (fn2 (ent_47 _ _)) (delOk_spec _ _ _ _ m p.key (S67).sat hvm r49 okm ⟨hpo.key1, hpo.key2⟩) ?_
  intro v76 w71 F73 S72 le74 R75
  obtain ⟨_, rfl, r79⟩ := R75
  obtain ⟨a77, c78, rfl, h80, h81⟩ := Sl.shape r79
  unfold maxLen at h81
  have h80 : (delT m p.key).length ≤ c78 := h80
  have r79 : Prs _ (.slice a77 (delT m p.key).length c78) (delT m p.key) := r79
  refine dx ?_
  iterate 2 refine de ?_
  simp only [pq]
  iterate 2 refine dy ?_
  refine wl_nil (hK69 _ _ ?_)
  refine wp_seq_k (fun K82 hK82 => ?_)
  refine sk fun K83 hK83 => ?_
  refine dx ?_
  refine dr bF (ex_neq (b := false) rfl rfl (by decide)) ?_
  simp only [pq]
  refine wn hK83 ?_
  refine wp_cond_false rfl ?_
  refine wp_skip ?_
  refine hK82 _ _ ?_
  refine region_wl ?_
  refine dx ?_
  refine dy ?_
  refine wl_nil (hK37 _ _ ?_)
  refine region_wl ?_
  refine dAdd (i + 1) ?_
  refine dx ?_
  simp only [pq]
  refine wl_nil ?_
  have S72 := St.drop S72 (.cons _ (List.Sublist.refl _))
  exact hK34 _ _ _ (by omega) ⟨(i + 1), (delT m p.key), (.slice a77 (delT m p.key).length c78), F73, _, rfl, rfl, rfl, S72, (le33.trans le74), (by omega), r79, okm.del, (scan_del hp hin hg hsm)⟩
 | false =>
  rw [hg] at S67
  by_cases hfit : 60 < (putT m p.key p.value).length
  refine region_wl ?_
  refine df (fa_39_2 _ _) ?_
  refine dl (nagg_4 _) S67 0 ?_
  refine wl_nil (hK70 _ _ ?_)
  refine wp_cond_false rfl ?_
  refine region_wl ?_
  refine dx ?_
  refine df (fa_39_1 _ _) ?_
  refine dl (nagg_25 _) S67 0 ?_
  simp only [pq]
  refine df (fa_39_3 _ _) ?_
  refine dl (nagg_25 _) S67 0 ?_
  refine dr (.agg #[(.slice xa47 p.key.length xc48), (.slice xa52 p.value.length xc53)]) (ex_build (bmap2 rfl rfl) (by kernel_rfl)) ?_
  simp only [pq]
  refine stGives S67 rfl (fn2 (ent_48 _ _)) (putFull_spec _ _ _ _ m (p.key, p.value) (S67).sat hvm ⟨_, _, _, _, rfl, r49, r54⟩ okm hps.2.1 hps.2.2 (pairE_ok.2 ⟨hpo.key1, hpo.key2, hpo.value⟩) hfit) ?_
  intro v89 w84 F86 S85 le87 R88
  obtain ⟨_, rfl, r92⟩ := R88
  obtain ⟨a90, c91, rfl, h93, h94⟩ := Sl.shape r92
  unfold maxLen at h94
  refine dx ?_
  iterate 2 refine de ?_
  simp only [pq]
  iterate 2 refine dy ?_
  refine wl_nil (hK69 _ _ ?_)
  refine wp_seq_k (fun K95 hK95 => ?_)
  refine sk fun K96 hK96 => ?_
  refine dx ?_
  refine dr bT (ex_neq (b := true) rfl rfl (by decide)) ?_
  simp only [pq]
  refine wn hK96 ?_
  refine wp_cond_true rfl ?_
  refine sk fun K97 hK97 => ?_
  refine dx ?_
  iterate 2 refine dy ?_
  simp only [pq]
  refine wn hK97 ?_
  refine wp_ret ?_
  (try simp only [Exit.then, Exit.inBlock, ↓reduceIte, Nat.reduceEqDiff])
  refine bR (res_tt rfl (gD rfl) (gD rfl)) ?_
  rw [← scan_full hp hin hg hfit hsm]
  exact ⟨_, _, rfl, S85.gr, _, rfl, Sl.nil _ _ _⟩
  refine region_wl ?_
  refine df (fa_39_2 _ _) ?_
  refine dl (nagg_4 _) S67 0 ?_
  refine wl_nil (hK70 _ _ ?_)
  refine wp_cond_false rfl ?_
  refine region_wl ?_
  refine dx ?_
  refine df (fa_39_1 _ _) ?_
  refine dl (nagg_25 _) S67 0 ?_
  simp only [pq]
  refine df (fa_39_3 _ _) ?_
  refine dl (nagg_25 _) S67 0 ?_
  refine dr (.agg #[(.slice xa47 p.key.length xc48), (.slice xa52 p.value.length xc53)]) (ex_build (bmap2 rfl rfl) (by kernel_rfl)) ?_
  simp only [pq]
  refine stGives S67 rfl (fn2 (ent_48 _ _)) (putFit_spec _ _ _ _ m (p.key, p.value) (S67).sat hvm ⟨_, _, _, _, rfl, r49, r54⟩ okm hps.2.1 hps.2.2 (pairE_ok.2 ⟨hpo.key1, hpo.key2, hpo.value⟩) hfit) ?_
  intro v103 w98 F100 S99 le101 R102
  obtain ⟨_, rfl, r106⟩ := R102
  obtain ⟨a104, c105, rfl, h107, h108⟩ := Sl.shape r106
  unfold maxLen at h108
  have h107 : (putT m p.key p.value).length ≤ c105 := h107
  have r106 : Prs _ (.slice a104 (putT m p.key p.value).length c105) (putT m p.key p.value) := r106
  refine dx ?_
  iterate 2 refine de ?_
  simp only [pq]
  iterate 2 refine dy ?_
  refine wl_nil (hK69 _ _ ?_)
  refine wp_seq_k (fun K109 hK109 => ?_)
  refine sk fun K110 hK110 => ?_
  refine dx ?_
  refine dr bF (ex_neq (b := false) rfl rfl (by decide)) ?_
  simp only [pq]
  refine wn hK110 ?_
  refine wp_cond_false rfl ?_
  refine wp_skip ?_
  refine hK109 _ _ ?_
  refine region_wl ?_
  refine dx ?_
  refine dy ?_
  refine wl_nil (hK37 _ _ ?_)
  refine region_wl ?_
  refine dAdd (i + 1) ?_
  refine dx ?_
  simp only [pq]
  refine wl_nil ?_
  have S99 := St.drop S99 (.cons _ (List.Sublist.refl _))
  exact hK34 _ _ _ (by omega) ⟨(i + 1), (putT m p.key p.value), (.slice a104 (putT m p.key p.value).length c105), F100, _, rfl, rfl, rfl, S99, (le33.trans le101), (by omega), r106, (okm.put ⟨hpo.key1, hpo.key2, hpo.value⟩ (by omega)), (scan_put hp hin hg hfit hsm)⟩
 refine region_wl ?_
 refine df (fa_39_0 _ _) ?_
 refine dl (nagg_25 _) S59 0 ?_
 refine dx ?_
 simp only [pq]
 refine stTells (v := bF) S59 rfl (fn2 (ent_108 _ _)) (tells_bool (bytesEqual_spec _ _ _ _ p.name n (S59).sat r45 (hn.mono (le14.trans le33))) (beq_eq_false_iff_ne.2 (e1))) (fun w111 S112 => ?_)
 refine dt ?_
 refine dx ?_
 refine nO ?_
 simp only [pq]
 iterate 3 refine nO ?_
 simp only [pq]
 refine nO ?_
 refine dp ?_
 refine dx ?_
 simp only [pq]
 iterate 3 refine nO ?_
 simp only [pq]
 iterate 2 refine nO ?_
 refine dp ?_
 simp only [pq]
 refine wl_nil (hK61 _ _ ?_)
 refine wp_cond_true rfl ?_
 refine wp_exit ?_
 refine hK37 _ _ ?_
 refine region_wl ?_
 refine dAdd (i + 1) ?_
 refine dx ?_
 refine wl_nil ?_
 have S112 := St.drop S112 (.cons _ (List.Sublist.refl _))
 exact hK34 _ _ _ (by omega) ⟨(i + 1), m, v, F26, _, rfl, rfl, rfl, S112, le33, (by omega), hvm, okm, (scan_skip hp (by unfold inR; rw [beq_eq_false_iff_ne.2 e1]; rfl) hsm)⟩
 refine lssF ?_
 simp only [pq]
 refine wn hK35 ?_
 refine wp_seq_k (fun K113 hK113 => ?_)
 refine wp_cond_false rfl ?_
 refine wp_exit ?_
 refine hK24 _ _ ?_
 refine sk fun K114 hK114 => ?_
 refine dx ?_
 iterate 2 refine dy ?_
 simp only [pq]
 refine wn hK114 ?_
 refine wp_ret ?_
 (try simp only [Exit.then, Exit.inBlock, ↓reduceIte, Nat.reduceEqDiff])
 refine bR (res_tt rfl (gD rfl) (gD rfl)) ?_
 rw [← show some m = o from by rw [List.drop_of_length_le (by omega)] at hsm; exact hsm]
 exact ⟨_, _, rfl, S32.gr, _, rfl, hvm⟩
theorem applyNil {r : Wr} (h : WrOk r) : ∃ g, applyE [] [r] = (0, g) := by
 rw [applyE_one h]
 cases hw : writeF [] r with
 | some g => exact ⟨g, rfl⟩
 | none =>
  have := (writeF_none (m := 0) (ForestOk.nil 0) h (by omega) hw).1
  simp at this
theorem Sl.cap {α : Type} {k : Nat} {R : Fz → List Value → α → Prop} {F : Fz} {a : Option Addr} {n c c' : Nat} {l : List α} (h : Sl k R F (.slice a n c) l) (h1 : n ≤ c') (h2 : c' ≤ c) : Sl k R F (.slice a n c') l := by
 have hn := Sl.len h
 obtain ⟨xs, ⟨a', c0, e1, q1, q2, q3, q4⟩, hr, hk⟩ := h
 injection e1 with e1 e2 e3
 subst e1 e3
 exact ⟨xs, ⟨a, c', by rw [hn], by omega, by omega, fun h => by have := q3 h; omega, q4⟩, hr, hk⟩
theorem tapeCheckOk_spec (F : Fz) (w : World) (v : Value) (m : Cm) (hs : Sat w F) (hv : CmV F v m) (hm : CmOk m) :
    Calls Tryz.prog 120 #[v] w (Tells w (.int .i64 0)) := by
 obtain ⟨x1, y1, rfl, h1⟩ := hv
 obtain ⟨_, _, e1, q2, q3⟩ := Sl.shape h1
 injection e1 with _ _ e1
 subst e1
 unfold maxLen at q3
 have hmt := hm.turn
 have hms := hm.some
 have S := St.start hs
 go_enter Tryz.func120, Tryz.ntmps120
 refine sk fun K1 hK1 => ?_
 refine stNew S (v := fun n => .pointer (aA n 0)) rfl (ex_box (v := (.agg #[(nI m.turn), (.slice x1 m.writes.length y1)])) rfl) (fun n2 w3 S4 => ?_)
 refine dy ?_
 refine wn hK1 ?_
 refine wp_seq_k (fun K5 hK5 => ?_)
 refine sk fun K6 hK6 => ?_
 refine df (fa_168_0 _ _) ?_
 refine dl (nagg_3 _) S4 0 ?_
 refine lssF ?_
 simp only [pq]
 refine dx ?_
 refine df (fa_168_0 _ _) ?_
 refine dl (nagg_3 _) S4 0 ?_
 simp only [pq]
 refine gtrF ?_
 refine dp ?_
 refine wn hK6 ?_
 refine wp_cond_false rfl ?_
 refine wp_skip ?_
 refine hK5 _ _ ?_
 refine wp_seq_k (fun K7 hK7 => ?_)
 refine sk fun K8 hK8 => ?_
 refine df (fa_168_1 _ _) ?_
 refine dl (nagg_40 _) S4 0 ?_
 refine dn Tryz.underlying40 ?_
 simp only [pq]
 refine lssF ?_
 refine wn hK8 ?_
 refine wp_cond_false rfl ?_
 refine wp_skip ?_
 refine hK7 _ _ ?_
 refine wp_seq_k (fun K9 hK9 => ?_)
 refine sk fun K10 hK10 => ?_
 refine df (fa_168_1 _ _) ?_
 refine dl (nagg_40 _) S4 0 ?_
 refine dn Tryz.underlying40 ?_
 simp only [pq]
 refine dx ?_
 refine wn hK10 ?_
 refine wp_block ?_
 refine wp_loop_g (fun mm aa w13 => ∃ (k : Nat) (F11 : Fz) (u12 : Nat → Value), mm = m.writes.length - k ∧ u12 = slots aa ∧ aa = ⟨#[(.agg #[(nI m.turn), (.slice x1 m.writes.length y1)]), (pP n2 0), (u12 2), (u12 3), (u12 4), (u12 5), (u12 6), (pP n2 0), (nI m.turn), bF, bF, (pP n2 0), (nI m.turn), bF, bF, (pP n2 1), (.slice x1 m.writes.length y1), (nI m.writes.length), bF, (pP n2 1), (.slice x1 m.writes.length y1), (nI m.writes.length), (nI k), (u12 23), (u12 24), (u12 25), (u12 26), (u12 27), (u12 28), (u12 29), (u12 30), (u12 31), (u12 32), (u12 33), (u12 34), (u12 35), (u12 36), (u12 37), (u12 38)], []⟩ ∧ St w F w13 F11 [⟨n2, [(nI m.turn), (.slice x1 m.writes.length y1)], 168⟩] [] ∧ Le F F11 ∧ (k ≤ m.writes.length)) _ ⟨0, F, _, rfl, rfl, rfl, S4, Le.refl _, (by omega)⟩ ?_
 rintro m14 a15 w16 ⟨k, F11, u12, rfl, -, rfl, S17, le18, hk⟩ K19 hK19
 refine sk fun K20 hK20 => ?_
 by_cases hc23 : k < m.writes.length
 refine lssT ?_
 refine wn hK20 ?_
 refine wp_seq_k (fun K21 hK21 => ?_)
 refine wp_cond_true rfl ?_
 refine wp_skip ?_
 refine hK21 _ _ ?_
 refine wp_seq_k (fun K22 hK22 => ?_)
 refine wp_block ?_
 refine wp_seq_k (fun K23 hK23 => ?_)
 obtain ⟨p, hp⟩ : ∃ p, m.writes[k]? = some p := ⟨m.writes[k], List.getElem?_eq_getElem hc23⟩
 have hpo := hm.ok p (List.mem_of_getElem? hp)
 obtain ⟨gx, hae⟩ := applyNil hpo
 obtain ⟨b24, o25, ha26, xa28, xc29, xa32, xc33, xa37, xc38, c27, c31, c35, c36, r30, r34, r39⟩ := Wrs.get (h1.mono le18) hp
 refine region_wl ?_
 refine dx ?_
 refine dr (pP b24 (o25 + k * 4)) (ex_at (i := k) (sz := 4) Tryz.underlying40 (sizeof_39 _) rfl ha26 rfl (by omega) rfl) ?_
 refine dr _ (ex_load rfl (loadM Tryz.underlying39 rfl (size_39) (range4 (St.fz S17 c27) (St.fz S17 c31) (St.fz S17 c35) (St.fz S17 c36)))) ?_
 simp only [pq]
 refine sA S17 (zero_39 _) fun n40 w41 S42 => ?_
 refine dy ?_
 refine sW 0 S42 (size_39) fun w43 S44 => ?_
 simp only [pq]
 refine wl_nil (hK23 _ _ ?_)
 refine wp_seq_k (fun K45 hK45 => ?_)
 refine sk fun K46 hK46 => ?_
 refine dx ?_
 refine eqlF ?_
 refine wn hK46 ?_
 refine wp_cond_false rfl ?_
 refine wp_skip ?_
 refine hK45 _ _ ?_
 refine sk fun K47 hK47 => ?_
 refine dR S44 0 Tryz.underlying39 (size_39) ?_
 simp only [pq]
 refine stNew S44 (v := fun n => .slice (aA n 0) 1 1) rfl (ex_lit (ps := #[(0, (.agg #[(.slice xa28 p.name.length xc29), (.slice xa32 p.key.length xc33), (.bool p.gone), (.slice xa37 p.value.length xc38)]))]) (cells := #[(.slice xa28 p.name.length xc29), (.slice xa32 p.key.length xc33), (.bool p.gone), (.slice xa37 p.value.length xc38)]) (E := 39) (bmap1 rfl) (fun w => by kernel_rfl)) (fun n48 w49 S50 => ?_)
 simp only [pq]
 obtain ⟨S51, le52, hc53⟩ := St.freezeBlk S50 (i := 0) rfl
 have r55 : Wrs _ (.slice (some ⟨n48, 0, none⟩) 1 1) [p] := sl_of_block (R := WrC) (l := [p]) (el := [[(.slice xa28 p.name.length xc29), (.slice xa32 p.key.length xc33), (.bool p.gone), (.slice xa37 p.value.length xc38)]]) hc53 rfl ⟨⟨_, _, _, _, rfl, (r30.mono le52), (r34.mono le52), rfl, (r39.mono le52)⟩, trivial⟩ (by simp) (by unfold maxLen; simp)
 generalize addF F11 w49 n48 = F54 at *
 refine stGives S51 rfl (fn2 (ent_22 _ _)) (apply_is (S51).sat (Sl.nil _ _ _) r55 (ForestOk.nil 60) (by simpa using hpo) hae) ?_
 intro v61 w56 F58 S57 le59 R60
 obtain ⟨_, rfl, r64⟩ := R60
 obtain ⟨a62, c63, rfl, h65, h66⟩ := Sl.shape r64
 unfold maxLen at h66
 have h65 : gx.length ≤ c63 := h65
 have r64 : Tns _ (.slice a62 gx.length c63) gx := r64
 refine dx ?_
 iterate 2 refine de ?_
 simp only [pq]
 iterate 2 refine dy ?_
 refine wn hK47 ?_
 refine sk fun K67 hK67 => ?_
 refine dx ?_
 refine dr bF (ex_neq (b := false) rfl rfl (by decide)) ?_
 simp only [pq]
 refine wn hK67 ?_
 refine wp_cond_false rfl ?_
 refine wp_skip ?_
 refine hK22 _ _ ?_
 refine region_wl ?_
 refine dAdd (k + 1) ?_
 refine dx ?_
 refine wl_nil ?_
 have S57 := St.drop S57 (.cons _ (List.Sublist.refl _))
 exact hK19 _ _ _ (by omega) ⟨(k + 1), F58, _, rfl, rfl, rfl, S57, ((le18.trans le52).trans le59), (by omega)⟩
 refine lssF ?_
 simp only [pq]
 refine wn hK20 ?_
 refine wp_seq_k (fun K68 hK68 => ?_)
 refine wp_cond_false rfl ?_
 refine wp_exit ?_
 refine hK9 _ _ ?_
 refine sk fun K69 hK69 => ?_
 refine dy ?_
 refine wn hK69 ?_
 refine wp_ret ?_
 (try simp only [Exit.then, Exit.inBlock, ↓reduceIte, Nat.reduceEqDiff])
 refine bR (res_t rfl (gD rfl)) ?_
 exact ⟨rfl, S17.gr.below⟩
theorem tpart_spec {w0 w : World} {F0 F : Fz} {L0 : List Blk} {M0 : List RowP} {v u : Value} {l p : By}
    (S : St w0 F0 w F L0 (ownP 1 ByC ByC.mono 5 w0.heap.size v l :: M0)) (hu : Bs F u p) (hl : l.length ≤ 100000) (hp : p.length ≤ 1000) :
    Calls Tryz.prog 147 #[v, u] w fun e w' => ∃ v', e = .returned v' ∧ St w0 F0 w' F L0 (ownP 1 ByC ByC.mono 5 w0.heap.size v' (l ++ encPart p) :: M0) := by
 obtain ⟨a, c, rfl, hc1, hc2⟩ := (S.own (i := 0) rfl).shape
 obtain ⟨x, y, rfl, _⟩ := hu.shape
 unfold maxLen at hc2
 obtain ⟨i5, hi5, hz5, hs5, hb5⟩ := info_parts infoU8
 go_enter Tryz.func147, Tryz.ntmps147
 refine sk fun K1 hK1 => ?_
 refine dy ?_
 refine wn hK1 ?_
 refine sk fun K2 hK2 => ?_
 iterate 2 refine dx ?_
 refine dn Tryz.underlying25 ?_
 simp only [pq]
 refine dr (bv (b8 p.length)) (ex_convert (v := (nI p.length)) rfl (conv_b8 p.length _)) ?_
 refine stNew S (v := fun n => .slice (aA n 0) 1 1) rfl (ex_lit (ps := #[(0, (bv (b8 p.length)))]) (cells := #[(bv (b8 p.length))]) (E := 5) (bmap1 rfl) (fun w => by kernel_rfl)) (fun n3 w4 S5 => ?_)
 refine stPush (i := 0) (r := 0) (p := (b8 p.length)) (cs := [(bv (b8 p.length))]) S5 rfl i5 (.int .u8 0) 1 Tryz.underlying25 hi5 hz5 hs5 hb5 rfl (by decide) rfl rfl rfl rfl rfl (bv_one (b8 p.length)) (rfl) (Nat.le_refl _) S5.gr.below.size (by unfold maxLen; omega) (by omega) ?_
 intro v6 w7 S8 hn9
 simp only [pq]
 have S8 := St.drop S8 (.cons _ (List.Sublist.refl _))
 refine dx ?_
 refine stAppendS (r := 0) (u := (.slice x p.length y)) S8 rfl i5 (.int .u8 0) 1 Tryz.underlying25 hi5 hz5 hs5 hb5 rfl (by decide) rfl rfl rfl (Sl.toW (Bs.sl hu) (S8).sat) ByC.one (Nat.le_refl _) S8.gr.below.size (by unfold maxLen; simp only [List.length_append, List.length_cons, List.length_nil]; omega) (by simp only [List.length_append, List.length_cons, List.length_nil]; omega) ?_
 intro v10 w11 S12 hn13
 simp only [pq]
 have S12 : St w0 F0 w11 F (L0) (ownP 1 ByC ByC.mono 5 w0.heap.size v10 ((l ++ [(b8 p.length)]) ++ p) :: M0) := S12
 refine dy ?_
 refine wn hK2 ?_
 refine wp_ret ?_
 try simp only [xt]
 refine bR (res_t rfl (gD rfl)) ?_
 ·have he : (l ++ [b8 p.length]) ++ p = l ++ encPart p := by unfold encPart; simp
  rw [he] at S12
  exact ⟨_, rfl, S12⟩
def encHead (t n : Nat) : By := [b8 (t / 65536), b8 (t / 256), b8 t, b8 n]
theorem encCm_head (t : Nat) (ws : List Wr) : encCm t ws = encHead t ws.length ++ ws.flatMap encWr := rfl
theorem encPart_len (p : By) : (encPart p).length = 1 + p.length := by simp [encPart]; omega
theorem enc_len {ws : List Wr} (h : ∀ w ∈ ws, WrOk w) : (ws.flatMap encWr).length ≤ 59 * ws.length := by
 induction ws with
 | nil => simp
 | cons w ws ih =>
  have hw := h w (by simp)
  have h1 := hw.name.2; have h2 := hw.key2; have h3 := hw.value
  have := encWr_len hw.gone
  have := ih (fun x hx => h x (by simp [hx]))
  rw [List.flatMap_cons, List.length_append, List.length_cons]
  omega
theorem enc_gone {H : By} {ws : List Wr} {k : Nat} {p : Wr} (hp : ws[k]? = some p) (hg : p.gone = true) : (((H ++ (ws.take k).flatMap encWr) ++ encPart p.name) ++ encPart p.key) ++ [(255 : UInt8)] = H ++ (ws.take (k + 1)).flatMap encWr := by
 rw [take_snoc hp, List.flatMap_append]
 simp [encWr, hg]
theorem enc_val {H : By} {ws : List Wr} {k : Nat} {p : Wr} (hp : ws[k]? = some p) (hg : p.gone = false) : (((H ++ (ws.take k).flatMap encWr) ++ encPart p.name) ++ encPart p.key) ++ encPart p.value = H ++ (ws.take (k + 1)).flatMap encWr := by
 rw [take_snoc hp, List.flatMap_append]
 simp [encWr, hg]
def EncR (b : By) (e : Int) (F : Fz) (u : Value) : Prop := ∃ x, u = .tuple #[x, .int .i64 e] ∧ Bs F x b
theorem encode_spec (F : Fz) (w : World) (v : Value) (m : Cm) (hs : Sat w F) (hv : CmV F v m) (hm : CmOk m) :
    Calls Tryz.prog 134 #[v] w (Gives w F (EncR (encCm m.turn m.writes) 0)) := by
 obtain ⟨x1, y1, rfl, h1⟩ := hv
 obtain ⟨_, _, e1, q2, q3⟩ := Sl.shape h1
 injection e1 with _ _ e1
 subst e1
 unfold maxLen at q3
 have hms := hm.some
 obtain ⟨i5, hi5, hz5, hs5, hb5⟩ := info_parts infoU8
 have S := St.start hs
 go_enter Tryz.func134, Tryz.ntmps134
 refine sk fun K1 hK1 => ?_
 refine stNew S (v := fun n => .pointer (aA n 0)) rfl (ex_box (v := (.agg #[(nI m.turn), (.slice x1 m.writes.length y1)])) rfl) (fun n2 w3 S4 => ?_)
 iterate 2 refine dy ?_
 refine wn hK1 ?_
 refine wp_seq_k (fun K5 hK5 => ?_)
 refine sk fun K6 hK6 => ?_
 refine dR S4 0 Tryz.underlying168 (size_168) ?_
 simp only [pq]
 refine stTells (v := (iI 0)) S4 rfl (fn1 (ent_120 _ _)) (tapeCheckOk_spec _ _ _ m (S4).sat ⟨_, _, rfl, h1⟩ hm) (fun w7 S8 => ?_)
 refine dy ?_
 refine wn hK6 ?_
 refine sk fun K9 hK9 => ?_
 refine dx ?_
 refine dr bF (ex_neq (b := false) rfl rfl (by decide)) ?_
 simp only [pq]
 refine wn hK9 ?_
 refine wp_cond_false rfl ?_
 refine wp_skip ?_
 refine hK5 _ _ ?_
 refine sk fun K10 hK10 => ?_
 refine df (fa_168_0 _ _) ?_
 refine dl (nagg_3 _) S8 0 ?_
 refine dr (nI (m.turn / 65536)) (ex_shrN (m := m.turn) (n := 16) rfl rfl (by decide)) ?_
 simp only [pq]
 refine dr (bv (b8 (m.turn / 65536))) (ex_convert (v := (nI (m.turn / 65536))) rfl (conv_b8 (m.turn / 65536) _)) ?_
 refine df (fa_168_0 _ _) ?_
 refine dl (nagg_3 _) S8 0 ?_
 simp only [pq]
 refine dr (nI (m.turn / 256)) (ex_shrN (m := m.turn) (n := 8) rfl rfl (by decide)) ?_
 refine dr (bv (b8 (m.turn / 256))) (ex_convert (v := (nI (m.turn / 256))) rfl (conv_b8 (m.turn / 256) _)) ?_
 refine df (fa_168_0 _ _) ?_
 simp only [pq]
 refine dl (nagg_3 _) S8 0 ?_
 refine dr (bv (b8 m.turn)) (ex_convert (v := (nI m.turn)) rfl (conv_b8 m.turn _)) ?_
 refine df (fa_168_1 _ _) ?_
 simp only [pq]
 refine dl (nagg_40 _) S8 0 ?_
 refine dn Tryz.underlying40 ?_
 refine dr (bv (b8 m.writes.length)) (ex_convert (v := (nI m.writes.length)) rfl (conv_b8 m.writes.length _)) ?_
 simp only [pq]
 refine stNew S8 (v := fun n => .slice (aA n 0) 4 4) rfl (ex_lit (ps := #[(0, (bv (b8 (m.turn / 65536)))), (1, (bv (b8 (m.turn / 256)))), (2, (bv (b8 m.turn))), (3, (bv (b8 m.writes.length)))]) (cells := #[(bv (b8 (m.turn / 65536))), (bv (b8 (m.turn / 256))), (bv (b8 m.turn)), (bv (b8 m.writes.length))]) (E := 5) (bmap4 rfl rfl rfl rfl) (fun w => by kernel_rfl)) (fun n11 w12 S13 => ?_)
 refine dy ?_
 refine wn hK10 ?_
 refine wp_seq_k (fun K14 hK14 => ?_)
 refine sk fun K15 hK15 => ?_
 refine df (fa_168_1 _ _) ?_
 refine dl (nagg_40 _) S13 1 ?_
 refine dn Tryz.underlying40 ?_
 simp only [pq]
 refine dx ?_
 refine wn hK15 ?_
 refine wp_block ?_
 have S16 : St w F w12 F [⟨n2, [(nI m.turn), (.slice x1 m.writes.length y1)], 168⟩] [ownP 1 ByC ByC.mono 5 w.heap.size (.slice (aA n11 0) 4 4) (encHead m.turn m.writes.length)] := St.blkRow (k := 1) (l := (encHead m.turn m.writes.length)) (el := [[(bv (b8 (m.turn / 65536)))], [(bv (b8 (m.turn / 256)))], [(bv (b8 m.turn))], [(bv (b8 m.writes.length))]]) (hR := ByC.mono) S13 rfl ⟨rfl, rfl, rfl, rfl, trivial⟩ (by simp) rfl (by simp [encHead]) (by unfold maxLen; decide) (S13.blk _ (List.mem_cons_self ..)).2.2
 refine wp_loop_g (fun mm aa w19 => ∃ (k : Nat) (v : Value) (F17 : Fz) (u18 : Nat → Value), mm = m.writes.length - k ∧ u18 = slots aa ∧ aa = ⟨#[(.agg #[(nI m.turn), (.slice x1 m.writes.length y1)]), (pP n2 0), Zn, (iI 0), (iI 0), v, undef, (u18 7), (.agg #[(nI m.turn), (.slice x1 m.writes.length y1)]), (iI 0), (iI 0), bF, undef, (pP n2 0), (nI m.turn), (nI (m.turn / 65536)), (bv (b8 (m.turn / 65536))), (pP n2 0), (nI m.turn), (nI (m.turn / 256)), (bv (b8 (m.turn / 256))), (pP n2 0), (nI m.turn), (bv (b8 m.turn)), (pP n2 1), (.slice x1 m.writes.length y1), (nI m.writes.length), (bv (b8 m.writes.length)), (.slice (aA n11 0) 4 4), (pP n2 1), (.slice x1 m.writes.length y1), (nI m.writes.length), (nI k), (u18 33), (u18 34), (u18 35), (u18 36), (u18 37), (u18 38), (u18 39), (u18 40), (u18 41), (u18 42), (u18 43), (u18 44), (u18 45), (u18 46), (u18 47), (u18 48), (u18 49), (u18 50), (u18 51), (u18 52), undef], []⟩ ∧ St w F w19 F17 [⟨n2, [(nI m.turn), (.slice x1 m.writes.length y1)], 168⟩] [ownP 1 ByC ByC.mono 5 w.heap.size v ((encHead m.turn m.writes.length) ++ (m.writes.take k).flatMap encWr)] ∧ Le F F17 ∧ (k ≤ m.writes.length)) _ ⟨0, (.slice (aA n11 0) 4 4), F, _, rfl, rfl, rfl, S16, Le.refl _, (by omega)⟩ ?_
 rintro m20 a21 w22 ⟨k, v, F17, u18, rfl, -, rfl, S23, le24, hk⟩ K25 hK25
 refine sk fun K26 hK26 => ?_
 by_cases hc33 : k < m.writes.length
 ·refine lssT ?_
  refine wn hK26 ?_
  refine wp_seq_k (fun K27 hK27 => ?_)
  refine wp_cond_true rfl ?_
  refine wp_skip ?_
  refine hK27 _ _ ?_
  refine wp_seq_k (fun K28 hK28 => ?_)
  refine wp_block ?_
  refine wp_seq_k (fun K29 hK29 => ?_)
  obtain ⟨p, hp⟩ : ∃ p, m.writes[k]? = some p := ⟨m.writes[k], List.getElem?_eq_getElem hc33⟩
  have hpo := hm.ok p (List.mem_of_getElem? hp)
  have hp1 := hpo.name.2
  have hp2 := hpo.key2
  have hp3 := hpo.value
  have hfl := enc_len (ws := m.writes.take k) (fun x hx => hm.ok x (List.mem_of_mem_take hx))
  rw [List.length_take] at hfl
  obtain ⟨b30, o31, ha32, xa34, xc35, xa38, xc39, xa43, xc44, c33, c37, c41, c42, r36, r40, r45⟩ := Wrs.get (h1.mono le24) hp
  refine region_wl ?_
  refine dr (pP b30 (o31 + k * 4)) (ex_at (i := k) (sz := 4) Tryz.underlying40 (sizeof_39 _) rfl ha32 rfl (by omega) rfl) ?_
  refine dr _ (ex_load rfl (loadM Tryz.underlying39 rfl (size_39) (range4 (St.fz S23 c33) (St.fz S23 c37) (St.fz S23 c41) (St.fz S23 c42)))) ?_
  simp only [pq]
  refine sA S23 (zero_39 _) fun n46 w47 S48 => ?_
  refine sW 0 S48 (size_39) fun w49 S50 => ?_
  refine wl_nil (hK29 _ _ ?_)
  refine wp_seq_k (fun K51 hK51 => ?_)
  obtain ⟨S52, le53, hc54⟩ := St.freezeBlk S50 (i := 0) rfl
  generalize addF F17 w49 n46 = F55 at *
  refine region_hl S52 (by kernel_rfl) (fun w57 S56 => ?_)
  refine hl_take 0 rfl (by kernel_rfl) (v := v) (fun _ _ _ h => h) S56.sat rfl (fun w58 hs59 => ex_move _) ?_
  simp only [pq]
  refine hl_take 1 rfl (by kernel_rfl) (v := (pP n46 0)) (fun _ _ _ h => h) S56.sat rfl (fun w60 hs61 => ef (fa_39_0 _ _)) ?_
  simp only [pq]
  refine hl_take 2 rfl (by kernel_rfl) (v := (.slice xa34 p.name.length xc35)) (fun _ _ _ h => h) S56.sat rfl (fun w62 hs63 => ex_load rfl (load1 (nagg_25 _) (St.fz (St.start hs63) (hc54 0 _ rfl)))) ?_
  simp only [pq]
  refine hl_take 4 rfl (by kernel_rfl) (v := (pP n46 1)) (fun _ _ _ h => h) S56.sat rfl (fun w64 hs65 => ef (fa_39_1 _ _)) ?_
  simp only [pq]
  refine hl_take 5 rfl (by kernel_rfl) (v := (.slice xa38 p.key.length xc39)) (fun _ _ _ h => h) S56.sat rfl (fun w66 hs67 => ex_load rfl (load1 (nagg_25 _) (St.fz (St.start hs67) (hc54 1 _ rfl)))) ?_
  simp only [pq]
  refine hl_next 3 (by kernel_rfl) rfl ?_
  refine stOwn (L := [⟨n2, [(nI m.turn), (.slice x1 m.writes.length y1)], 168⟩]) (M := fun v_ => [ownP 1 ByC ByC.mono 5 w.heap.size v_ (((encHead m.turn m.writes.length) ++ (m.writes.take k).flatMap encWr) ++ encPart p.name)]) rfl (ex_fn (vs := #[v, (.slice xa34 p.name.length xc35)]) (map2 rfl rfl) rfl (ent_147 _ _)) (tpart_spec S56 (r36.mono le53) (by simp only [List.length_append, encPart_len, encHead, List.length_cons, List.length_nil]; omega) (by omega)) ?_
  intro v68 w69 S70
  refine wl_nil (hl_back S70.sat ?_)
  refine hl_next 6 (by kernel_rfl) rfl ?_
  refine stOwn (L := [⟨n2, [(nI m.turn), (.slice x1 m.writes.length y1)], 168⟩]) (M := fun v_ => [ownP 1 ByC ByC.mono 5 w.heap.size v_ ((((encHead m.turn m.writes.length) ++ (m.writes.take k).flatMap encWr) ++ encPart p.name) ++ encPart p.key)]) rfl (ex_fn (vs := #[v68, (.slice xa38 p.key.length xc39)]) (map2 rfl rfl) rfl (ent_147 _ _)) (tpart_spec S70 (r40.mono le53) (by simp only [List.length_append, encPart_len, encHead, List.length_cons, List.length_nil]; omega) (by omega)) ?_
  intro v71 w72 S73
  simp only [pq]
  refine wl_nil (hl_back S73.sat ?_)
  refine hl_take 7 rfl (by kernel_rfl) (v := v71) (fun _ _ _ h => h) S73.sat rfl (fun w74 hs75 => ex_assign _) ?_
  simp only [pq]
  refine hl_done (by kernel_rfl) ?_
  refine hK51 _ _ ?_
  refine wp_seq_k (fun K76 hK76 => ?_)
  refine sk fun K77 hK77 => ?_
  refine df (fa_39_2 _ _) ?_
  refine dr _ (ex_load rfl (load1 (nagg_4 _) (St.fz S73 (hc54 2 _ rfl)))) ?_
  refine wn hK77 ?_
  refine wp_cond_split rfl (fun hc78 => ?_) (fun hc78 => ?_)
  ·refine sk fun K79 hK79 => ?_
   refine dx ?_
   simp only [pq]
   refine stNew S73 (v := fun n => .slice (aA n 0) 1 1) rfl (ex_lit (ps := #[(0, (.int .u8 255))]) (cells := #[(.int .u8 255)]) (E := 5) (bmap1 rfl) (fun w => by kernel_rfl)) (fun n80 w81 S82 => ?_)
   refine stPush (i := 0) (r := 0) (p := (255 : UInt8)) (cs := [(.int .u8 255)]) S82 rfl i5 (.int .u8 0) 1 Tryz.underlying25 hi5 hz5 hs5 hb5 rfl (by decide) rfl rfl rfl rfl rfl (bv_one 255) (rfl) (Nat.le_refl _) S82.gr.below.size (by unfold maxLen; simp only [List.length_append, encPart_len, encHead, List.length_cons, List.length_nil]; omega) (by simp only [List.length_append, encPart_len, encHead, List.length_cons, List.length_nil]; omega) ?_
   intro v83 w84 S85 hn86
   simp only [pq]
   have S85 := St.drop S85 (.cons _ (List.Sublist.refl _))
   have S85 : St w F w84 F55 [⟨n2, [(nI m.turn), (.slice x1 m.writes.length y1)], 168⟩] [ownP 1 ByC ByC.mono 5 w.heap.size v83 (((((encHead m.turn m.writes.length) ++ (m.writes.take k).flatMap encWr) ++ encPart p.name) ++ encPart p.key) ++ [(255 : UInt8)])] := S85
   refine dy ?_
   refine wn hK79 ?_
   refine wp_exit ?_
   refine hK28 _ _ ?_
   refine region_wl ?_
   refine dAdd (k + 1) ?_
   refine dx ?_
   simp only [pq]
   refine wl_nil ?_
   rw [enc_gone hp (by simpa using hc78)] at S85
   exact hK25 _ _ _ (by omega) ⟨(k + 1), v83, F55, _, rfl, rfl, rfl, S85, (le24.trans le53), (by omega)⟩
  ·refine wp_skip ?_
   refine hK76 _ _ ?_
   refine region_wl ?_
   refine dx ?_
   refine df (fa_39_3 _ _) ?_
   refine dr _ (ex_load rfl (load1 (nagg_25 _) (St.fz S73 (hc54 3 _ rfl)))) ?_
   simp only [pq]
   refine stOwn (L := [⟨n2, [(nI m.turn), (.slice x1 m.writes.length y1)], 168⟩]) (M := fun v_ => [ownP 1 ByC ByC.mono 5 w.heap.size v_ (((((encHead m.turn m.writes.length) ++ (m.writes.take k).flatMap encWr) ++ encPart p.name) ++ encPart p.key) ++ encPart p.value)]) rfl (ex_fn (vs := #[v71, (.slice xa43 p.value.length xc44)]) (map2 rfl rfl) rfl (ent_147 _ _)) (tpart_spec S73 (r45.mono le53) (by simp only [List.length_append, encPart_len, encHead, List.length_cons, List.length_nil]; omega) (by omega)) ?_
   intro v87 w88 S89
   refine dy ?_
   refine wl_nil (hK28 _ _ ?_)
   refine region_wl ?_
   refine dAdd (k + 1) ?_
   refine dx ?_
   simp only [pq]
   refine wl_nil ?_
   rw [enc_val hp (by simpa using hc78)] at S89
   exact hK25 _ _ _ (by omega) ⟨(k + 1), v87, F55, _, rfl, rfl, rfl, S89, (le24.trans le53), (by omega)⟩
 ·refine lssF ?_
  refine wn hK26 ?_
  refine wp_seq_k (fun K90 hK90 => ?_)
  refine wp_cond_false rfl ?_
  refine wp_exit ?_
  refine hK14 _ _ ?_
  refine sk fun K91 hK91 => ?_
  refine dx ?_
  iterate 2 refine dy ?_
  simp only [pq]
  refine wn hK91 ?_
  refine wp_ret ?_
  (try simp only [Exit.then, Exit.inBlock, ↓reduceIte, Nat.reduceEqDiff])
  refine bR (res_tt rfl (gD rfl) (gD rfl)) ?_
  ·have hend : m.writes.take k = m.writes := List.take_of_length_le (by omega)
   rw [hend] at S23
   obtain ⟨F92, S93, le94, hv95⟩ := St.freeze S23 (i := 0) rfl (Nat.le_refl _)
   have hv95 : Bys _ v ((encHead m.turn m.writes.length) ++ m.writes.flatMap encWr) := hv95
   exact ⟨_, _, rfl, S93.gr, _, rfl, bs_of_sl hv95⟩
theorem Bs.cut {F : Fz} {a : Option Addr} {m c n : Nat} {l : By} (h : Bs F (.slice a m c) l) (hn : n ≤ m) : Bs F (.slice a n n) (l.take n) := by
 have hm := h.len
 obtain ⟨a', c0, e, q1, _⟩ := h.shape
 injection e with _ _ e
 have := bs_of_sl (Sl.cap (c' := n) (Sl.takeN (m := n) h.sl hn) (Nat.le_refl _) (by omega))
 exact this
theorem Bs.rest {F : Fz} {a : Option Addr} {m c n : Nat} {l : By} (h : Bs F (.slice a m c) l) (hn : n ≤ m) : Bs F (.slice (if c = n then a else a.map (·.add (n * 1))) (m - n) (c - n)) (l.drop n) := bs_of_sl (Sl.dropAny (by decide) h.sl hn)
def chkAt (l : List Wr) : Nat → Nat → Int
  | 0, _ => 0
  | n + 1, k => match l[k]? with
    | none => 0
    | some r => if k = 10 then 1 else if wrE r ≠ 0 then wrE r else chkAt l n (k + 1)
theorem chkAt_ok {l : List Wr} : ∀ n k, n + k = l.length → (chkAt l n k = 0 ↔ ∀ (i : Nat) r, k ≤ i → l[i]? = some r → i ≠ 10 ∧ wrE r = 0)
  | 0, k, h => ⟨fun _ i r hi hr => by have := (List.getElem?_eq_some_iff.1 hr).1; omega, fun _ => rfl⟩
  | n + 1, k, h => by
    have hk : k < l.length := by omega
    obtain ⟨x, hp⟩ : ∃ x, l[k]? = some x := ⟨_, List.getElem?_eq_getElem hk⟩
    simp only [chkAt, hp]
    by_cases h1 : k = 10
    · rw [if_pos h1]
      exact ⟨fun h => by omega, fun h => absurd h1 (h k _ (Nat.le_refl _) hp).1⟩
    · rw [if_neg h1]
      by_cases h2 : wrE x = 0
      · rw [if_neg (by simpa using h2), chkAt_ok n (k + 1) (by omega)]
        refine ⟨fun h i r hi hr => ?_, fun h i r hi hr => h i r (by omega) hr⟩
        rcases Nat.lt_or_eq_of_le hi with hi | rfl
        · exact h i r hi hr
        · rw [hp] at hr; cases hr; exact ⟨h1, h2⟩
      · rw [if_pos h2]
        exact ⟨fun h => absurd h h2, fun h => absurd (h k _ (Nat.le_refl _) hp).2 h2⟩
def tapeE (m : Cm) : Int := if m.turn < 1 ∨ 1048576 < m.turn then 2 else if m.writes.length < 1 then 1 else chkAt m.writes m.writes.length 0
theorem tapeE_ok {m : Cm} : tapeE m = 0 ↔ CmOk m := by
 unfold tapeE
 by_cases h1 : m.turn < 1 ∨ 1048576 < m.turn
 rw [if_pos h1]; exact ⟨fun h => by omega, fun h => by have := h.turn; omega⟩
 rw [if_neg h1]
 by_cases h2 : m.writes.length < 1
 rw [if_pos h2]; exact ⟨fun h => by omega, fun h => by have := h.some; omega⟩
 rw [if_neg h2, chkAt_ok _ _ (by omega)]
 constructor
 intro h
 refine ⟨by omega, ⟨by omega, ?_⟩, fun w hw => ?_⟩
 rcases Nat.lt_or_ge 10 m.writes.length with h3 | h3
 exact absurd rfl (h 10 _ (Nat.zero_le _) (List.getElem?_eq_getElem h3)).1
 exact h3
 obtain ⟨i, hi, rfl⟩ := List.mem_iff_getElem.1 hw
 exact wrE_ok.1 (h i _ (Nat.zero_le _) (List.getElem?_eq_getElem hi)).2
 intro h i r _ hr
 have hi := (List.getElem?_eq_some_iff.1 hr).1
 have := h.some.2
 exact ⟨by omega, wrE_ok.2 (h.ok r (List.mem_of_getElem? hr))⟩
def decE (b : By) : Int := if (cmR ⟨b, false⟩).2.short = true then 14 else if 0 < (cmR ⟨b, false⟩).2.rest.length then 4 else tapeE ⟨(cmR ⟨b, false⟩).1.1, (cmR ⟨b, false⟩).1.2⟩
def decC (b : By) : Cm := if decE b = 0 then ⟨(cmR ⟨b, false⟩).1.1, (cmR ⟨b, false⟩).1.2⟩ else ⟨0, []⟩
theorem encCm_len {m : Cm} (hm : CmOk m) : (encCm m.turn m.writes).length ≤ 594 ∧ 4 ≤ (encCm m.turn m.writes).length := by
 have := enc_len hm.ok
 have := hm.some.2
 rw [encCm_head, List.length_append, show (encHead m.turn m.writes.length).length = 4 from rfl]
 omega
theorem dec_back {m : Cm} (hm : CmOk m) : decE (encCm m.turn m.writes) = 0 ∧ decC (encCm m.turn m.writes) = m := by
 have ht := hm.turn
 have hs := hm.some
 have h := cmR_enc m.turn m.writes [] hm.ok (by omega) (by omega)
 rw [List.append_nil] at h
 have he : decE (encCm m.turn m.writes) = 0 := by
  unfold decE
  rw [h, if_neg (by simp), if_neg (by simp)]
  exact tapeE_ok.2 hm
 exact ⟨he, by unfold decC; rw [if_pos he, h]⟩
open Go.ChangeShapes Go.WideShapes Go.ChangeAt Go.RowKit Go.Deep
theorem laidVars_at {P : Program} {W : World} : ∀ {l : List (String × DataW Unit)} {ps : List MemPlace}, DataW.LaidVars P W l ps → ∀ (i : Nat) (n : String) (d : DataW Unit), l[i]? = some (n, d) →
    ∃ g t cs fuel p, P.globalNamed n = some g ∧ (P.globals[g]?).map (·.type) = some t ∧ W.var? P n = some cs ∧ DataW.trod (fun _ => ()) P W 0 (fun _ => true) false fuel t cs.toList = some (d, p)
  | [], _, _, i, n, d, hi => by simp at hi
  | (n', d') :: r, ps, h, i, n, d, hi => by
    obtain ⟨g, t, cs, fuel, p, q, h1, h2, h3, h4, h5, h6⟩ := h
    cases i with
    | zero =>
      simp only [List.getElem?_cons_zero, Option.some.injEq, Prod.mk.injEq] at hi
      obtain ⟨rfl, rfl⟩ := hi
      exact ⟨g, t, cs, fuel, p, h1, h2, h3, h4⟩
    | succ i => exact laidVars_at h5 i n d (by simpa using hi)
theorem tabIs_at {P : Program} {W : World} {l : List (String × DataW Unit)} (h : laidMet P l W) (i : Nat) (name : String) (k : IntKind) (zs : List Int) {g : Nat} {t e : TypeId} {n : Nat}
    (hi : l[i]? = some (name, Lib.tabData k zs))
    (hg : P.globalNamed name = some g) (hty : (P.globals[g]?).map (·.type) = some t) (ht : P.underlying t = some (.array n e)) (he : P.underlying e = some (.int k)) (hce : P.cellsOf e = 1) (hct : P.cellsOf t = n) : Lib.TabIs P W name k zs := by
 obtain ⟨ps, hv, _, _⟩ := h
 obtain ⟨g', t', cs, fuel, p, hg', ht', hvar, hd⟩ := laidVars_at hv i name _ hi
 obtain rfl := Option.some.inj (hg.symm.trans hg')
 obtain rfl := Option.some.inj (hty.symm.trans ht')
 unfold Lib.TabIs
 rw [hvar, ← Lib.cells_of_tab ht he hce hct hd]
/-- A lane as the number that a cell holds. -/
def lane (a : BitVec 64) : Int := (a.toNat : Int)
theorem lane_ofInt (a : BitVec 64) : BitVec.ofInt IntKind.u64.bits (lane a) = a := by
 show BitVec.ofInt 64 (a.toNat : Int) = a
 simp
theorem lane_wrap (a : BitVec 64) : IntKind.u64.wrap ((BitVec.toNat a : Nat) : Int) = lane a := by
 have := a.isLt
 unfold lane IntKind.wrap
 simp only [IntKind.signed, Bool.false_and, Bool.false_eq_true, if_false, IntKind.bits]
 omega
theorem lane_xor (a b : BitVec 64) : bits .xor .u64 (lane a) (lane b) = lane (a ^^^ b) := by
 unfold bits
 simp only [lane_ofInt]
 exact lane_wrap (a ^^^ b)
theorem lane_or (a b : BitVec 64) : bits .or .u64 (lane a) (lane b) = lane (a ||| b) := by
 unfold bits
 simp only [lane_ofInt]
 exact lane_wrap (a ||| b)
theorem lane_and (a b : BitVec 64) : bits .and .u64 (lane a) (lane b) = lane (a &&& b) := by
 unfold bits
 simp only [lane_ofInt]
 exact lane_wrap (a &&& b)
theorem wrap_u64 (z : Int) : IntKind.u64.wrap z = z % 18446744073709551616 := by
 unfold IntKind.wrap
 simp only [IntKind.signed, Bool.false_and, Bool.false_eq_true, if_false]
 rfl
theorem lane_shl (a : BitVec 64) (n : Nat) : IntKind.u64.wrap (lane a * 2 ^ n) = lane (a <<< n) := by
 rw [wrap_u64]
 unfold lane
 rw [BitVec.toNat_shiftLeft, Nat.shiftLeft_eq, Int.natCast_emod, Int.natCast_mul, Int.natCast_pow]
 rfl
theorem lane_shr (a : BitVec 64) (n : Nat) : lane a / 2 ^ n = lane (a >>> n) := by
 unfold lane
 simp only [BitVec.toNat_ushiftRight, Nat.shiftRight_eq_div_pow]
 push_cast
 rfl
theorem turn_spec (w : World) (x : BitVec 64) (n : Nat) (h1 : 1 ≤ n) (h2 : n ≤ 63) :
    Calls Tryz.prog 148 #[.int .u64 (lane x), .int .i64 n] w (Tells w (.int .u64 (lane (turnL x n)))) := by
 go_enter Tryz.func148, Tryz.ntmps148
 go_wp2_with fail
 go_quiet (fail)
 go_wp2_with fail
 go_ret
 rw [lane_shl, lane_shr, lane_or]
 exact ⟨rfl, ⟨rfl, rfl, rfl, Nat.le_refl _, fun _ _ => rfl⟩⟩
theorem nagg_215 (w : World) : (isAgg 215).run Tryz.prog w = .ok false w := by kernel_rfl
theorem size_215 : (Tryz.prog.info? 215).map (·.size) = some 1 := by kernel_rfl
theorem sizeof_215 (w : World) : (sizeOf 215).run Tryz.prog w = .ok 1 w := by kernel_rfl
theorem size_233 : (Tryz.prog.info? 233).map (·.size) = some 5 := by kernel_rfl
theorem zero_233 (w : World) : (zeroValue 233).run Tryz.prog w = .ok (.agg #[.int .u64 0, .int .u64 0, .int .u64 0, .int .u64 0, .int .u64 0]) w := by kernel_rfl
abbrev laneV (a : BitVec 64) : Value := .int .u64 (lane a)
theorem at0_mapL (n : Nat) (f : Nat → BitVec 64) (i : Nat) (h : i < n) : at0 (mapL n f) i = f i := by simp [at0, mapL, List.getD, h]
theorem mapL_ext {n : Nat} {f g : Nat → BitVec 64} (h : ∀ i, i < n → f i = g i) : mapL n f = mapL n g := List.map_congr_left (fun i hi => h i (List.mem_range.1 hi))
theorem mapL_at0 (S : List (BitVec 64)) : mapL S.length (at0 S) = S := by
 apply List.ext_getElem (by simp [mapL])
 intro i h1 h2
 simp [mapL, at0, List.getD, h2]
theorem mapL_set (n : Nat) (f : Nat → BitVec 64) (k : Nat) (v : BitVec 64) : (mapL n f).set k v = mapL n fun i => if i = k then v else f i := by
 apply List.ext_getElem (by simp [mapL])
 intro i h1 h2
 simp only [mapL, List.getElem_set, List.getElem_map, List.getElem_range]
 by_cases h : k = i
 ·subst h; simp
 ·rw [if_neg h, if_neg (fun e => h e.symm)]
theorem goesN_bd : ∀ i, i < 24 → goesN i < 25 := by decide
theorem turnsN_bd : ∀ i, i < 24 → 1 ≤ turnsN i ∧ turnsN i ≤ 63 := by decide
def Tabs (w : World) : Prop := (∀ i, i < 24 → w.cell? ⟨2, i, none⟩ = some (.int .i64 (goesN i))) ∧ (∀ i, i < 24 → w.cell? ⟨3, i, none⟩ = some (.int .i64 (turnsN i))) ∧ ∀ i, i < 24 → w.cell? ⟨4, i, none⟩ = some (.int .u64 (lane (roundB i)))
theorem Tabs.lt {w : World} (h : Tabs w) : 2 < w.heap.size ∧ 3 < w.heap.size ∧ 4 < w.heap.size :=
  ⟨World.block_lt_of_cell? w ⟨2, 0, none⟩ (h.1 0 (by decide)), World.block_lt_of_cell? w ⟨3, 0, none⟩ (h.2.1 0 (by decide)), World.block_lt_of_cell? w ⟨4, 0, none⟩ (h.2.2 0 (by decide))⟩
theorem Tabs.below {w w' : World} {N : Nat} (h : Tabs w) (hb : Below N w w') (h1 : 2 < N) (h2 : 3 < N) (h3 : 4 < N) : Tabs w' :=
  ⟨fun i hi => by rw [hb.cell (p := ⟨2, i, none⟩) h1]; exact h.1 i hi, fun i hi => by rw [hb.cell (p := ⟨3, i, none⟩) h2]; exact h.2.1 i hi, fun i hi => by rw [hb.cell (p := ⟨4, i, none⟩) h3]; exact h.2.2 i hi⟩
def goesV : Array Value := (goesT.map fun i : Nat => Value.int .i64 (i : Int)).toArray
theorem goes_load {w : World} (h : Tabs w) : (Instr.loadAt 235 (.pointer (some ⟨2, 0, none⟩))).run Tryz.prog w = .ok (.agg goesV) w := by
 unfold goesV
 refine run_loadAt_mid (P := Tryz.prog) w 2 0 235 (goesT.map fun i : Nat => Value.int .i64 (i : Int)) (.array 24 3) (fun j v hj => ?_) (by kernel_rfl) rfl (by kernel_rfl)
 have hj' : j < 24 := by
  have := (List.getElem?_eq_some_iff.1 hj).1
  simpa [goesT] using this
 rw [Nat.zero_add, h.1 j hj', ← hj]
 unfold goesN
 rw [List.getElem?_map, List.getD_eq_getElem?_getD]
 have : goesT[j]? = some (goesT[j]'(by simpa [goesT] using hj')) := List.getElem?_eq_getElem _
 rw [this]
 rfl
theorem Tabs.at {w w' : World} (h : Tabs w) (hb : Below w.heap.size w w') : Tabs w' := h.below hb h.lt.1 h.lt.2.1 h.lt.2.2
theorem goes_at {k : Nat} (h : k < 24) : goesV[k]? = some (.int .i64 ((goesN k : Nat) : Int)) := by
 unfold goesV goesN
 have hk : k < goesT.length := by simpa [goesT] using h
 simp [List.getElem?_map, List.getElem?_eq_getElem hk, List.getD_eq_getElem?_getD]
theorem lanes_at {X : List (BitVec 64)} {i : Nat} (h : i < X.length) : (X.map laneV)[i]? = some (laneV (at0 X i)) := by
 simp [at0, List.getElem?_map, List.getElem?_eq_getElem h, List.getD_eq_getElem?_getD]
theorem lanes_set {X : List (BitVec 64)} {j : Nat} {x : BitVec 64} (h : j < X.length) : splice (X.map laneV) j [laneV x] = (X.set j x).map laneV := by
 unfold splice
 rw [List.map_set, List.set_eq_take_append_cons_drop, if_pos (by simpa using h)]
 simp
def cL (S : List (BitVec 64)) (k : Nat) : List (BitVec 64) := mapL 5 fun x => if x < k then colL S x else 0
theorem cL_len (S : List (BitVec 64)) (k : Nat) : (cL S k).length = 5 := mapL_len _ _
theorem cL_step (S : List (BitVec 64)) {k : Nat} (h : k < 5) : (cL S k).set k (colL S k) = cL S (k + 1) := by
 unfold cL
 rw [mapL_set]
 refine mapL_ext fun i hi => ?_
 by_cases e : i = k
 subst e; rw [if_pos rfl, if_pos (by omega)]
 rw [if_neg e]
 by_cases e2 : i < k
 rw [if_pos e2, if_pos (by omega)]
 rw [if_neg e2, if_neg (by omega)]
theorem cL_zero (S : List (BitVec 64)) : cL S 0 = List.replicate 5 0 := by
 unfold cL mapL; rfl
theorem cL_all (S : List (BitVec 64)) : cL S 5 = (List.range 5).map (colL S) := by
 unfold cL
 exact mapL_ext fun i hi => if_pos hi
theorem thL_len (S C : List (BitVec 64)) (k : Nat) : (thL S C k).length = 25 := mapL_len _ _
theorem thL_zero {S C : List (BitVec 64)} (h : S.length = 25) : thL S C 0 = S := by
 unfold thL
 rw [mapL_ext (g := at0 S) (fun i hi => if_neg (by omega))]
 have := mapL_at0 S
 rwa [h] at this
theorem thL_at {S C : List (BitVec 64)} {i : Nat} (h : i < 25) : at0 (thL S C i) i = at0 S i := by
 unfold thL
 rw [at0_mapL _ _ _ h, if_neg (by omega)]
theorem thL_step (S C : List (BitVec 64)) {i : Nat} (h : i < 25) : (thL S C i).set i (thAt S C i) = thL S C (i + 1) := by
 unfold thL
 rw [mapL_set]
 refine mapL_ext fun j hj => ?_
 by_cases e : j = i
 subst e; rw [if_pos rfl, if_pos (by omega)]
 rw [if_neg e]
 by_cases e2 : j < i
 rw [if_pos e2, if_pos (by omega)]
 rw [if_neg e2, if_neg (by omega)]
theorem rhoL_len {A : List (BitVec 64)} (h : A.length = 25) : ∀ k, (rhoL A k).1.length = 25
  | 0 => h
  | k + 1 => by simp [rhoL, rhoL_len h k]
def chiK (B : List (BitVec 64)) (k : Nat) : List (BitVec 64) := mapL 25 fun i => if i < k then chiAt B i else at0 B i
theorem chiK_len (B : List (BitVec 64)) (k : Nat) : (chiK B k).length = 25 := mapL_len _ _
theorem chiK_zero {B : List (BitVec 64)} (h : B.length = 25) : chiK B 0 = B := by
 unfold chiK
 rw [mapL_ext (g := at0 B) (fun i hi => if_neg (by omega))]
 have := mapL_at0 B
 rwa [h] at this
theorem chiK_at {B : List (BitVec 64)} {k i : Nat} (h : k ≤ i) (hi : i < 25) : at0 (chiK B k) i = at0 B i := by
 unfold chiK
 rw [at0_mapL _ _ _ hi, if_neg (by omega)]
theorem chiK_step (B : List (BitVec 64)) {i : Nat} (h : i < 25) : (chiK B i).set i (chiAt B i) = chiK B (i + 1) := by
 unfold chiK
 rw [mapL_set]
 refine mapL_ext fun j hj => ?_
 by_cases e : j = i
 subst e; rw [if_pos rfl, if_pos (by omega)]
 rw [if_neg e]
 by_cases e2 : j < i
 rw [if_pos e2, if_pos (by omega)]
 rw [if_neg e2, if_neg (by omega)]
theorem chiK_all (B : List (BitVec 64)) : chiK B 25 = chiL B := by
 unfold chiK chiL
 exact mapL_ext fun i hi => if_pos hi
section
variable {P : Program} {ρ : Operand → Value} {w : World} {d : Option Tmp} {t X Y E : TypeId} {n : Nat} {pos : String} {after : Array Edge} {guard : Option (Nat × Bool)} {x y : Operand}
theorem ex_ixA {cs : Array Value} {i : Nat} {v : Value} (hX : P.underlying X = some (.array n E)) (hs : (sizeOf E).run P w = .ok 1 w) (hx : ρ x = .agg cs) (hy : ρ y = .int .i64 i) (hi : i < n) (hb : (isAgg E).run P w = .ok false w) (hv : cs[i]? = some v) :
    (execOp ρ ⟨d, .index X x y, t, pos, after, guard⟩).run P w = .ok (.value v) w := by
 have h1 : (0 : Int) ≤ (i : Int) ∧ (i : Int) < (n : Int) := by omega
 simp [execOp, hx, hy, Instr.index, part, Sem.run_bind, run_underlying hX w, asIntOf, hs, h1, hb, hv, hi]
theorem ex_atA {b i : Nat} (hX : P.underlying X = some (.array n E)) (hs : (sizeOf E).run P w = .ok 1 w) (hx : ρ x = .pointer (some ⟨b, 0, none⟩)) (hy : ρ y = .int .i64 i) (hi : i < n) :
    (execOp ρ ⟨d, .indexAddr X x y, t, pos, after, guard⟩).run P w = .ok (.value (.pointer (some ⟨b, i, none⟩))) w := by
 have hadd : (⟨b, 0, none⟩ : Addr).add (i * 1) = ⟨b, i, none⟩ := by rw [Addr.add_mid]; simp
 have hlt : (0 : Int) ≤ (i : Int) ∧ (i : Int) < (n : Int) := by omega
 simp only [Nat.mul_one] at hadd
 simp [execOp, hx, hy, Instr.indexAt, Instr.sureAddr, asIntOf, Sem.run_bind, Sem.run_pure, Result.andThen_ok, run_underlying hX w, hs, hadd, hlt, hi]
theorem ex_xorL {a b : BitVec 64} (hx : ρ x = laneV a) (hy : ρ y = laneV b) : (execOp ρ ⟨d, .binOp .xor X x y Y, t, pos, after, guard⟩).run P w = .ok (.value (laneV (a ^^^ b))) w := by
 refine ex_bin hx hy ?_
 rw [run_binInt _ (by simp)]
 show Result.ok (Value.int .u64 (bits .xor .u64 (lane a) (lane b))) w = _
 rw [lane_xor]
theorem ex_andL {a b : BitVec 64} (hx : ρ x = laneV a) (hy : ρ y = laneV b) : (execOp ρ ⟨d, .binOp .and X x y Y, t, pos, after, guard⟩).run P w = .ok (.value (laneV (a &&& b))) w := by
 refine ex_bin hx hy ?_
 rw [run_binInt _ (by simp)]
 show Result.ok (Value.int .u64 (bits .and .u64 (lane a) (lane b))) w = _
 rw [lane_and]
theorem ex_notL {a : BitVec 64} (hx : ρ x = laneV a) : (execOp ρ ⟨d, .unOp .xor X x, t, pos, after, guard⟩).run P w = .ok (.value (laneV (~~~ a))) w := by
 have e : (18446744073709551615 : Int) = lane (BitVec.allOnes 64) := by decide
 have h : bits .xor .u64 (18446744073709551615 : Int) (lane a) = lane (~~~ a) := by rw [e, lane_xor, BitVec.allOnes_xor]
 simp only [execOp, hx]
 show Result.ok (Next.value (.int .u64 (bits .xor .u64 (18446744073709551615 : Int) (lane a)))) w = _
 rw [h]
theorem ex_remA {m n : Nat} (hx : ρ x = .int .i64 (m : Int)) (hy : ρ y = .int .i64 (n : Int)) (hn : 0 < n) (hm : m ≤ 9223372036854775807) : (execOp ρ ⟨d, .binOp .rem X x y Y, t, pos, after, guard⟩).run P w = .ok (.value (.int .i64 ((m % n : Nat) : Int))) w := by
 refine ex_bin hx hy ?_
 rw [run_binInt _ (by simp)]
 show (Op.intDiv .rem .i64 m n).run P w = _
 unfold Op.intDiv
 rw [if_neg (by omega)]
 show Result.ok (Value.int .i64 (Int.tmod (m : Int) (n : Int))) w = _
 rw [Int.tmod_eq_emod_of_nonneg (by omega)]
 rfl
end
theorem ex_sliceA {P : Program} {ρ : Operand → Value} {w : World} {d : Option Tmp} {t X E : TypeId} {n : Nat} {pos : String} {after : Array Edge} {guard : Option (Nat × Bool)} {x lo hi : Operand} {b l h : Nat} (hX : P.underlying X = some (.array n E)) (hx : ρ x = .pointer (some ⟨b, 0, none⟩)) (hsz : (sizeOf E).run P w = .ok 1 w) (hl : ρ lo = .int .i64 (l : Int)) (hh : ρ hi = .int .i64 (h : Int)) (h1 : l ≤ h) (h2 : h ≤ n) (h3 : l < n) :
    (execOp ρ ⟨d, .slice X x (some lo) (some hi) none, t, pos, after, guard⟩).run P w = .ok (.value (.slice (some ⟨b, l, none⟩) (h - l) (n - l))) w := by
 have b1 : ∀ (z y : Nat) (code : BoundsCode), z ≤ y → (Instr.sliceBound (.int .i64 z) y code).run P w = .ok z w := by
  intro z y code hzy
  have : (0 : Int) ≤ (z : Int) ∧ (z : Int) ≤ (y : Int) := by omega
  simp [Instr.sliceBound, asIntOf, this]
 have hb : (Instr.sliceBounds false n n (some (.int .i64 l)) (some (.int .i64 h)) none).run P w = .ok (l, h, n) w := by
  simp [Instr.sliceBounds, b1 _ _ _ h2, b1 _ _ _ h1]
 have hadd : (⟨b, 0, none⟩ : Addr).add l = ⟨b, l, none⟩ := by have := Addr.add_mid b 0 l; simpa using this
 have hn : ¬ n = l := by omega
 simp [execOp, hx, hl, hh, Instr.sliceAt, Instr.sureAddr, Sem.run_bind, Sem.run_pure, Result.andThen_ok, run_underlying hX w, hb, hsz, hadd, hn]
theorem ex_s2a {P : Program} {ρ : Operand → Value} {w : World} {d : Option Tmp} {t X E : TypeId} {n : Nat} {pos : String} {after : Array Edge} {guard : Option (Nat × Bool)} {x : Operand} {a : Option Addr} {l c : Nat} (hX : P.underlying X = some (.array n E)) (hx : ρ x = .slice a l c) (hl : n ≤ l) :
    (execOp ρ ⟨d, .sliceToArrayPointer X x, t, pos, after, guard⟩).run P w = .ok (.value (.pointer a)) w := by
 have : ¬ l < n := by omega
 simp [execOp, hx, Instr.arrayAt, Sem.run_bind, Sem.run_pure, run_underlying hX w, this]
theorem St.cellsAt {w0 w : World} {F0 F : Fz} {L : List Blk} {M : List RowP} (S : St w0 F0 w F L M) {i : Nat} {n : Nat} {c : List Value} {t : TypeId} (h : L[i]? = some ⟨n, c, t⟩) : ∀ j v, c[j]? = some v → w.cell? ⟨n, j, none⟩ = some v := fun j v hv => St.cell S h hv
theorem row_load {w : World} {n : Nat} {X : List (BitVec 64)} {y : Nat} (h : ∀ (j : Nat) v, (X.map laneV)[j]? = some v → w.cell? ⟨n, j, none⟩ = some v) (hy : y + 5 ≤ X.length) :
    (Instr.loadAt 233 (.pointer (some ⟨n, y, none⟩))).run Tryz.prog w = .ok (.agg #[laneV (at0 X y), laneV (at0 X (y + 1)), laneV (at0 X (y + 2)), laneV (at0 X (y + 3)), laneV (at0 X (y + 4))]) w := by
 refine run_loadAt_mid (P := Tryz.prog) w n y 233 [laneV (at0 X y), laneV (at0 X (y + 1)), laneV (at0 X (y + 2)), laneV (at0 X (y + 3)), laneV (at0 X (y + 4))] (.array 5 215) (fun j v hj => ?_) (by kernel_rfl) rfl (by kernel_rfl)
 refine h _ _ ?_
 have hj5 : j < 5 := by have := (List.getElem?_eq_some_iff.1 hj).1; simpa using this
 rw [lanes_at (by omega), ← hj]
 rcases (by omega : j = 0 ∨ j = 1 ∨ j = 2 ∨ j = 3 ∨ j = 4) with rfl | rfl | rfl | rfl | rfl <;> rfl
theorem rho_one (A : List (BitVec 64)) (k : Nat) : (rhoL A k).1.set (goesN k) (turnL (rhoL A k).2 (turnsN k)) = (rhoL A (k + 1)).1 := rfl
def rowL (Q : List (BitVec 64)) (y : Nat) : List (BitVec 64) := [at0 Q y, at0 Q (y + 1), at0 Q (y + 2), at0 Q (y + 3), at0 Q (y + 4)]
theorem rowL_len (Q : List (BitVec 64)) (y : Nat) : (rowL Q y).length = 5 := rfl
theorem rowL_at {Q : List (BitVec 64)} {y x : Nat} (h : x < 5) : at0 (rowL Q y) x = at0 Q (y + x) := by
 rcases (by omega : x = 0 ∨ x = 1 ∨ x = 2 ∨ x = 3 ∨ x = 4) with rfl | rfl | rfl | rfl | rfl <;> rfl
theorem rowL_chi {Q : List (BitVec 64)} {y : Nat} (h : y + 5 ≤ 25) : rowL (chiK Q y) y = rowL Q y := by
 unfold rowL
 rw [chiK_at (by omega) (by omega), chiK_at (by omega) (by omega), chiK_at (by omega) (by omega), chiK_at (by omega) (by omega), chiK_at (by omega) (by omega)]
theorem chi_row {Q : List (BitVec 64)} {y x : Nat} (hy : y % 5 = 0) (hx : x < 5) : at0 (rowL Q y) x ^^^ (~~~ (at0 (rowL Q y) ((x + 1) % 5)) &&& at0 (rowL Q y) ((x + 2) % 5)) = chiAt Q (y + x) := by
 unfold chiAt
 rw [rowL_at hx, rowL_at (by omega), rowL_at (by omega), show (y + x) / 5 * 5 = y from by omega, show (y + x) % 5 = x from by omega]
theorem res_0 {fn : Func} {tmps : Array Value} {P : Program} {w : World} (h : fn.results = #[]) : (results fn tmps).run P w = .ok (.tuple #[]) w := by simp [results, h]
theorem stir_spec {w0 w : World} {F0 F : Fz} {L0 : List Blk} {M0 : List RowP} {rb r : Nat} {Z : List (BitVec 64)} (S : St w0 F0 w F (⟨rb, Z.map laneV, 217⟩ :: L0) M0) (hl : Z.length = 25) (hT : Tabs w0) (hr : r < 24) :
    Calls Tryz.prog 138 #[.pointer (some ⟨rb, 0, none⟩), .int .i64 ((r : Nat) : Int)] w fun e w' => e = .returned (.tuple #[]) ∧ St w0 F0 w' F (⟨rb, (stirL Z r).map laneV, 217⟩ :: L0) M0 := by
 go_enter Tryz.func138, Tryz.ntmps138
 refine sk fun K1 hK1 => ?_
 refine sA S (zero_233 _) fun n2 w3 S4 => ?_
 refine wn hK1 ?_
 refine wp_seq_k (fun K5 hK5 => ?_)
 refine sk fun K6 hK6 => ?_
 refine dx ?_
 refine wn hK6 ?_
 refine wp_block ?_
 have S4 : St w0 F0 w3 F (⟨n2, ((cL Z 0).map laneV), 233⟩ :: ⟨rb, (Z.map laneV), 217⟩ :: L0) (M0) := by rw [cL_zero]; exact S4
 refine wp_loop_g (fun mm aa w8 => ∃ (k1 : Nat) (u7 : Nat → Value), mm = 5 - k1 ∧ u7 = slots aa ∧ aa = ⟨#[(pP rb 0), (nI r), undef, undef, (pP n2 0), (u7 5), undef, undef, undef, undef, undef, undef, undef, undef, (nI k1), (u7 15), (u7 16), (u7 17), (u7 18), (u7 19), (u7 20), (u7 21), (u7 22), (u7 23), (u7 24), (u7 25), (u7 26), (u7 27), (u7 28), (u7 29), (u7 30), (u7 31), (u7 32), (u7 33), (u7 34), (u7 35), (u7 36), (u7 37), (u7 38), (u7 39), (u7 40), (u7 41), (u7 42), (u7 43), (u7 44), (u7 45), (u7 46), (u7 47), (u7 48), (u7 49), (u7 50), (u7 51), (u7 52), undef, undef, undef, undef, undef, undef, undef, undef, undef, undef, undef, undef, undef, undef, undef, undef, undef, undef, undef, undef, undef, undef, undef, undef, undef, undef, undef, undef, undef, undef, undef, undef, undef, undef, undef, undef, undef, undef, undef, undef, undef, undef, undef, undef, undef, undef, undef, undef, undef, undef, undef, undef, undef, undef, undef, undef, undef, undef, undef, undef, undef, undef, undef, undef, undef, undef, undef, undef, undef, undef, undef, undef, undef, undef, undef, undef, undef, undef, undef, undef, undef, undef, undef, undef, undef, undef, undef, undef, undef, undef, undef, undef, undef, undef, undef, undef, undef, undef], []⟩ ∧ St w0 F0 w8 F (⟨n2, ((cL Z k1).map laneV), 233⟩ :: ⟨rb, (Z.map laneV), 217⟩ :: L0) (M0) ∧ (k1 ≤ 5)) _ ⟨0, _, rfl, rfl, rfl, S4, (by omega)⟩ ?_
 rintro m9 a10 w11 ⟨k1, u7, rfl, -, rfl, S12, hk1⟩ K14 hK14
 refine sk fun K15 hK15 => ?_
 by_cases hc15 : k1 < 5
 refine lssT ?_
 simp only [pq]
 refine wn hK15 ?_
 refine wp_seq_k (fun K16 hK16 => ?_)
 refine wp_cond_true rfl ?_
 refine wp_skip ?_
 refine hK16 _ _ ?_
 refine wp_seq_k (fun K17 hK17 => ?_)
 refine wp_block ?_
 refine sk fun K18 hK18 => ?_
 refine dx ?_
 refine dy ?_
 refine wn hK18 ?_
 refine region_gw F 34 [] (by kernel_rfl) (by kernel_rfl) ?_
 simp only [List.take_succ_cons, List.take_zero]
 refine gm ?_
 simp only [pq]
 iterate 2 refine gm ?_
 refine gi ?_
 simp only [pq]
 refine gv (pP rb k1) (fun _ _ => ex_atA (i := k1) Tryz.underlying217 (sizeof_215 _) rfl rfl (by omega)) ?_
 refine gv _ (fun _ C19 => ex_load rfl (load1 (nagg_215 _) (St.cell (St.tells S12 C19) (i := 1) rfl (lanes_at (Nat.lt_of_lt_of_eq (show k1 < 25 by omega) hl.symm))))) ?_
 refine gm ?_
 simp only [pq]
 refine gm ?_
 refine gv (nI (k1 + 5)) (fun _ _ => ex_add (m := ((k1 : Nat) : Int)) (n := (5 : Int)) (r := (((k1 + 5) : Nat) : Int)) rfl rfl (by omega) (by omega) (by omega)) ?_
 refine gi ?_
 simp only [pq]
 refine gv (pP rb ((k1 + 5))) (fun _ _ => ex_atA (i := (k1 + 5)) Tryz.underlying217 (sizeof_215 _) rfl rfl (by omega)) ?_
 refine gv _ (fun _ C19 => ex_load rfl (load1 (nagg_215 _) (St.cell (St.tells S12 C19) (i := 1) rfl (lanes_at (Nat.lt_of_lt_of_eq (show (k1 + 5) < 25 by omega) hl.symm))))) ?_
 refine gv (laneV ((at0 Z k1) ^^^ (at0 Z (k1 + 5)))) (fun _ _ => ex_xorL rfl rfl) ?_
 simp only [pq]
 iterate 2 refine gm ?_
 refine gv (nI (k1 + 10)) (fun _ _ => ex_add (m := ((k1 : Nat) : Int)) (n := (10 : Int)) (r := (((k1 + 10) : Nat) : Int)) rfl rfl (by omega) (by omega) (by omega)) ?_
 simp only [pq]
 refine gi ?_
 refine gv (pP rb ((k1 + 10))) (fun _ _ => ex_atA (i := (k1 + 10)) Tryz.underlying217 (sizeof_215 _) rfl rfl (by omega)) ?_
 refine gv _ (fun _ C19 => ex_load rfl (load1 (nagg_215 _) (St.cell (St.tells S12 C19) (i := 1) rfl (lanes_at (Nat.lt_of_lt_of_eq (show (k1 + 10) < 25 by omega) hl.symm))))) ?_
 simp only [pq]
 refine gv (laneV (((at0 Z k1) ^^^ (at0 Z (k1 + 5))) ^^^ (at0 Z (k1 + 10)))) (fun _ _ => ex_xorL rfl rfl) ?_
 iterate 2 refine gm ?_
 simp only [pq]
 refine gv (nI (k1 + 15)) (fun _ _ => ex_add (m := ((k1 : Nat) : Int)) (n := (15 : Int)) (r := (((k1 + 15) : Nat) : Int)) rfl rfl (by omega) (by omega) (by omega)) ?_
 refine gi ?_
 refine gv (pP rb ((k1 + 15))) (fun _ _ => ex_atA (i := (k1 + 15)) Tryz.underlying217 (sizeof_215 _) rfl rfl (by omega)) ?_
 simp only [pq]
 refine gv _ (fun _ C19 => ex_load rfl (load1 (nagg_215 _) (St.cell (St.tells S12 C19) (i := 1) rfl (lanes_at (Nat.lt_of_lt_of_eq (show (k1 + 15) < 25 by omega) hl.symm))))) ?_
 refine gv (laneV ((((at0 Z k1) ^^^ (at0 Z (k1 + 5))) ^^^ (at0 Z (k1 + 10))) ^^^ (at0 Z (k1 + 15)))) (fun _ _ => ex_xorL rfl rfl) ?_
 refine gm ?_
 simp only [pq]
 refine gm ?_
 refine gv (nI (k1 + 20)) (fun _ _ => ex_add (m := ((k1 : Nat) : Int)) (n := (20 : Int)) (r := (((k1 + 20) : Nat) : Int)) rfl rfl (by omega) (by omega) (by omega)) ?_
 refine gi ?_
 simp only [pq]
 refine gv (pP rb ((k1 + 20))) (fun _ _ => ex_atA (i := (k1 + 20)) Tryz.underlying217 (sizeof_215 _) rfl rfl (by omega)) ?_
 refine gv _ (fun _ C19 => ex_load rfl (load1 (nagg_215 _) (St.cell (St.tells S12 C19) (i := 1) rfl (lanes_at (Nat.lt_of_lt_of_eq (show (k1 + 20) < 25 by omega) hl.symm))))) ?_
 refine gv (laneV (((((at0 Z k1) ^^^ (at0 Z (k1 + 5))) ^^^ (at0 Z (k1 + 10))) ^^^ (at0 Z (k1 + 15))) ^^^ (at0 Z (k1 + 20)))) (fun _ _ => ex_xorL rfl rfl) ?_
 simp only [pq]
 refine gw_nil ?_
 intro w20 hC22 hF23
 clear hF23
 have S21 := St.tells S12 hC22
 simp only [List.drop_succ_cons, List.drop_zero]
 refine dr (pP n2 k1) (ex_atA (i := k1) Tryz.underlying233 (sizeof_215 _) rfl rfl (by omega)) ?_
 refine stStore (i := 0) (v := laneV (((((at0 Z k1) ^^^ (at0 Z (k1 + 5))) ^^^ (at0 Z (k1 + 10))) ^^^ (at0 Z (k1 + 15))) ^^^ (at0 Z (k1 + 20)))) S21 rfl rfl rfl rfl (size_215) (allc1 rfl) (by rw [List.length_map, (cL_len _ _)]; show k1 + 1 ≤ 5; omega) (fun w24 S25 => ?_)
 simp only [pq]
 have S25 : St w0 F0 w24 F (⟨n2, (splice ((cL Z k1).map laneV) k1 [laneV (((((at0 Z k1) ^^^ (at0 Z (k1 + 5))) ^^^ (at0 Z (k1 + 10))) ^^^ (at0 Z (k1 + 15))) ^^^ (at0 Z (k1 + 20)))]), 233⟩ :: ⟨rb, (Z.map laneV), 217⟩ :: L0) (M0) := S25
 rw [lanes_set (Nat.lt_of_lt_of_eq (show k1 < 5 by omega) (cL_len _ _).symm)] at S25
 have S25 : St w0 F0 w24 F (⟨n2, (((cL Z k1).set k1 (colL Z k1)).map laneV), 233⟩ :: ⟨rb, (Z.map laneV), 217⟩ :: L0) (M0) := S25
 rw [cL_step Z (by omega)] at S25
 refine wl_nil (hK17 _ _ ?_)
 refine region_wl ?_
 refine dAdd (k1 + 1) ?_
 refine dx ?_
 refine wl_nil ?_
 exact hK14 _ _ _ (by omega) ⟨(k1 + 1), _, rfl, rfl, rfl, S25, (by omega)⟩
 refine lssF ?_
 simp only [pq]
 refine wn hK15 ?_
 refine wp_seq_k (fun K26 hK26 => ?_)
 refine wp_cond_false rfl ?_
 refine wp_exit ?_
 refine hK5 _ _ ?_
 refine wp_seq_k (fun K27 hK27 => ?_)
 refine wp_seq_k (fun K28 hK28 => ?_)
 obtain rfl : k1 = 5 := by omega
 refine region_wl ?_
 refine dx ?_
 refine wl_nil (hK28 _ _ ?_)
 refine wp_block ?_
 have S12 : St w0 F0 w11 F (⟨n2, ((cL Z 5).map laneV), 233⟩ :: ⟨rb, ((thL Z (cL Z 5) 0).map laneV), 217⟩ :: L0) (M0) := by rw [thL_zero hl]; exact S12
 refine wp_loop_g (fun mm aa w30 => ∃ (k2 : Nat) (u29 : Nat → Value), mm = 25 - k2 ∧ u29 = slots aa ∧ aa = ⟨#[(pP rb 0), (nI r), undef, undef, (pP n2 0), (u7 5), (u29 6), (u29 7), undef, undef, undef, undef, undef, undef, (iI 5), bF, (u7 16), (u7 17), (u7 18), (u7 19), (u7 20), (u7 21), (u7 22), (u7 23), (u7 24), (u7 25), (u7 26), (u7 27), (u7 28), (u7 29), (u7 30), (u7 31), (u7 32), (u7 33), (u7 34), (u7 35), (u7 36), (u7 37), (u7 38), (u7 39), (u7 40), (u7 41), (u7 42), (u7 43), (u7 44), (u7 45), (u7 46), (u7 47), (u7 48), (u7 49), (u7 50), (u7 51), (u7 52), (nI k2), (u29 54), (u29 55), (u29 56), (u29 57), (u29 58), (u29 59), (u29 60), (u29 61), (u29 62), (u29 63), (u29 64), (u29 65), (u29 66), (u29 67), (u29 68), (u29 69), (u29 70), (u29 71), (u29 72), (u29 73), (u29 74), (u29 75), (u29 76), (u29 77), (u29 78), undef, undef, undef, undef, undef, undef, undef, undef, undef, undef, undef, undef, undef, undef, undef, undef, undef, undef, undef, undef, undef, undef, undef, undef, undef, undef, undef, undef, undef, undef, undef, undef, undef, undef, undef, undef, undef, undef, undef, undef, undef, undef, undef, undef, undef, undef, undef, undef, undef, undef, undef, undef, undef, undef, undef, undef, undef, undef, undef, undef, undef, undef, undef, undef, undef, undef, undef, undef, undef, undef, undef, undef], []⟩ ∧ St w0 F0 w30 F (⟨n2, ((cL Z 5).map laneV), 233⟩ :: ⟨rb, ((thL Z (cL Z 5) k2).map laneV), 217⟩ :: L0) (M0) ∧ (k2 ≤ 25)) _ ⟨0, _, rfl, rfl, rfl, S12, (by omega)⟩ ?_
 rintro m31 a32 w33 ⟨k2, u29, rfl, -, rfl, S34, hk2⟩ K36 hK36
 refine sk fun K37 hK37 => ?_
 by_cases hc54 : k2 < 25
 refine lssT ?_
 refine wn hK37 ?_
 refine wp_seq_k (fun K38 hK38 => ?_)
 refine wp_cond_true rfl ?_
 refine wp_skip ?_
 refine hK38 _ _ ?_
 refine wp_seq_k (fun K39 hK39 => ?_)
 refine wp_block ?_
 refine sk fun K40 hK40 => ?_
 refine dx ?_
 refine dy ?_
 simp only [pq]
 refine wn hK40 ?_
 refine sk fun K41 hK41 => ?_
 refine dx ?_
 refine dr (nI (k2 % 5)) (ex_remA (m := k2) (n := 5) rfl rfl (by decide) (by omega)) ?_
 refine dy ?_
 simp only [pq]
 refine wn hK41 ?_
 refine region_gw F 19 [(15, .is (laneV (turnL (at0 (cL Z 5) (((k2 % 5) + 1) % 5)) 1)))] (by kernel_rfl) (by kernel_rfl) ?_
 simp only [List.take_succ_cons, List.take_zero]
 iterate 2 refine gm ?_
 refine gi ?_
 simp only [pq]
 refine gv (pP rb k2) (fun _ _ => ex_atA (i := k2) Tryz.underlying217 (sizeof_215 _) rfl rfl (by omega)) ?_
 refine gv _ (fun _ C42 => ex_load rfl (load1 (nagg_215 _) (St.cell (St.tells S34 C42) (i := 1) rfl (lanes_at (Nat.lt_of_lt_of_eq (show k2 < 25 by omega) (thL_len _ _ _).symm))))) ?_
 refine gm ?_
 simp only [pq]
 refine gv (nI ((k2 % 5) + 4)) (fun _ _ => ex_add (m := (((k2 % 5) : Nat) : Int)) (n := (4 : Int)) (r := ((((k2 % 5) + 4) : Nat) : Int)) rfl rfl (by omega) (by omega) (by omega)) ?_
 refine gv (.int .i64 (((((k2 % 5) + 4) % 5) : Nat) : Int)) (fun _ _ => ex_remA (m := ((k2 % 5) + 4)) (n := 5) rfl rfl (by decide) (by omega)) ?_
 refine gv (pP n2 ((((k2 % 5) + 4) % 5))) (fun _ _ => ex_atA (i := (((k2 % 5) + 4) % 5)) Tryz.underlying233 (sizeof_215 _) rfl rfl (by omega)) ?_
 simp only [pq]
 refine gv _ (fun _ C42 => ex_load rfl (load1 (nagg_215 _) (St.cell (St.tells S34 C42) (i := 0) rfl (lanes_at (Nat.lt_of_lt_of_eq (show (((k2 % 5) + 4) % 5) < 5 by omega) (cL_len _ _).symm))))) ?_
 refine gm ?_
 refine gv (nI ((k2 % 5) + 1)) (fun _ _ => ex_add (m := (((k2 % 5) : Nat) : Int)) (n := (1 : Int)) (r := ((((k2 % 5) + 1) : Nat) : Int)) rfl rfl (by omega) (by omega) (by omega)) ?_
 simp only [pq]
 refine gv (.int .i64 (((((k2 % 5) + 1) % 5) : Nat) : Int)) (fun _ _ => ex_remA (m := ((k2 % 5) + 1)) (n := 5) rfl rfl (by decide) (by omega)) ?_
 refine gv (pP n2 ((((k2 % 5) + 1) % 5))) (fun _ _ => ex_atA (i := (((k2 % 5) + 1) % 5)) Tryz.underlying233 (sizeof_215 _) rfl rfl (by omega)) ?_
 refine gv _ (fun _ C42 => ex_load rfl (load1 (nagg_215 _) (St.cell (St.tells S34 C42) (i := 0) rfl (lanes_at (Nat.lt_of_lt_of_eq (show (((k2 % 5) + 1) % 5) < 5 by omega) (cL_len _ _).symm))))) ?_
 simp only [pq]
 refine gw_const rfl rfl (v := (laneV (turnL (at0 (cL Z 5) (((k2 % 5) + 1) % 5)) 1))) (fun w42 C42 _ => does_call (ex_fn (vs := #[(laneV (at0 (cL Z 5) (((k2 % 5) + 1) % 5))), (iI 1)]) (map2 rfl rfl) rfl (ent_148 _ _)) (call_tells (turn_spec _ (at0 (cL Z 5) (((k2 % 5) + 1) % 5)) 1 (by decide) (by decide)))) ?_
 refine gv (laneV ((at0 (cL Z 5) (((k2 % 5) + 4) % 5)) ^^^ (turnL (at0 (cL Z 5) (((k2 % 5) + 1) % 5)) 1))) (fun _ _ => ex_xorL rfl rfl) ?_
 refine gv (laneV ((at0 (thL Z (cL Z 5) k2) k2) ^^^ ((at0 (cL Z 5) (((k2 % 5) + 4) % 5)) ^^^ (turnL (at0 (cL Z 5) (((k2 % 5) + 1) % 5)) 1)))) (fun _ _ => ex_xorL rfl rfl) ?_
 refine gi ?_
 simp only [pq]
 refine gw_nil ?_
 intro w43 hC45 hF46
 clear hF46
 have S44 := St.tells S34 hC45
 simp only [List.drop_succ_cons, List.drop_zero]
 refine dr (pP rb k2) (ex_atA (i := k2) Tryz.underlying217 (sizeof_215 _) rfl rfl (by omega)) ?_
 refine stStore (i := 1) (v := laneV ((at0 (thL Z (cL Z 5) k2) k2) ^^^ ((at0 (cL Z 5) (((k2 % 5) + 4) % 5)) ^^^ (turnL (at0 (cL Z 5) (((k2 % 5) + 1) % 5)) 1)))) S44 rfl rfl rfl rfl (size_215) (allc1 rfl) (by rw [List.length_map, (thL_len _ _ _)]; show k2 + 1 ≤ 25; omega) (fun w47 S48 => ?_)
 simp only [pq]
 have S48 : St w0 F0 w47 F (⟨n2, ((cL Z 5).map laneV), 233⟩ :: ⟨rb, (splice ((thL Z (cL Z 5) k2).map laneV) k2 [laneV ((at0 (thL Z (cL Z 5) k2) k2) ^^^ ((at0 (cL Z 5) (((k2 % 5) + 4) % 5)) ^^^ (turnL (at0 (cL Z 5) (((k2 % 5) + 1) % 5)) 1)))]), 217⟩ :: L0) (M0) := S48
 rw [lanes_set (Nat.lt_of_lt_of_eq (show k2 < 25 by omega) (thL_len _ _ _).symm)] at S48
 rw [thL_at (S := Z) (C := (cL Z 5)) (i := k2) (by omega)] at S48
 have S48 : St w0 F0 w47 F (⟨n2, ((cL Z 5).map laneV), 233⟩ :: ⟨rb, (((thL Z (cL Z 5) k2).set k2 (thAt Z (cL Z 5) k2)).map laneV), 217⟩ :: L0) (M0) := S48
 rw [thL_step Z _ (by omega)] at S48
 refine wl_nil (hK39 _ _ ?_)
 refine region_wl ?_
 refine dAdd (k2 + 1) ?_
 refine dx ?_
 refine wl_nil ?_
 exact hK36 _ _ _ (by omega) ⟨(k2 + 1), _, rfl, rfl, rfl, S48, (by omega)⟩
 refine lssF ?_
 simp only [pq]
 refine wn hK37 ?_
 refine wp_seq_k (fun K49 hK49 => ?_)
 refine wp_cond_false rfl ?_
 refine wp_exit ?_
 refine hK27 _ _ ?_
 refine wp_seq_k (fun K50 hK50 => ?_)
 obtain rfl : k2 = 25 := by omega
 obtain ⟨A, hA⟩ : ∃ A, A = thL Z (cL Z 5) 25 := ⟨_, rfl⟩
 have hAl : A.length = 25 := by rw [hA]; exact thL_len _ _ _
 rw [← hA] at S34
 refine region_wl ?_
 refine dx ?_
 refine di ?_
 refine dr (pP rb 1) (ex_atA (i := 1) Tryz.underlying217 (sizeof_215 _) rfl rfl (by omega)) ?_
 simp only [pq]
 refine dr _ (ex_load rfl (load1 (nagg_215 _) (St.cell S34 (i := 1) rfl (lanes_at (Nat.lt_of_lt_of_eq (show 1 < 25 by omega) hAl.symm))))) ?_
 refine dy ?_
 refine wl_nil (hK50 _ _ ?_)
 refine wp_seq_k (fun K51 hK51 => ?_)
 refine sk fun K52 hK52 => ?_
 refine dr (.agg goesV) (ex_load rfl (goes_load (hT.at S34.gr.below))) ?_
 refine dx ?_
 simp only [pq]
 refine wn hK52 ?_
 refine wp_block ?_
 refine wp_loop_g (fun mm aa w54 => ∃ (k3 : Nat) (u53 : Nat → Value), mm = 24 - k3 ∧ u53 = slots aa ∧ aa = ⟨#[(pP rb 0), (nI r), undef, undef, (pP n2 0), (u7 5), (u29 6), (u29 7), (laneV (rhoL A k3).2), (u53 9), (u53 10), undef, undef, undef, (iI 5), bF, (u7 16), (u7 17), (u7 18), (u7 19), (u7 20), (u7 21), (u7 22), (u7 23), (u7 24), (u7 25), (u7 26), (u7 27), (u7 28), (u7 29), (u7 30), (u7 31), (u7 32), (u7 33), (u7 34), (u7 35), (u7 36), (u7 37), (u7 38), (u7 39), (u7 40), (u7 41), (u7 42), (u7 43), (u7 44), (u7 45), (u7 46), (u7 47), (u7 48), (u7 49), (u7 50), (u7 51), (u7 52), (iI 25), bF, (u29 55), (u29 56), (u29 57), (u29 58), (u29 59), (u29 60), (u29 61), (u29 62), (u29 63), (u29 64), (u29 65), (u29 66), (u29 67), (u29 68), (u29 69), (u29 70), (u29 71), (u29 72), (u29 73), (u29 74), (u29 75), (u29 76), (u29 77), (u29 78), (pP rb 0), (pP rb 0), (pP rb 1), (laneV (at0 A 1)), (.agg goesV), (nI k3), (u53 85), (u53 86), (u53 87), (u53 88), (u53 89), (u53 90), (u53 91), (u53 92), (u53 93), (u53 94), (u53 95), (u53 96), (u53 97), (u53 98), (u53 99), (u53 100), (u53 101), (u53 102), undef, undef, undef, undef, undef, undef, undef, undef, undef, undef, undef, undef, undef, undef, undef, undef, undef, undef, undef, undef, undef, undef, undef, undef, undef, undef, undef, undef, undef, undef, undef, undef, undef, undef, undef, undef, undef, undef, undef, undef, undef, undef, undef, undef, undef, undef, undef, undef], []⟩ ∧ St w0 F0 w54 F (⟨n2, ((cL Z 5).map laneV), 233⟩ :: ⟨rb, ((rhoL A k3).1.map laneV), 217⟩ :: L0) (M0) ∧ (k3 ≤ 24)) _ ⟨0, _, rfl, rfl, rfl, S34, (by omega)⟩ ?_
 rintro m55 a56 w57 ⟨k3, u53, rfl, -, rfl, S58, hk3⟩ K60 hK60
 refine sk fun K61 hK61 => ?_
 by_cases hc85 : k3 < 24
 refine lssT ?_
 refine wn hK61 ?_
 refine wp_seq_k (fun K62 hK62 => ?_)
 refine wp_cond_true rfl ?_
 refine wp_skip ?_
 refine hK62 _ _ ?_
 refine wp_seq_k (fun K63 hK63 => ?_)
 refine wp_block ?_
 refine wp_seq_k (fun K64 hK64 => ?_)
 have hgo := goesN_bd k3 (by omega)
 refine region_wl ?_
 refine dx ?_
 refine dr (nI (goesN k3)) (ex_ixA (i := k3) Tryz.underlying235 (sizeof_3 _) rfl rfl (by omega) (nagg_3 _) (goes_at (by omega))) ?_
 refine dy ?_
 simp only [pq]
 refine dy ?_
 refine wl_nil (hK64 _ _ ?_)
 refine region_gw F 13 [(6, .is (laneV (turnL ((rhoL A k3).2) (turnsN k3))))] (by kernel_rfl) (by kernel_rfl) ?_
 simp only [List.take_succ_cons, List.take_zero]
 iterate 2 refine gm ?_
 simp only [pq]
 iterate 2 refine gm ?_
 refine gv (pP 3 k3) (fun _ _ => ex_atA (i := k3) Tryz.underlying235 (sizeof_3 _) rfl rfl (by omega)) ?_
 simp only [pq]
 refine gv _ (fun _ C65 => ex_load rfl (load1 (nagg_3 _) (((hT.at (St.tells S58 C65).gr.below).2.1 k3 (by omega))))) ?_
 simp only [pq]
 refine gw_const rfl rfl (v := (laneV (turnL ((rhoL A k3).2) (turnsN k3)))) (fun w65 C65 _ => does_call (ex_fn (vs := #[(laneV (rhoL A k3).2), (nI (turnsN k3))]) (map2 rfl rfl) rfl (ent_148 _ _)) (call_tells (turn_spec _ ((rhoL A k3).2) (turnsN k3) (turnsN_bd _ (by omega)).1 (turnsN_bd _ (by omega)).2))) ?_
 iterate 2 refine gm ?_
 refine gi ?_
 simp only [pq]
 refine gv (pP rb ((goesN k3))) (fun _ _ => ex_atA (i := (goesN k3)) Tryz.underlying217 (sizeof_215 _) rfl rfl (by omega)) ?_
 refine gv _ (fun _ C65 => ex_load rfl (load1 (nagg_215 _) (St.cell (St.tells S58 C65) (i := 1) rfl (lanes_at (Nat.lt_of_lt_of_eq (show (goesN k3) < 25 by omega) (rhoL_len hAl _).symm))))) ?_
 refine gi ?_
 simp only [pq]
 refine gw_nil ?_
 intro w66 hC68 hF69
 clear hF69
 have S67 := St.tells S58 hC68
 simp only [List.drop_succ_cons, List.drop_zero]
 refine dr (pP rb ((goesN k3))) (ex_atA (i := (goesN k3)) Tryz.underlying217 (sizeof_215 _) rfl rfl (by omega)) ?_
 refine stStore (i := 1) (v := laneV (turnL ((rhoL A k3).2) (turnsN k3))) S67 rfl rfl rfl rfl (size_215) (allc1 rfl) (by rw [List.length_map, (rhoL_len hAl _)]; show (goesN k3) + 1 ≤ 25; omega) (fun w70 S71 => ?_)
 simp only [pq]
 have S71 : St w0 F0 w70 F (⟨n2, ((cL Z 5).map laneV), 233⟩ :: ⟨rb, (splice (((rhoL A k3).1).map laneV) (goesN k3) [laneV (turnL ((rhoL A k3).2) (turnsN k3))]), 217⟩ :: L0) (M0) := S71
 rw [lanes_set (Nat.lt_of_lt_of_eq (show (goesN k3) < 25 by omega) (rhoL_len hAl _).symm)] at S71
 rw [rho_one] at S71
 refine dy ?_
 refine wl_nil (hK63 _ _ ?_)
 refine region_wl ?_
 refine dAdd (k3 + 1) ?_
 refine dx ?_
 simp only [pq]
 refine wl_nil ?_
 exact hK60 _ _ _ (by omega) ⟨(k3 + 1), _, rfl, rfl, rfl, S71, (by omega)⟩
 refine lssF ?_
 refine wn hK61 ?_
 refine wp_seq_k (fun K72 hK72 => ?_)
 refine wp_cond_false rfl ?_
 refine wp_exit ?_
 refine hK51 _ _ ?_
 refine wp_seq_k (fun K73 hK73 => ?_)
 refine wp_seq_k (fun K74 hK74 => ?_)
 obtain rfl : k3 = 24 := by omega
 obtain ⟨Q, hQ⟩ : ∃ Q, Q = (rhoL A 24).1 := ⟨_, rfl⟩
 have hQl : Q.length = 25 := by rw [hQ]; exact rhoL_len hAl _
 rw [← hQ] at S58
 refine region_wl ?_
 refine dy ?_
 refine wl_nil (hK74 _ _ ?_)
 refine wp_block ?_
 have S58 : St w0 F0 w57 F (⟨n2, ((cL Z 5).map laneV), 233⟩ :: ⟨rb, ((chiK Q 0).map laneV), 217⟩ :: L0) (M0) := by rw [chiK_zero hQl]; exact S58
 refine wp_loop_g (fun mm aa w76 => ∃ (y : Nat) (u75 : Nat → Value), mm = 25 - y ∧ u75 = slots aa ∧ aa = ⟨#[(pP rb 0), (nI r), undef, undef, (pP n2 0), (u7 5), (u29 6), (u29 7), (laneV (rhoL A 24).2), (u53 9), (u53 10), (nI y), (u75 12), (u75 13), (iI 5), bF, (u7 16), (u7 17), (u7 18), (u7 19), (u7 20), (u7 21), (u7 22), (u7 23), (u7 24), (u7 25), (u7 26), (u7 27), (u7 28), (u7 29), (u7 30), (u7 31), (u7 32), (u7 33), (u7 34), (u7 35), (u7 36), (u7 37), (u7 38), (u7 39), (u7 40), (u7 41), (u7 42), (u7 43), (u7 44), (u7 45), (u7 46), (u7 47), (u7 48), (u7 49), (u7 50), (u7 51), (u7 52), (iI 25), bF, (u29 55), (u29 56), (u29 57), (u29 58), (u29 59), (u29 60), (u29 61), (u29 62), (u29 63), (u29 64), (u29 65), (u29 66), (u29 67), (u29 68), (u29 69), (u29 70), (u29 71), (u29 72), (u29 73), (u29 74), (u29 75), (u29 76), (u29 77), (u29 78), (pP rb 0), (pP rb 0), (pP rb 1), (laneV (at0 A 1)), (.agg goesV), (iI 24), bF, (u53 86), (u53 87), (u53 88), (u53 89), (u53 90), (u53 91), (u53 92), (u53 93), (u53 94), (u53 95), (u53 96), (u53 97), (u53 98), (u53 99), (u53 100), (u53 101), (u53 102), (u75 103), (u75 104), (u75 105), (u75 106), (u75 107), (u75 108), (u75 109), (u75 110), (u75 111), (u75 112), (u75 113), (u75 114), (u75 115), (u75 116), (u75 117), (u75 118), (u75 119), (u75 120), (u75 121), (u75 122), (u75 123), (u75 124), (u75 125), (u75 126), (u75 127), (u75 128), (u75 129), (u75 130), (u75 131), (u75 132), (u75 133), (u75 134), (u75 135), (u75 136), (u75 137), (u75 138), (u75 139), (u75 140), undef, undef, undef, undef, undef, undef, undef, undef, undef, undef], []⟩ ∧ St w0 F0 w76 F (⟨n2, ((cL Z 5).map laneV), 233⟩ :: ⟨rb, ((chiK Q y).map laneV), 217⟩ :: L0) (M0) ∧ (y % 5 = 0) ∧ (y ≤ 25)) _ ⟨0, _, rfl, rfl, rfl, S58, (by omega), (by omega)⟩ ?_
 rintro m77 a78 w79 ⟨y, u75, rfl, -, rfl, S80, hy5, hy25⟩ K82 hK82
 refine wp_seq_k (fun K83 hK83 => ?_)
 refine sk fun K84 hK84 => ?_
 refine dx ?_
 simp only [pq]
 by_cases hc104 : y < 25
 refine lssT ?_
 refine wn hK84 ?_
 refine wp_cond_true rfl ?_
 refine wp_skip ?_
 refine hK83 _ _ ?_
 refine wp_seq_k (fun K85 hK85 => ?_)
 refine wp_block ?_
 refine sk fun K86 hK86 => ?_
 refine dx ?_
 refine di ?_
 refine dx ?_
 simp only [pq]
 refine dx ?_
 refine dAdd (y + 5) ?_
 refine dr (.slice (aA rb y) ((y + 5) - y) (25 - y)) (ex_sliceA (l := y) (h := (y + 5)) Tryz.underlying217 rfl (sizeof_215 _) rfl rfl (by omega) (by omega) (by omega)) ?_
 simp only [pq]
 refine dr (pP rb y) (ex_s2a Tryz.underlying233 rfl (by omega)) ?_
 refine dr (.agg #[(laneV (at0 (chiK Q y) y)), (laneV (at0 (chiK Q y) (y + 1))), (laneV (at0 (chiK Q y) (y + 2))), (laneV (at0 (chiK Q y) (y + 3))), (laneV (at0 (chiK Q y) (y + 4)))]) (ex_load rfl (row_load (St.cellsAt S80 (i := 1) rfl) (show y + 5 ≤ (chiK Q y).length from by rw [(chiK_len _ _)]; omega))) ?_
 refine sA S80 (zero_233 _) fun n87 w88 S89 => ?_
 simp only [pq]
 refine sW 0 S89 (size_233) fun w90 S91 => ?_
 refine wn hK86 ?_
 refine sk fun K92 hK92 => ?_
 refine dx ?_
 refine wn hK92 ?_
 refine wp_block ?_
 have S91 : St w0 F0 w90 F (⟨n87, ((rowL (chiK Q y) y).map laneV), 233⟩ :: ⟨n2, ((cL Z 5).map laneV), 233⟩ :: ⟨rb, ((chiK Q y).map laneV), 217⟩ :: L0) (M0) := S91
 rw [rowL_chi (by omega)] at S91
 refine wp_loop_g (fun mm aa w94 => ∃ (k5 : Nat) (u93 : Nat → Value), mm = 5 - k5 ∧ u93 = slots aa ∧ aa = ⟨#[(pP rb 0), (nI r), undef, undef, (pP n2 0), (u7 5), (u29 6), (u29 7), (laneV (rhoL A 24).2), (u53 9), (u53 10), (nI y), (pP n87 0), (u93 13), (iI 5), bF, (u7 16), (u7 17), (u7 18), (u7 19), (u7 20), (u7 21), (u7 22), (u7 23), (u7 24), (u7 25), (u7 26), (u7 27), (u7 28), (u7 29), (u7 30), (u7 31), (u7 32), (u7 33), (u7 34), (u7 35), (u7 36), (u7 37), (u7 38), (u7 39), (u7 40), (u7 41), (u7 42), (u7 43), (u7 44), (u7 45), (u7 46), (u7 47), (u7 48), (u7 49), (u7 50), (u7 51), (u7 52), (iI 25), bF, (u29 55), (u29 56), (u29 57), (u29 58), (u29 59), (u29 60), (u29 61), (u29 62), (u29 63), (u29 64), (u29 65), (u29 66), (u29 67), (u29 68), (u29 69), (u29 70), (u29 71), (u29 72), (u29 73), (u29 74), (u29 75), (u29 76), (u29 77), (u29 78), (pP rb 0), (pP rb 0), (pP rb 1), (laneV (at0 A 1)), (.agg goesV), (iI 24), bF, (u53 86), (u53 87), (u53 88), (u53 89), (u53 90), (u53 91), (u53 92), (u53 93), (u53 94), (u53 95), (u53 96), (u53 97), (u53 98), (u53 99), (u53 100), (u53 101), (u53 102), (nI y), bT, (u75 105), (u75 106), (pP rb 0), (pP rb 0), (nI y), (nI y), (nI (y + 5)), (.slice (aA rb y) ((y + 5) - y) (25 - y)), (pP rb y), (.agg #[(laneV (at0 (chiK Q y) y)), (laneV (at0 (chiK Q y) (y + 1))), (laneV (at0 (chiK Q y) (y + 2))), (laneV (at0 (chiK Q y) (y + 3))), (laneV (at0 (chiK Q y) (y + 4)))]), (nI k5), (u93 116), (u93 117), (u93 118), (u93 119), (u93 120), (u93 121), (u93 122), (u93 123), (u93 124), (u93 125), (u93 126), (u93 127), (u93 128), (u93 129), (u93 130), (u93 131), (u93 132), (u93 133), (u93 134), (u93 135), (u93 136), (u93 137), (u93 138), (u93 139), (u93 140), undef, undef, undef, undef, undef, undef, undef, undef, undef, undef], []⟩ ∧ St w0 F0 w94 F (⟨n87, ((rowL Q y).map laneV), 233⟩ :: ⟨n2, ((cL Z 5).map laneV), 233⟩ :: ⟨rb, ((chiK Q (y + k5)).map laneV), 217⟩ :: L0) (M0) ∧ (k5 ≤ 5)) _ ⟨0, _, rfl, rfl, rfl, S91, (by omega)⟩ ?_
 rintro m95 a96 w97 ⟨k5, u93, rfl, -, rfl, S98, hk5⟩ K100 hK100
 refine sk fun K101 hK101 => ?_
 by_cases hc116 : k5 < 5
 refine lssT ?_
 simp only [pq]
 refine wn hK101 ?_
 refine wp_seq_k (fun K102 hK102 => ?_)
 refine wp_cond_true rfl ?_
 refine wp_skip ?_
 refine hK102 _ _ ?_
 refine wp_seq_k (fun K103 hK103 => ?_)
 refine wp_block ?_
 refine sk fun K104 hK104 => ?_
 refine dx ?_
 refine dy ?_
 refine wn hK104 ?_
 refine region_gw F 21 [] (by kernel_rfl) (by kernel_rfl) ?_
 simp only [List.take_succ_cons, List.take_zero]
 refine gm ?_
 simp only [pq]
 iterate 2 refine gm ?_
 refine gv (nI (y + k5)) (fun _ _ => ex_add (m := ((y : Nat) : Int)) (n := ((k5 : Nat) : Int)) (r := (((y + k5) : Nat) : Int)) rfl rfl (by omega) (by omega) (by omega)) ?_
 simp only [pq]
 refine gm ?_
 refine gv (pP n87 k5) (fun _ _ => ex_atA (i := k5) Tryz.underlying233 (sizeof_215 _) rfl rfl (by omega)) ?_
 refine gv _ (fun _ C105 => ex_load rfl (load1 (nagg_215 _) (St.cell (St.tells S98 C105) (i := 0) rfl (lanes_at (Nat.lt_of_lt_of_eq (show k5 < 5 by omega) (rowL_len _ _).symm))))) ?_
 simp only [pq]
 refine gm ?_
 refine gv (nI (k5 + 1)) (fun _ _ => ex_add (m := ((k5 : Nat) : Int)) (n := (1 : Int)) (r := (((k5 + 1) : Nat) : Int)) rfl rfl (by omega) (by omega) (by omega)) ?_
 refine gv (nI ((k5 + 1) % 5)) (fun _ _ => ex_remA (m := (k5 + 1)) (n := 5) rfl rfl (by decide) (by omega)) ?_
 simp only [pq]
 refine gv (pP n87 (((k5 + 1) % 5))) (fun _ _ => ex_atA (i := ((k5 + 1) % 5)) Tryz.underlying233 (sizeof_215 _) rfl rfl (by omega)) ?_
 refine gv _ (fun _ C105 => ex_load rfl (load1 (nagg_215 _) (St.cell (St.tells S98 C105) (i := 0) rfl (lanes_at (Nat.lt_of_lt_of_eq (show ((k5 + 1) % 5) < 5 by omega) (rowL_len _ _).symm))))) ?_
 refine gv (laneV (~~~ (at0 (rowL Q y) ((k5 + 1) % 5)))) (fun _ _ => ex_notL rfl) ?_
 simp only [pq]
 refine gm ?_
 refine gv (nI (k5 + 2)) (fun _ _ => ex_add (m := ((k5 : Nat) : Int)) (n := (2 : Int)) (r := (((k5 + 2) : Nat) : Int)) rfl rfl (by omega) (by omega) (by omega)) ?_
 refine gv (nI ((k5 + 2) % 5)) (fun _ _ => ex_remA (m := (k5 + 2)) (n := 5) rfl rfl (by decide) (by omega)) ?_
 simp only [pq]
 refine gv (pP n87 (((k5 + 2) % 5))) (fun _ _ => ex_atA (i := ((k5 + 2) % 5)) Tryz.underlying233 (sizeof_215 _) rfl rfl (by omega)) ?_
 refine gv _ (fun _ C105 => ex_load rfl (load1 (nagg_215 _) (St.cell (St.tells S98 C105) (i := 0) rfl (lanes_at (Nat.lt_of_lt_of_eq (show ((k5 + 2) % 5) < 5 by omega) (rowL_len _ _).symm))))) ?_
 refine gv (laneV ((~~~ (at0 (rowL Q y) ((k5 + 1) % 5))) &&& (at0 (rowL Q y) ((k5 + 2) % 5)))) (fun _ _ => ex_andL rfl rfl) ?_
 simp only [pq]
 refine gv (laneV ((at0 (rowL Q y) k5) ^^^ ((~~~ (at0 (rowL Q y) ((k5 + 1) % 5))) &&& (at0 (rowL Q y) ((k5 + 2) % 5))))) (fun _ _ => ex_xorL rfl rfl) ?_
 refine gi ?_
 refine gw_nil ?_
 intro w106 hC108 hF109
 clear hF109
 have S107 := St.tells S98 hC108
 simp only [List.drop_succ_cons, List.drop_zero]
 refine dr (pP rb ((y + k5))) (ex_atA (i := (y + k5)) Tryz.underlying217 (sizeof_215 _) rfl rfl (by omega)) ?_
 simp only [pq]
 refine stStore (i := 2) (v := laneV ((at0 (rowL Q y) k5) ^^^ ((~~~ (at0 (rowL Q y) ((k5 + 1) % 5))) &&& (at0 (rowL Q y) ((k5 + 2) % 5))))) S107 rfl rfl rfl rfl (size_215) (allc1 rfl) (by rw [List.length_map, (chiK_len _ _)]; show (y + k5) + 1 ≤ 25; omega) (fun w110 S111 => ?_)
 simp only [pq]
 have S111 : St w0 F0 w110 F (⟨n87, ((rowL Q y).map laneV), 233⟩ :: ⟨n2, ((cL Z 5).map laneV), 233⟩ :: ⟨rb, (splice ((chiK Q (y + k5)).map laneV) (y + k5) [laneV ((at0 (rowL Q y) k5) ^^^ ((~~~ (at0 (rowL Q y) ((k5 + 1) % 5))) &&& (at0 (rowL Q y) ((k5 + 2) % 5))))]), 217⟩ :: L0) (M0) := S111
 rw [lanes_set (Nat.lt_of_lt_of_eq (show (y + k5) < 25 by omega) (chiK_len _ _).symm)] at S111
 rw [chi_row hy5 (by omega), chiK_step Q (by omega)] at S111
 refine wl_nil (hK103 _ _ ?_)
 refine region_wl ?_
 refine dAdd (k5 + 1) ?_
 refine dx ?_
 refine wl_nil ?_
 exact hK100 _ _ _ (by omega) ⟨(k5 + 1), _, rfl, rfl, rfl, S111, (by omega)⟩
 refine lssF ?_
 simp only [pq]
 refine wn hK101 ?_
 refine wp_seq_k (fun K112 hK112 => ?_)
 refine wp_cond_false rfl ?_
 refine wp_exit ?_
 refine hK85 _ _ ?_
 obtain rfl : k5 = 5 := by omega
 refine region_wl ?_
 refine dx ?_
 refine dAdd (y + 5) ?_
 refine dy ?_
 simp only [pq]
 refine wl_nil ?_
 have S98 := St.drop S98 (.cons _ (List.Sublist.refl _))
 exact hK82 _ _ _ (by omega) ⟨(y + 5), _, rfl, rfl, rfl, S98, (by omega), (by omega)⟩
 refine lssF ?_
 refine wn hK84 ?_
 refine wp_cond_false rfl ?_
 refine wp_exit ?_
 refine hK73 _ _ ?_
 obtain rfl : y = 25 := by omega
 refine region_gw F 9 [] (by kernel_rfl) (by kernel_rfl) ?_
 simp only [List.take_succ_cons, List.take_zero]
 refine gm ?_
 refine gi ?_
 simp only [pq]
 refine gv (pP rb 0) (fun _ _ => ex_atA (i := 0) Tryz.underlying217 (sizeof_215 _) rfl rfl (by omega)) ?_
 refine gv _ (fun _ C113 => ex_load rfl (load1 (nagg_215 _) (St.cell (St.tells S80 C113) (i := 1) rfl (lanes_at (Nat.lt_of_lt_of_eq (show 0 < 25 by omega) (chiK_len _ _).symm))))) ?_
 refine gm ?_
 simp only [pq]
 refine gv (pP 4 r) (fun _ _ => ex_atA (i := r) Tryz.underlying218 (sizeof_215 _) rfl rfl (by omega)) ?_
 refine gv _ (fun _ C113 => ex_load rfl (load1 (nagg_215 _) (((hT.at (St.tells S80 C113).gr.below).2.2 r hr)))) ?_
 refine gv (laneV ((at0 (chiK Q 25) 0) ^^^ (roundB r))) (fun _ _ => ex_xorL rfl rfl) ?_
 simp only [pq]
 refine gi ?_
 refine gw_nil ?_
 intro w114 hC116 hF117
 clear hF117
 have S115 := St.tells S80 hC116
 simp only [List.drop_succ_cons, List.drop_zero]
 refine dr (pP rb 0) (ex_atA (i := 0) Tryz.underlying217 (sizeof_215 _) rfl rfl (by omega)) ?_
 refine stStore (i := 1) (v := laneV ((at0 (chiK Q 25) 0) ^^^ (roundB r))) S115 rfl rfl rfl rfl (size_215) (allc1 rfl) (by rw [List.length_map, (chiK_len _ _)]; show 0 + 1 ≤ 25; omega) (fun w118 S119 => ?_)
 simp only [pq]
 have S119 : St w0 F0 w118 F (⟨n2, ((cL Z 5).map laneV), 233⟩ :: ⟨rb, (splice ((chiK Q 25).map laneV) 0 [laneV ((at0 (chiK Q 25) 0) ^^^ (roundB r))]), 217⟩ :: L0) (M0) := S119
 rw [lanes_set (Nat.lt_of_lt_of_eq (show 0 < 25 by omega) (chiK_len _ _).symm)] at S119
 refine wl_nil ?_
 (try simp only [Exit.then, Exit.inBlock, ↓reduceIte, Nat.reduceEqDiff])
 refine bE (res_0 rfl) ?_
 rw [chiK_all] at S119
 have S119 := St.drop S119 (.cons _ (List.Sublist.refl _))
 rw [hQ, hA, cL_all] at S119
 exact ⟨rfl, S119⟩
theorem by_at {E base : Nat} {w : World} {F : Fz} {l : By} {a : Option Addr} {n c : Nat} (h : Own 1 ByC E base w F (.slice a n c) l) {i : Nat} {b : UInt8} (hp : l[i]? = some b) : ∃ g, a = some ⟨g, 0, none⟩ ∧ w.cell? ⟨g, 0 + i * 1, none⟩ = some (bv b) := by
 obtain ⟨g, cs, e, _, r, hr⟩ := h.at hp
 have r : cs = [bv b] := r
 subst r
 refine ⟨g, e, ?_⟩
 have := hr 0 _ rfl
 rw [Nat.zero_add]
 simpa using this
section
variable {P : Program} {ρ : Operand → Value} {w : World} {d : Option Tmp} {t X Y E : TypeId} {pos : String} {after : Array Edge} {guard : Option (Nat × Bool)} {x y : Operand}
theorem or128 (b : UInt8) : bits .or .u8 (b.toNat : Int) 128 = ((b ||| 128).toNat : Int) := by
 have e1 : BitVec.ofInt 8 (b.toNat : Int) = b.toBitVec := by rw [BitVec.ofInt_natCast]; simp
 have e2 : BitVec.ofInt 8 (128 : Int) = (128 : UInt8).toBitVec := by decide
 have e3 : (b ||| 128).toNat = (b.toBitVec ||| (128 : UInt8).toBitVec).toNat := by rw [← UInt8.toBitVec_or]; rfl
 have hlt := (b ||| 128).toNat_lt
 unfold bits
 show IntKind.u8.wrap (((BitVec.ofInt 8 (b.toNat : Int) ||| BitVec.ofInt 8 (128 : Int)).toNat : Nat) : Int) = _
 rw [e1, e2, ← e3, show IntKind.u8.wrap (((b ||| 128).toNat : Nat) : Int) = (((b ||| 128).toNat : Nat) : Int) % 256 from rfl]
 omega
theorem ex_orB {b : UInt8} (hx : ρ x = bv b) (hy : ρ y = .int .u8 128) : (execOp ρ ⟨d, .binOp .or X x y Y, t, pos, after, guard⟩).run P w = .ok (.value (bv (b ||| 128))) w := by
 refine ex_bin hx hy ?_
 rw [run_binInt _ (by simp)]
 show Result.ok (Value.int .u8 (bits .or .u8 (b.toNat : Int) 128)) w = _
 rw [or128]; rfl
theorem ex_quoA {m n : Nat} (hx : ρ x = .int .i64 (m : Int)) (hy : ρ y = .int .i64 (n : Int)) (hn : 0 < n) (hm : m ≤ 9223372036854775807) : (execOp ρ ⟨d, .binOp .quo X x y Y, t, pos, after, guard⟩).run P w = .ok (.value (.int .i64 ((m / n : Nat) : Int))) w := by
 refine ex_bin hx hy ?_
 rw [run_binInt _ (by simp)]
 show (Op.intDiv .quo .i64 m n).run P w = _
 unfold Op.intDiv
 rw [if_neg (by omega)]
 show Result.ok (Value.int .i64 (IntKind.i64.wrap (Int.tdiv (m : Int) (n : Int)))) w = _
 have hle : m / n ≤ m := Nat.div_le_self m n
 rw [Int.tdiv_eq_ediv_of_nonneg (by omega), ← Int.natCast_ediv]
 generalize m / n = q at *
 rw [wrap64_in (by omega) (by omega)]
theorem ex_shlL {a : BitVec 64} {n : Nat} (hx : ρ x = laneV a) (hy : ρ y = .int .i64 (n : Int)) (hn : n ≤ 64) : (execOp ρ ⟨d, .binOp .shl X x y Y, t, pos, after, guard⟩).run P w = .ok (.value (laneV (a <<< n))) w := by
 have e : (eqGuard .shl X x y (.int .u64 (lane a)) (.int .i64 (n : Int))).run P w = .ok () w := rfl
 have h : (binOp .shl X (.int .u64 (lane a)) (.int .i64 (n : Int))).run P w = .ok (laneV (a <<< n)) w := by
  show (Op.shift .shl .u64 (lane a) .i64 (n : Int)).run P w = _
  unfold Op.shift
  rw [if_neg (by omega)]
  show Result.ok (Value.int .u64 (IntKind.u64.wrap (lane a * 2 ^ (min (n : Int).toNat 64)))) w = _
  rw [Int.toNat_natCast, Nat.min_eq_left hn, lane_shl]
 simp only [execOp, hx, hy, Sem.run_bind, e, Result.andThen_ok, h, Sem.run_pure]
theorem ex_shrL {a : BitVec 64} {n : Nat} (hx : ρ x = laneV a) (hy : ρ y = .int .i64 (n : Int)) (hn : n ≤ 64) : (execOp ρ ⟨d, .binOp .shr X x y Y, t, pos, after, guard⟩).run P w = .ok (.value (laneV (a >>> n))) w := by
 have e : (eqGuard .shr X x y (.int .u64 (lane a)) (.int .i64 (n : Int))).run P w = .ok () w := rfl
 have h : (binOp .shr X (.int .u64 (lane a)) (.int .i64 (n : Int))).run P w = .ok (laneV (a >>> n)) w := by
  show (Op.shift .shr .u64 (lane a) .i64 (n : Int)).run P w = _
  unfold Op.shift
  rw [if_neg (by omega)]
  show Result.ok (Value.int .u64 (Int.fdiv (lane a) (2 ^ (min (n : Int).toNat 64)))) w = _
  rw [Int.toNat_natCast, Nat.min_eq_left hn, Int.fdiv_eq_ediv_of_nonneg _ (show (0 : Int) ≤ 2 ^ n from Int.le_of_lt (Int.pow_pos (by decide))), lane_shr]
 simp only [execOp, hx, hy, Sem.run_bind, e, Result.andThen_ok, h, Sem.run_pure]
theorem conv_u64 (b : UInt8) (w : World) : (convert 5 215 (bv b)).run Tryz.prog w = .ok (laneV (BitVec.ofNat 64 b.toNat)) w := by
 have : (convert 5 215 (bv b)).run Tryz.prog w = .ok (.int .u64 (IntKind.u64.wrap (b.toNat : Int))) w := by kernel_rfl
 have hb := b.toNat_lt
 have e : IntKind.u64.wrap (b.toNat : Int) = lane (BitVec.ofNat 64 b.toNat) := by
  rw [wrap_u64]; unfold lane; simp; omega
 rw [this, e]
theorem conv_low (a : BitVec 64) (w : World) : (convert 215 5 (laneV a)).run Tryz.prog w = .ok (bv (UInt8.ofNat (a.toNat % 256))) w := by
 have : (convert 215 5 (laneV a)).run Tryz.prog w = .ok (.int .u8 (IntKind.u8.wrap (lane a))) w := by kernel_rfl
 have e : IntKind.u8.wrap (lane a) = ((UInt8.ofNat (a.toNat % 256)).toNat : Int) := by
  rw [show IntKind.u8.wrap (lane a) = lane a % 256 from rfl]; unfold lane; simp
 rw [this, e]; rfl
end
def padK (b : By) (k : Nat) : By := (b ++ [6]) ++ List.replicate k 0
def padN (b : By) : Nat := (136 - (b.length + 1) % 136) % 136
theorem padK_len (b : By) (k : Nat) : (padK b k).length = b.length + 1 + k := by simp [padK]; omega
theorem padK_step (b : By) (k : Nat) : padK b k ++ [0] = padK b (k + 1) := by
 unfold padK
 rw [List.append_assoc, List.replicate_succ']
theorem padK_zero (b : By) : b ++ [6] = padK b 0 := by simp [padK]
theorem padL_of {b : By} {x : UInt8} (h : (padK b (padN b))[(padK b (padN b)).length - 1]? = some x) : (padK b (padN b)).set ((padK b (padN b)).length - 1) (x ||| 128) = padL b := by
 have e : (padK b (padN b)).getD ((padK b (padN b)).length - 1) 0 = x := by rw [List.getD_eq_getElem?_getD, h]; rfl
 rw [← e]
 unfold padL padK padN
 simp only [List.length_append, List.length_singleton]
theorem padL_len (b : By) : (padL b).length = b.length + 1 + padN b := by
 unfold padL padN
 simp only [List.length_set, List.length_append, List.length_singleton, List.length_replicate]
theorem mix_len (S : List (BitVec 64)) (p : By) : ∀ n, (mixL S p n).length = S.length := by
 intro n
 induction n with
 | zero => rfl
 | succ n ih => unfold mixL at *; rw [List.range_succ, List.foldl_append]; simpa using ih
theorem mix_step (S : List (BitVec 64)) {p : By} {n : Nat} {x : UInt8} (h : p[n]? = some x) : (mixL S p n).set (n / 8) (at0 (mixL S p n) (n / 8) ^^^ (BitVec.ofNat 64 x.toNat <<< (n % 8 * 8))) = mixL S p (n + 1) := by
 have e : p.getD n 0 = x := by rw [List.getD_eq_getElem?_getD, h]; rfl
 rw [← e]
 unfold mixL
 rw [List.range_succ, List.foldl_append]
 rfl
theorem stirL_len (S : List (BitVec 64)) (r : Nat) : (stirL S r).length = 25 := by
 unfold stirL
 simp [chiL, mapL]
theorem stirs_step (S : List (BitVec 64)) (n : Nat) : stirL (stirsL S n) n = stirsL S (n + 1) := by
 unfold stirsL
 rw [List.range_succ, List.foldl_append]
 rfl
theorem stirs_len {S : List (BitVec 64)} (h : S.length = 25) : ∀ n, (stirsL S n).length = 25
  | 0 => h
  | n + 1 => by rw [← stirs_step]; exact stirL_len _ _
theorem absorb_step {Z : List (BitVec 64)} {p : By} (h : 136 ≤ p.length) : absorbL Z p (p.length / 136) = absorbL (stirsL (mixL Z p 136) 24) (p.drop 136) ((p.drop 136).length / 136) := by
 rw [List.length_drop, show p.length / 136 = (p.length - 136) / 136 + 1 from by omega]
 rfl
def outAt (Z : List (BitVec 64)) (i : Nat) : UInt8 := UInt8.ofNat ((at0 Z (i / 8) >>> (i % 8 * 8)).toNat % 256)
def outK (Z : List (BitVec 64)) (k : Nat) : By := (List.range 32).map fun i => if i < k then outAt Z i else 0
theorem outK_len (Z : List (BitVec 64)) (k : Nat) : (outK Z k).length = 32 := by simp [outK]
theorem outK_zero (Z : List (BitVec 64)) : outK Z 0 = List.replicate 32 0 := by unfold outK; rfl
theorem outK_all (Z : List (BitVec 64)) : outK Z 32 = outL Z := by
 unfold outK outL
 exact List.map_congr_left fun i hi => by rw [if_pos (List.mem_range.1 hi)]; rfl
theorem outK_step (Z : List (BitVec 64)) {k : Nat} (h : k < 32) : (outK Z k).set k (outAt Z k) = outK Z (k + 1) := by
 apply List.ext_getElem (by simp [outK])
 intro i h1 h2
 simp only [outK, List.getElem_set, List.getElem_map, List.getElem_range]
 by_cases e : k = i
 ·subst e; simp
 ·rw [if_neg e]
  by_cases e2 : i < k
  ·rw [if_pos e2, if_pos (by omega)]
  ·rw [if_neg e2, if_neg (by omega)]
theorem bytes_set {l : By} {j : Nat} {x : UInt8} (h : j < l.length) : splice (l.map bv) j [bv x] = (l.set j x).map bv := by
 unfold splice
 rw [List.map_set, List.set_eq_take_append_cons_drop, if_pos (by simpa using h)]
 simp
theorem zero_217 (w : World) : (zeroValue 217).run Tryz.prog w = .ok (.agg ((List.replicate 25 (0 : BitVec 64)).map laneV).toArray) w := by kernel_rfl
theorem stStir {P : Program} {w0 w : World} {F0 F : Fz} {rb : Nat} {T : TypeId} {L0 : List Blk} {M0 : List RowP} {Z : List (BitVec 64)} {ops : Array Oper} {Q : Exit → Act → World → Prop} {a : Act} {rest : List Oper} {o : Oper} {k : FuncId} {vs : Array Value} (hw : Region.wanted o (yielded ops a.tmps) = true)
    (hr : (execOp a.eval o).run P w = .ok (.enter k vs) w) (hc : Calls P k vs w fun e w' => e = .returned (.tuple #[]) ∧ St w0 F0 w' F (⟨rb, Z.map laneV, T⟩ :: L0) M0)
    (h : ∀ w', St w0 F0 w' F (⟨rb, Z.map laneV, T⟩ :: L0) M0 → WL P ops Q rest (a.put o.dst (.tuple #[])) w') : WL P ops Q (o :: rest) a w :=
  doC hw hr hc fun e w' ⟨he, hS⟩ => ⟨_, he, h w' hS⟩
end Go.Proofs.YtilgpdpooildcaaGreatDoor
