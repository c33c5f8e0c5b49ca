/- The walk of ClashSeen -/
import Derived.Test.YtcpngkkconalhaaV12
import Derived.Test.YtcpngkkconalhaaV13
namespace Go.Proofs.Ytcpngkkconalhaa
open Go.RowKit
set_option maxRecDepth 100000
set_option linter.unusedVariables false
set_option linter.unusedSimpArgs false
theorem clashOk_spec (F : Fz) (w : World) (v u : Value) (t : Tx) (cs : List Cm) (hs : Sat w F) (hv : TxV F v t) (hl : Cms F u cs) (hcs : ∀ c ∈ cs, c.writes.length ≤ 100000) (ht : TxOk t) :
    Calls Try.prog 47 #[v, u] w (Tells w (.tuple #[.bool (clashX t.start t.reads cs), .int .i64 0])) := by
  have := clash_spec F w v u t cs hs hv hl hcs (fun x hx => (ht.writes x hx).small)
  rw [txE_ok.2 ht] at this
  unfold clashE at this
  rwa [if_neg (by simp [txE_ok.2 ht])] at this
theorem noteX_sub {t u : Tx} {r : Rd} (e : noteX t r = some u) : (∀ x ∈ t.reads, x ∈ u.reads) ∧ u.start = t.start := by
  unfold noteX at e
  split at e
  · cases e; exact ⟨fun x h => h, rfl⟩
  · split at e
    · cases e
    · cases e; exact ⟨fun x h => List.mem_append_left _ h, rfl⟩
theorem TxOk.from_ {t : Tx} (h : TxOk t) {k : Int} (h1 : 0 ≤ k) (h2 : k ≤ 1048576) : TxOk ⟨k, t.reads, t.writes⟩ := ⟨⟨h1, h2⟩, h.nr, h.nw, h.reads, h.rdiff, h.writes, h.wdiff⟩
theorem getFIs_spec (F : Fz) (w : World) (v u z : Value) (l : Forest) (n k : By) {o : Option By} (hs : Sat w F) (hv : Tns F v l) (hn : Bs F u n) (hk : Bs F z k) (ok1 : ForestOk 60 l) (hnn : 1 ≤ n.length ∧ n.length ≤ 8) (hkk : 1 ≤ k.length ∧ k.length ≤ 16) (h : getF l n k = o) :
    Calls Try.prog 30 #[v, u, z] w (Gives w F (GetR o 0)) := by
  subst h; exact getF_spec F w v u z l n k hs hv hn hk ok1 hnn hkk
theorem rangeFIs_spec (F : Fz) (w : World) (v u z y : Value) (l : Forest) (n k j : By) {R : List Pr} (hs : Sat w F) (hv : Tns F v l) (hn : Bs F u n) (hk : Bs F z k) (hj : Bs F y j) (ok1 : ForestOk 60 l) (hnn : 1 ≤ n.length ∧ n.length ≤ 8) (hkk : 1 ≤ k.length ∧ k.length ≤ 16) (hjj : 1 ≤ j.length ∧ j.length ≤ 16) (h : rangeT (treeF l n) k j = R) :
    Calls Try.prog 29 #[v, u, z, y] w (Gives w F (PrsE R 0)) := by
  subst h; exact rangeF_spec F w v u z y l n k j hs hv hn hk hj ok1 hnn hkk hjj
theorem clash_pos {s : Nat} {rs : List Rd} {cs : List Cm} {m : Nat} (hh : HistOk m cs) (h : clashX (s : Int) rs cs = true) : 0 < rs.length ∧ s < cs.length := by
  unfold clashX at h
  obtain ⟨c, hc, h⟩ := List.any_eq_true.1 h
  rw [Bool.and_eq_true] at h
  obtain ⟨w, hw, h2⟩ := List.any_eq_true.1 h.2
  obtain ⟨r, hr, _⟩ := List.any_eq_true.1 h2
  obtain ⟨i, hi, rfl⟩ := List.mem_iff_getElem.1 hc
  have h1 := of_decide_eq_true h.1
  have ht := hh.turn i hi
  exact ⟨List.length_pos_of_mem hr, by omega⟩
set_option maxHeartbeats 8000000 in
theorem clashSeen_walk (W : World) (v0 : Value) (l0 : List Pl) (z0 : Pls (whole W) v0 l0) (v1 : Value) (l1 : List Pl) (z1 : Pls (whole W) v1 l1) (x2 : Int) (b2 : -9223372036854775808 ≤ x2) (b2' : x2 ≤ 9223372036854775807) :
    Calls Try.prog 18 #[v0, v1, .int .i64 x2] W (Tells W (.bool true)) := by
 obtain ⟨a0, c0, rfl, q0, q0'⟩ := Sl.shape z0
 obtain ⟨a1, c1, rfl, q1, q1'⟩ := Sl.shape z1
 obtain ⟨i50, hi50, hz50, hs50, hb50⟩ := info_parts info_50
 have S := St.start (Sat.whole W)
 go_enter Try.func18, Try.ntmps18
 refine wp_seq_k (fun K1 hK1 => region_wl ?_)
 refine do_ rfl (.bool false) (ex_assign _) ?_
 simp only [pS, pN, pA, pC, pZ]
 refine wl_nil (hK1 _ _ ?_)
 refine wp_seq_k (fun K2 hK2 => region_wl ?_)
 refine do_ rfl (.slice a0 l0.length c0) (ex_move _) ?_
 simp only [pS, pN, pA, pC, pZ]
 refine stGives S rfl (ex_fn (vs := #[(.slice a0 l0.length c0), (.int .i64 16)]) (map2 rfl rfl) rfl (ent_32 _ _)) (commits_spec _ _ _ l0 16 (S).sat z0 (by omega)) ?_
 intro v8 w3 F5 S4 le6 R7
 obtain ⟨cs, R7, hh, hcl⟩ := R7
 obtain ⟨a9, c10, rfl, h11, h12⟩ := Sl.shape R7
 unfold maxLen at h12
 simp only [pS, pN, pA, pC, pZ]
 refine do_ rfl (.slice a9 cs.length c10) (ex_assign _) ?_
 simp only [pS, pN, pA, pC, pZ]
 refine wl_nil (hK2 _ _ ?_)
 refine wp_seq_k (fun K13 hK13 => region_wl ?_)
 refine do_ rfl (.slice a1 l1.length c1) (ex_move _) ?_
 simp only [pS, pN, pA, pC, pZ]
 refine stGives S4 rfl (ex_fn (vs := #[(.slice none 0 0), (.slice a1 l1.length c1)]) (map2 rfl rfl) rfl (ent_41 _ _)) (txnOf_spec _ _ _ _ [] l1 (S4).sat (Sl.nil _ _ _) (z1.mono le6)) ?_
 intro v19 w14 F16 S15 le17 R18
 obtain ⟨_, rfl, R20⟩ := R18
 obtain ⟨xa21, xc22, xa23, xc24, rfl, r25, r26⟩ := R20
 simp only [pS, pN, pA, pC, pZ]
 refine do_ rfl (.tuple #[(.agg #[(.int .i64 (txO [] l1).start), (.slice xa21 (txO [] l1).reads.length xc22), (.slice xa23 (txO [] l1).writes.length xc24)]), (.bool true)]) (ex_move _) ?_
 simp only [pS, pN, pA, pC, pZ]
 refine do_ rfl (.agg #[(.int .i64 (txO [] l1).start), (.slice xa21 (txO [] l1).reads.length xc22), (.slice xa23 (txO [] l1).writes.length xc24)]) (ex_extract rfl rfl) ?_
 simp only [pS, pN, pA, pC, pZ]
 refine do_ rfl (.bool true) (ex_extract rfl rfl) ?_
 simp only [pS, pN, pA, pC, pZ]
 refine stNew S15 (v := fun n => .pointer (some ⟨n, 0, none⟩)) rfl (ex_alloc (zero_75 _)) (fun n27 w28 S29 => ?_)
 simp only [pS, pN, pA, pC, pZ]
 have S29 : St W (whole W) w28 F16 [⟨n27, [(.int .i64 0), (.slice none 0 0), (.slice none 0 0)], 75⟩] [] := S29
 refine stStore (i := 0) (v := (.agg #[(.int .i64 (txO [] l1).start), (.slice xa21 (txO [] l1).reads.length xc22), (.slice xa23 (txO [] l1).writes.length xc24)])) S29 rfl rfl rfl rfl (size_75) (allc3 rfl rfl rfl) (Nat.le_of_ble_eq_true rfl) (fun w30 S31 => ?_)
 simp only [pS, pN, pA, pC, pZ]
 have S31 : St W (whole W) w30 F16 [⟨n27, [(.int .i64 (txO [] l1).start), (.slice xa21 (txO [] l1).reads.length xc22), (.slice xa23 (txO [] l1).writes.length xc24)], 75⟩] [] := S31
 refine do_ rfl (.bool true) (ex_assign _) ?_
 simp only [pS, pN, pA, pC, pZ]
 refine wl_nil (hK13 _ _ ?_)
 refine wp_seq_k (fun K32 hK32 => ?_)
 obtain ⟨hp0, hp1⟩ := pick_bd x2 ((cs.length + 1 : Nat) : Int) (by omega)
 obtain ⟨kn, hkn⟩ : ∃ kn : Nat, pick x2 ((cs.length + 1 : Nat) : Int) = (kn : Int) := ⟨(pick x2 ((cs.length + 1 : Nat) : Int)).toNat, (Int.toNat_of_nonneg hp0).symm⟩
 have hkb : kn < cs.length + 1 := by omega
 refine region_wl ?_
 refine do_ rfl (.int .i64 x2) (ex_move _) ?_
 simp only [pS, pN, pA, pC, pZ]
 refine do_ rfl (.slice a9 cs.length c10) (ex_move _) ?_
 simp only [pS, pN, pA, pC, pZ]
 refine do_ rfl (.int .i64 ((cs.length : Nat) : Int)) (ex_len Try.underlying60 rfl) ?_
 simp only [pS, pN, pA, pC, pZ]
 refine do_ rfl (.int .i64 (((cs.length + 1) : Nat) : Int)) (ex_add (m := ((cs.length : Nat) : Int)) (n := (1 : Int)) (r := (((cs.length + 1) : Nat) : Int)) rfl rfl (by omega) (by omega) (by omega)) ?_
 simp only [pS, pN, pA, pC, pZ]
 refine stTells (v := (.int .i64 ((kn : Nat) : Int))) S31 rfl (ex_fn (vs := #[(.int .i64 x2), (.int .i64 (((cs.length + 1) : Nat) : Int))]) (map2 rfl rfl) rfl (ent_25 _ _)) (hkn ▸ tells_same (picked_spec x2 (((cs.length + 1) : Nat) : Int) _ b2 b2' (by omega) (by omega))) (fun w33 S34 => ?_)
 simp only [pS, pN, pA, pC, pZ]
 refine do_ rfl (.pointer (some ⟨n27, 0, none⟩)) (ex_field (q := ⟨n27, 0, none⟩) rfl (fa_75_0 _ _)) ?_
 simp only [pS, pN, pA, pC, pZ]
 refine stStore (i := 0) (v := (.int .i64 ((kn : Nat) : Int))) S34 rfl rfl rfl rfl (size_3) (allc1 rfl) (Nat.le_of_ble_eq_true rfl) (fun w35 S36 => ?_)
 simp only [pS, pN, pA, pC, pZ]
 have S36 : St W (whole W) w35 F16 [⟨n27, [(.int .i64 ((kn : Nat) : Int)), (.slice xa21 (txO [] l1).reads.length xc22), (.slice xa23 (txO [] l1).writes.length xc24)], 75⟩] [] := S36
 refine wl_nil (hK32 _ _ ?_)
 refine wp_seq_k (fun K37 hK37 => ?_)
 have hT := txO_ok [] l1
 have hTk := hT.1.from_ (k := ((kn : Nat) : Int)) (by omega) (by omega)
 have oka := (state_ok hh kn).mono (show 16 ≤ 60 by omega)
 have okb := (state_ok hh cs.length).mono (show 16 ≤ 60 by omega)
 refine region_wl ?_
 refine do_ rfl (.agg #[(.int .i64 ((kn : Nat) : Int)), (.slice xa21 (txO [] l1).reads.length xc22), (.slice xa23 (txO [] l1).writes.length xc24)]) (ex_load rfl (loadN (cs := [(.int .i64 ((kn : Nat) : Int)), (.slice xa21 (txO [] l1).reads.length xc22), (.slice xa23 (txO [] l1).writes.length xc24)]) Try.underlying75 rfl (size_75) (St.range S36 (i := 0) rfl 0 [(.int .i64 ((kn : Nat) : Int)), (.slice xa21 (txO [] l1).reads.length xc22), (.slice xa23 (txO [] l1).writes.length xc24)] (sub_range 0 rfl)))) ?_
 simp only [pS, pN, pA, pC, pZ]
 refine do_ rfl (.slice a9 cs.length c10) (ex_move _) ?_
 simp only [pS, pN, pA, pC, pZ]
 refine stTells (v := (.tuple #[(.bool (clashX ((kn : Nat) : Int) ((txO [] l1).reads) cs)), (.int .i64 0)])) S36 rfl (ex_fn (vs := #[(.agg #[(.int .i64 ((kn : Nat) : Int)), (.slice xa21 (txO [] l1).reads.length xc22), (.slice xa23 (txO [] l1).writes.length xc24)]), (.slice a9 cs.length c10)]) (map2 rfl rfl) rfl (ent_47 _ _)) (clashOk_spec _ _ _ _ (⟨((kn : Nat) : Int), (txO [] l1).reads, (txO [] l1).writes⟩ : Tx) cs (S36).sat ⟨_, _, _, _, rfl, r25, r26⟩ (R7.mono le17) (fun c hc => by have := (hh.ok c hc).some.2; omega) hTk) (fun w38 S39 => ?_)
 simp only [pS, pN, pA, pC, pZ]
 refine do_ rfl (.tuple #[(.bool (clashX ((kn : Nat) : Int) ((txO [] l1).reads) cs)), (.int .i64 0)]) (ex_move _) ?_
 simp only [pS, pN, pA, pC, pZ]
 refine do_ rfl (.bool (clashX ((kn : Nat) : Int) ((txO [] l1).reads) cs)) (ex_extract rfl rfl) ?_
 simp only [pS, pN, pA, pC, pZ]
 refine do_ rfl (.int .i64 0) (ex_extract rfl rfl) ?_
 simp only [pS, pN, pA, pC, pZ]
 refine do_ rfl (.bool (clashX ((kn : Nat) : Int) ((txO [] l1).reads) cs)) (ex_assign _) ?_
 simp only [pS, pN, pA, pC, pZ]
 refine do_ rfl (.int .i64 0) (ex_assign _) ?_
 simp only [pS, pN, pA, pC, pZ]
 refine wl_nil (hK37 _ _ ?_)
 refine wp_seq_k (fun K40 hK40 => region_wl ?_)
 refine do_ rfl (.slice a9 cs.length c10) (ex_move _) ?_
 simp only [pS, pN, pA, pC, pZ]
 refine do_ rfl (.pointer (some ⟨n27, 0, none⟩)) (ex_field (q := ⟨n27, 0, none⟩) rfl (fa_75_0 _ _)) ?_
 simp only [pS, pN, pA, pC, pZ]
 refine do_ rfl (.int .i64 ((kn : Nat) : Int)) (ex_load rfl (load1 (nagg_3 _) (St.cell S39 (i := 0) rfl rfl))) ?_
 simp only [pS, pN, pA, pC, pZ]
 refine stGives S39 rfl (ex_fn (vs := #[(.slice a9 cs.length c10), (.int .i64 ((kn : Nat) : Int))]) (map2 rfl rfl) rfl (ent_33 _ _)) (fold_spec _ _ _ cs kn (S39).sat (R7.mono le17) hh (by omega) (by omega) (by omega)) ?_
 intro v46 w41 F43 S42 le44 R45
 obtain ⟨_, rfl, r49⟩ := R45
 obtain ⟨a47, c48, rfl, h50, h51⟩ := Sl.shape r49
 unfold maxLen at h51
 have h50 : (stateC cs kn).length ≤ c48 := h50
 have r49 : Tns _ (.slice a47 (stateC cs kn).length c48) (stateC cs kn) := r49
 simp only [pS, pN, pA, pC, pZ]
 refine do_ rfl (.tuple #[(.slice a47 (stateC cs kn).length c48), (.int .i64 0)]) (ex_move _) ?_
 simp only [pS, pN, pA, pC, pZ]
 refine do_ rfl (.slice a47 (stateC cs kn).length c48) (ex_extract rfl rfl) ?_
 simp only [pS, pN, pA, pC, pZ]
 refine do_ rfl (.int .i64 0) (ex_extract rfl rfl) ?_
 simp only [pS, pN, pA, pC, pZ]
 refine do_ rfl (.slice a47 (stateC cs kn).length c48) (ex_assign _) ?_
 simp only [pS, pN, pA, pC, pZ]
 refine do_ rfl (.int .i64 0) (ex_assign _) ?_
 simp only [pS, pN, pA, pC, pZ]
 refine wl_nil (hK40 _ _ ?_)
 refine wp_seq_k (fun K52 hK52 => region_wl ?_)
 refine do_ rfl (.slice a9 cs.length c10) (ex_move _) ?_
 simp only [pS, pN, pA, pC, pZ]
 refine do_ rfl (.slice a9 cs.length c10) (ex_move _) ?_
 simp only [pS, pN, pA, pC, pZ]
 refine do_ rfl (.int .i64 ((cs.length : Nat) : Int)) (ex_len Try.underlying60 rfl) ?_
 simp only [pS, pN, pA, pC, pZ]
 refine stGives S42 rfl (ex_fn (vs := #[(.slice a9 cs.length c10), (.int .i64 ((cs.length : Nat) : Int))]) (map2 rfl rfl) rfl (ent_33 _ _)) (fold_spec _ _ _ cs cs.length (S42).sat (R7.mono (le17.trans le44)) hh (by omega) (by omega) (by omega)) ?_
 intro v58 w53 F55 S54 le56 R57
 obtain ⟨_, rfl, r61⟩ := R57
 obtain ⟨a59, c60, rfl, h62, h63⟩ := Sl.shape r61
 unfold maxLen at h63
 have h62 : (stateC cs cs.length).length ≤ c60 := h62
 have r61 : Tns _ (.slice a59 (stateC cs cs.length).length c60) (stateC cs cs.length) := r61
 simp only [pS, pN, pA, pC, pZ]
 refine do_ rfl (.tuple #[(.slice a59 (stateC cs cs.length).length c60), (.int .i64 0)]) (ex_move _) ?_
 simp only [pS, pN, pA, pC, pZ]
 refine do_ rfl (.slice a59 (stateC cs cs.length).length c60) (ex_extract rfl rfl) ?_
 simp only [pS, pN, pA, pC, pZ]
 refine do_ rfl (.int .i64 0) (ex_extract rfl rfl) ?_
 simp only [pS, pN, pA, pC, pZ]
 refine do_ rfl (.slice a59 (stateC cs cs.length).length c60) (ex_assign _) ?_
 simp only [pS, pN, pA, pC, pZ]
 refine do_ rfl (.int .i64 0) (ex_assign _) ?_
 simp only [pS, pN, pA, pC, pZ]
 refine wl_nil (hK52 _ _ ?_)
 refine wp_seq_k (fun K64 hK64 => ?_)
 refine wp_seq_k (fun K65 hK65 => ?_)
 cases hA : (clashX ((kn : Nat) : Int) ((txO [] l1).reads) cs) with
 | true =>
  obtain ⟨hr0, hk0⟩ := clash_pos hh hA
  refine region_wl ?_
  refine do_ rfl (.bool true) (ex_move _) ?_
  simp only [pS, pN, pA, pC, pZ]
  refine do_ rfl (.bool false) (ex_not (b := true) rfl rfl) ?_
  simp only [pS, pN, pA, pC, pZ]
  refine do_ rfl (.bool false) (ex_move _) ?_
  simp only [pS, pN, pA, pC, pZ]
  refine do_ rfl (.int .i64 0) (ex_move _) ?_
  simp only [pS, pN, pA, pC, pZ]
  refine do_ rfl (.bool false) (ex_neq (b := false) rfl rfl (by decide)) ?_
  simp only [pS, pN, pA, pC, pZ]
  refine do_ rfl (.bool false) (ex_pick (b := false) rfl) ?_
  simp only [pS, pN, pA, pC, pZ]
  refine do_ rfl (.bool false) (ex_move _) ?_
  simp only [pS, pN, pA, pC, pZ]
  refine do_ rfl (.int .i64 0) (ex_move _) ?_
  simp only [pS, pN, pA, pC, pZ]
  refine do_ rfl (.bool false) (ex_neq (b := false) rfl rfl (by decide)) ?_
  simp only [pS, pN, pA, pC, pZ]
  refine do_ rfl (.bool false) (ex_pick (b := false) rfl) ?_
  simp only [pS, pN, pA, pC, pZ]
  refine do_ rfl (.bool false) (ex_move _) ?_
  simp only [pS, pN, pA, pC, pZ]
  refine do_ rfl (.int .i64 0) (ex_move _) ?_
  simp only [pS, pN, pA, pC, pZ]
  refine do_ rfl (.bool false) (ex_neq (b := false) rfl rfl (by decide)) ?_
  simp only [pS, pN, pA, pC, pZ]
  refine do_ rfl (.bool false) (ex_pick (b := false) rfl) ?_
  simp only [pS, pN, pA, pC, pZ]
  refine wl_nil (hK65 _ _ ?_)
  refine wp_cond_false rfl ?_
  refine wp_skip ?_
  refine hK64 _ _ ?_
  refine wp_seq_k (fun K66 hK66 => ?_)
  refine wp_seq_k (fun K67 hK67 => region_wl ?_)
  refine do_ rfl (.int .i64 0) (ex_assign _) ?_
  simp only [pS, pN, pA, pC, pZ]
  refine wl_nil (hK67 _ _ ?_)
  refine wp_block ?_
  refine wp_loop_g (fun mm aa w70 => ∃ (k : Nat) (F68 : Fz) (u69 : Nat → Value), mm = (txO [] l1).reads.length - k ∧ u69 = slots aa ∧ aa = ⟨#[(.slice a0 l0.length c0), (.slice a1 l1.length c1), (.int .i64 x2), undef, undef, undef, (u69 6), (.slice a9 cs.length c10), (.pointer (some ⟨n27, 0, none⟩)), (.bool true), (.bool true), (.int .i64 0), (.slice a47 (stateC cs kn).length c48), (.int .i64 0), (.slice a59 (stateC cs cs.length).length c60), (.int .i64 0), (.int .i64 ((k : Nat) : Int)), (u69 17), (u69 18), (u69 19), (u69 20), (u69 21), (u69 22), (u69 23), (u69 24), (u69 25), undef, undef, undef, undef, (.slice a0 l0.length c0), (.slice a9 cs.length c10), (.tuple #[(.agg #[(.int .i64 (txO [] l1).start), (.slice xa21 (txO [] l1).reads.length xc22), (.slice xa23 (txO [] l1).writes.length xc24)]), (.bool true)]), (.slice a1 l1.length c1), (.tuple #[(.agg #[(.int .i64 (txO [] l1).start), (.slice xa21 (txO [] l1).reads.length xc22), (.slice xa23 (txO [] l1).writes.length xc24)]), (.bool true)]), (.agg #[(.int .i64 (txO [] l1).start), (.slice xa21 (txO [] l1).reads.length xc22), (.slice xa23 (txO [] l1).writes.length xc24)]), (.bool true), (.int .i64 x2), (.slice a9 cs.length c10), (.int .i64 ((cs.length : Nat) : Int)), (.int .i64 (((cs.length + 1) : Nat) : Int)), (.int .i64 ((kn : Nat) : Int)), (.pointer (some ⟨n27, 0, none⟩)), (.tuple #[(.bool true), (.int .i64 0)]), (.agg #[(.int .i64 ((kn : Nat) : Int)), (.slice xa21 (txO [] l1).reads.length xc22), (.slice xa23 (txO [] l1).writes.length xc24)]), (.slice a9 cs.length c10), (.tuple #[(.bool true), (.int .i64 0)]), (.bool true), (.int .i64 0), (.tuple #[(.slice a47 (stateC cs kn).length c48), (.int .i64 0)]), (.slice a9 cs.length c10), (.pointer (some ⟨n27, 0, none⟩)), (.int .i64 ((kn : Nat) : Int)), (.tuple #[(.slice a47 (stateC cs kn).length c48), (.int .i64 0)]), (.slice a47 (stateC cs kn).length c48), (.int .i64 0), (.tuple #[(.slice a59 (stateC cs cs.length).length c60), (.int .i64 0)]), (.slice a9 cs.length c10), (.slice a9 cs.length c10), (.int .i64 ((cs.length : Nat) : Int)), (.tuple #[(.slice a59 (stateC cs cs.length).length c60), (.int .i64 0)]), (.slice a59 (stateC cs cs.length).length c60), (.int .i64 0), (.bool true), (.bool false), (.bool false), (.int .i64 0), (.bool false), (.bool false), (.bool false), (.int .i64 0), (.bool false), (.bool false), (.bool false), (.int .i64 0), (.bool false), (.bool false), (u69 77), (u69 78), (u69 79), (u69 80), (u69 81), (u69 82), (u69 83), (u69 84), (u69 85), (u69 86), (u69 87), (u69 88), (u69 89), (u69 90), (u69 91), (u69 92), (u69 93), (u69 94), (u69 95), (u69 96), (u69 97), (u69 98), (u69 99), (u69 100), (u69 101), (u69 102), (u69 103), (u69 104), (u69 105), (u69 106), (u69 107), (u69 108), (u69 109), (u69 110), (u69 111), (u69 112), (u69 113), (u69 114), (u69 115), (u69 116), (u69 117), (u69 118), (u69 119), (u69 120), (u69 121), (u69 122), (u69 123), (u69 124), (u69 125), (u69 126), (u69 127), (u69 128), (u69 129), (u69 130), (u69 131), (u69 132), (u69 133), (u69 134), (u69 135), (u69 136), (u69 137), (u69 138), (u69 139), (u69 140), (u69 141), (u69 142), (u69 143), (u69 144), (u69 145), (u69 146), (u69 147), (u69 148), (u69 149), (u69 150), (u69 151), (u69 152), (u69 153), (u69 154), (u69 155), (u69 156), (u69 157), (u69 158), (u69 159), (u69 160), (u69 161), (u69 162), (u69 163), (u69 164), (u69 165), (u69 166), (u69 167), undef, undef, undef, undef, undef, undef, undef, undef, undef, undef, undef, undef, undef, undef, undef, undef, undef, undef, undef, undef, undef, undef, undef, undef, undef, undef, undef, undef, undef, undef, undef, undef, undef, undef, undef, undef, undef, undef, undef, undef, undef, undef, undef, undef, undef, undef, undef, undef, undef], []⟩ ∧ St W (whole W) w70 F68 [⟨n27, [(.int .i64 ((kn : Nat) : Int)), (.slice xa21 (txO [] l1).reads.length xc22), (.slice xa23 (txO [] l1).writes.length xc24)], 75⟩] [] ∧ Le F55 F68 ∧ (k ≤ (txO [] l1).reads.length)) _ ⟨0, F55, _, rfl, rfl, rfl, S54, Le.refl _, (by omega)⟩ ?_
  rintro m71 a72 w73 ⟨k, F68, u69, rfl, -, rfl, S74, le75, hk⟩ K76 hK76
  refine wp_seq_k (fun K77 hK77 => ?_)
  refine wp_seq_k (fun K78 hK78 => region_wl ?_)
  refine do_ rfl (.int .i64 ((k : Nat) : Int)) (ex_move _) ?_
  simp only [pS, pN, pA, pC, pZ]
  refine do_ rfl (.pointer (some ⟨n27, 1, none⟩)) (ex_field (q := ⟨n27, 1, none⟩) rfl (fa_75_1 _ _)) ?_
  simp only [pS, pN, pA, pC, pZ]
  refine do_ rfl (.slice xa21 (txO [] l1).reads.length xc22) (ex_load rfl (load1 (nagg_73 _) (St.cell S74 (i := 0) rfl rfl))) ?_
  simp only [pS, pN, pA, pC, pZ]
  refine do_ rfl (.int .i64 (((txO [] l1).reads.length : Nat) : Int)) (ex_len Try.underlying73 rfl) ?_
  simp only [pS, pN, pA, pC, pZ]
  by_cases hc81 : k < (txO [] l1).reads.length
  ·refine do_ rfl (.bool true) (ex_lss (m := ((k : Nat) : Int)) (n := (((txO [] l1).reads.length : Nat) : Int)) (b := true) rfl rfl (decide_eq_true (by omega))) ?_
   simp only [pS, pN, pA, pC, pZ]
   refine do_ rfl (.bool true) (ex_move _) ?_
   simp only [pS, pN, pA, pC, pZ]
   refine do_ rfl (.bool true) (ex_move _) ?_
   simp only [pS, pN, pA, pC, pZ]
   refine do_ rfl (.bool false) (ex_not (b := true) rfl rfl) ?_
   simp only [pS, pN, pA, pC, pZ]
   refine do_ rfl (.bool false) (ex_pick (b := true) rfl) ?_
   simp only [pS, pN, pA, pC, pZ]
   refine wl_nil (hK78 _ _ ?_)
   refine wp_cond_false rfl ?_
   refine wp_exit ?_
   refine hK66 _ _ ?_
   refine wp_seq_k (fun K79 hK79 => ?_)
   have hRS : RdOk (⟨([1] : By), ([2] : By), false, ([] : By)⟩ : Rd) := ⟨by simp [NameOk], by simp, by simp⟩
   have hS : noteX nilX (⟨([1] : By), ([2] : By), false, ([] : By)⟩ : Rd) = some (⟨0, [(⟨([1] : By), ([2] : By), false, ([] : By)⟩ : Rd)], []⟩ : Tx) := by unfold noteX nilX; rw [if_neg (by simp), if_neg (by simp)]; rfl
   have hSk := noteX_ok nilX_ok hRS hS
   refine region_wl ?_
   refine do_ rfl (.agg #[(.int .i64 0), (.slice none 0 0), (.slice none 0 0)]) (ex_build (ps := #[]) (bmap0) (by kernel_rfl)) ?_
   simp only [pS, pN, pA, pC, pZ]
   refine stNew S74 (v := fun n => .slice (some ⟨n, 0, none⟩) 1 1) rfl (ex_lit (ps := #[(0, (.int .u8 1))]) (cells := #[(.int .u8 1)]) (E := 5) (bmap1 rfl) (fun w => by kernel_rfl)) (fun n80 w81 S82 => ?_)
   simp only [pS, pN, pA, pC, pZ]
   have S82 : St W (whole W) w81 F68 [⟨n80, [(.int .u8 1)], 5⟩, ⟨n27, [(.int .i64 ((kn : Nat) : Int)), (.slice xa21 (txO [] l1).reads.length xc22), (.slice xa23 (txO [] l1).writes.length xc24)], 75⟩] [] := S82
   refine stNew S82 (v := fun n => .slice (some ⟨n, 0, none⟩) 1 1) rfl (ex_lit (ps := #[(0, (.int .u8 2))]) (cells := #[(.int .u8 2)]) (E := 5) (bmap1 rfl) (fun w => by kernel_rfl)) (fun n83 w84 S85 => ?_)
   simp only [pS, pN, pA, pC, pZ]
   have S85 : St W (whole W) w84 F68 [⟨n83, [(.int .u8 2)], 5⟩, ⟨n80, [(.int .u8 1)], 5⟩, ⟨n27, [(.int .i64 ((kn : Nat) : Int)), (.slice xa21 (txO [] l1).reads.length xc22), (.slice xa23 (txO [] l1).writes.length xc24)], 75⟩] [] := S85
   refine do_ rfl (.agg #[(.slice (some ⟨n80, 0, none⟩) 1 1), (.slice (some ⟨n83, 0, none⟩) 1 1), (.bool false), (.slice none 0 0)]) (ex_build (ps := #[(0, (.slice (some ⟨n80, 0, none⟩) 1 1)), (1, (.slice (some ⟨n83, 0, none⟩) 1 1))]) (bmap2 rfl rfl) (by kernel_rfl)) ?_
   simp only [pS, pN, pA, pC, pZ]
   obtain ⟨S86, le87, hc88⟩ := St.freezeBlk S85 (i := 1) rfl
   have r90 : Bs _ (.slice (some ⟨n80, 0, none⟩) 1 1) ([1] : By) := bs_of_block (l := ([1] : By)) hc88 (rfl) (by unfold maxLen; simp)
   generalize addF F68 w84 n80 = F89 at *
   have S86 : St W (whole W) w84 F89 [⟨n83, [(.int .u8 2)], 5⟩, ⟨n27, [(.int .i64 ((kn : Nat) : Int)), (.slice xa21 (txO [] l1).reads.length xc22), (.slice xa23 (txO [] l1).writes.length xc24)], 75⟩] [] := S86
   obtain ⟨S91, le92, hc93⟩ := St.freezeBlk S86 (i := 0) rfl
   have r95 : Bs _ (.slice (some ⟨n83, 0, none⟩) 1 1) ([2] : By) := bs_of_block (l := ([2] : By)) hc93 (rfl) (by unfold maxLen; simp)
   generalize addF F89 w84 n83 = F94 at *
   have S91 : St W (whole W) w84 F94 [⟨n27, [(.int .i64 ((kn : Nat) : Int)), (.slice xa21 (txO [] l1).reads.length xc22), (.slice xa23 (txO [] l1).writes.length xc24)], 75⟩] [] := S91
   refine stGives S91 rfl (ex_fn (vs := #[(.agg #[(.int .i64 0), (.slice none 0 0), (.slice none 0 0)]), (.agg #[(.slice (some ⟨n80, 0, none⟩) 1 1), (.slice (some ⟨n83, 0, none⟩) 1 1), (.bool false), (.slice none 0 0)])]) (map2 rfl rfl) rfl (ent_46 _ _)) (txnNoteIs_spec _ _ _ _ nilX (⟨([1] : By), ([2] : By), false, ([] : By)⟩ : Rd) (⟨0, [(⟨([1] : By), ([2] : By), false, ([] : By)⟩ : Rd)], []⟩ : Tx) (S91).sat (TxV.nil _) ⟨_, _, _, _, _, _, rfl, (r90.mono le92), r95, (Bs.nil _)⟩ nilX_ok hRS hS) ?_
   intro v101 w96 F98 S97 le99 R100
   obtain ⟨_, rfl, R102⟩ := R100
   obtain ⟨xa103, xc104, xa105, xc106, rfl, r107, r108⟩ := R102
   simp only [pS, pN, pA, pC, pZ]
   refine do_ rfl (.tuple #[(.agg #[(.int .i64 (⟨0, [(⟨([1] : By), ([2] : By), false, ([] : By)⟩ : Rd)], []⟩ : Tx).start), (.slice xa103 (⟨0, [(⟨([1] : By), ([2] : By), false, ([] : By)⟩ : Rd)], []⟩ : Tx).reads.length xc104), (.slice xa105 (⟨0, [(⟨([1] : By), ([2] : By), false, ([] : By)⟩ : Rd)], []⟩ : Tx).writes.length xc106)]), (.int .i64 0)]) (ex_move _) ?_
   simp only [pS, pN, pA, pC, pZ]
   refine do_ rfl (.agg #[(.int .i64 (⟨0, [(⟨([1] : By), ([2] : By), false, ([] : By)⟩ : Rd)], []⟩ : Tx).start), (.slice xa103 (⟨0, [(⟨([1] : By), ([2] : By), false, ([] : By)⟩ : Rd)], []⟩ : Tx).reads.length xc104), (.slice xa105 (⟨0, [(⟨([1] : By), ([2] : By), false, ([] : By)⟩ : Rd)], []⟩ : Tx).writes.length xc106)]) (ex_extract rfl rfl) ?_
   simp only [pS, pN, pA, pC, pZ]
   refine do_ rfl (.int .i64 0) (ex_extract rfl rfl) ?_
   simp only [pS, pN, pA, pC, pZ]
   refine stNew S97 (v := fun n => .pointer (some ⟨n, 0, none⟩)) rfl (ex_alloc (zero_75 _)) (fun n109 w110 S111 => ?_)
   simp only [pS, pN, pA, pC, pZ]
   have S111 : St W (whole W) w110 F98 [⟨n109, [(.int .i64 0), (.slice none 0 0), (.slice none 0 0)], 75⟩, ⟨n27, [(.int .i64 ((kn : Nat) : Int)), (.slice xa21 (txO [] l1).reads.length xc22), (.slice xa23 (txO [] l1).writes.length xc24)], 75⟩] [] := S111
   refine stStore (i := 0) (v := (.agg #[(.int .i64 (⟨0, [(⟨([1] : By), ([2] : By), false, ([] : By)⟩ : Rd)], []⟩ : Tx).start), (.slice xa103 (⟨0, [(⟨([1] : By), ([2] : By), false, ([] : By)⟩ : Rd)], []⟩ : Tx).reads.length xc104), (.slice xa105 (⟨0, [(⟨([1] : By), ([2] : By), false, ([] : By)⟩ : Rd)], []⟩ : Tx).writes.length xc106)])) S111 rfl rfl rfl rfl (size_75) (allc3 rfl rfl rfl) (Nat.le_of_ble_eq_true rfl) (fun w112 S113 => ?_)
   simp only [pS, pN, pA, pC, pZ]
   have S113 : St W (whole W) w112 F98 [⟨n109, [(.int .i64 (⟨0, [(⟨([1] : By), ([2] : By), false, ([] : By)⟩ : Rd)], []⟩ : Tx).start), (.slice xa103 (⟨0, [(⟨([1] : By), ([2] : By), false, ([] : By)⟩ : Rd)], []⟩ : Tx).reads.length xc104), (.slice xa105 (⟨0, [(⟨([1] : By), ([2] : By), false, ([] : By)⟩ : Rd)], []⟩ : Tx).writes.length xc106)], 75⟩, ⟨n27, [(.int .i64 ((kn : Nat) : Int)), (.slice xa21 (txO [] l1).reads.length xc22), (.slice xa23 (txO [] l1).writes.length xc24)], 75⟩] [] := S113
   refine do_ rfl (.int .i64 0) (ex_assign _) ?_
   simp only [pS, pN, pA, pC, pZ]
   refine wl_nil (hK79 _ _ ?_)
   refine wp_seq_k (fun K114 hK114 => region_wl ?_)
   refine do_ rfl (.agg #[(.int .i64 (⟨0, [(⟨([1] : By), ([2] : By), false, ([] : By)⟩ : Rd)], []⟩ : Tx).start), (.slice xa103 (⟨0, [(⟨([1] : By), ([2] : By), false, ([] : By)⟩ : Rd)], []⟩ : Tx).reads.length xc104), (.slice xa105 (⟨0, [(⟨([1] : By), ([2] : By), false, ([] : By)⟩ : Rd)], []⟩ : Tx).writes.length xc106)]) (ex_load rfl (loadN (cs := [(.int .i64 (⟨0, [(⟨([1] : By), ([2] : By), false, ([] : By)⟩ : Rd)], []⟩ : Tx).start), (.slice xa103 (⟨0, [(⟨([1] : By), ([2] : By), false, ([] : By)⟩ : Rd)], []⟩ : Tx).reads.length xc104), (.slice xa105 (⟨0, [(⟨([1] : By), ([2] : By), false, ([] : By)⟩ : Rd)], []⟩ : Tx).writes.length xc106)]) Try.underlying75 rfl (size_75) (St.range S113 (i := 0) rfl 0 [(.int .i64 (⟨0, [(⟨([1] : By), ([2] : By), false, ([] : By)⟩ : Rd)], []⟩ : Tx).start), (.slice xa103 (⟨0, [(⟨([1] : By), ([2] : By), false, ([] : By)⟩ : Rd)], []⟩ : Tx).reads.length xc104), (.slice xa105 (⟨0, [(⟨([1] : By), ([2] : By), false, ([] : By)⟩ : Rd)], []⟩ : Tx).writes.length xc106)] (sub_range 0 rfl)))) ?_
   simp only [pS, pN, pA, pC, pZ]
   refine stNew S113 (v := fun n => .slice (some ⟨n, 0, none⟩) 1 1) rfl (ex_lit (ps := #[(0, (.int .u8 1))]) (cells := #[(.int .u8 1)]) (E := 5) (bmap1 rfl) (fun w => by kernel_rfl)) (fun n115 w116 S117 => ?_)
   simp only [pS, pN, pA, pC, pZ]
   have S117 : St W (whole W) w116 F98 [⟨n115, [(.int .u8 1)], 5⟩, ⟨n109, [(.int .i64 (⟨0, [(⟨([1] : By), ([2] : By), false, ([] : By)⟩ : Rd)], []⟩ : Tx).start), (.slice xa103 (⟨0, [(⟨([1] : By), ([2] : By), false, ([] : By)⟩ : Rd)], []⟩ : Tx).reads.length xc104), (.slice xa105 (⟨0, [(⟨([1] : By), ([2] : By), false, ([] : By)⟩ : Rd)], []⟩ : Tx).writes.length xc106)], 75⟩, ⟨n27, [(.int .i64 ((kn : Nat) : Int)), (.slice xa21 (txO [] l1).reads.length xc22), (.slice xa23 (txO [] l1).writes.length xc24)], 75⟩] [] := S117
   refine stNew S117 (v := fun n => .slice (some ⟨n, 0, none⟩) 1 1) rfl (ex_lit (ps := #[(0, (.int .u8 2))]) (cells := #[(.int .u8 2)]) (E := 5) (bmap1 rfl) (fun w => by kernel_rfl)) (fun n118 w119 S120 => ?_)
   simp only [pS, pN, pA, pC, pZ]
   have S120 : St W (whole W) w119 F98 [⟨n118, [(.int .u8 2)], 5⟩, ⟨n115, [(.int .u8 1)], 5⟩, ⟨n109, [(.int .i64 (⟨0, [(⟨([1] : By), ([2] : By), false, ([] : By)⟩ : Rd)], []⟩ : Tx).start), (.slice xa103 (⟨0, [(⟨([1] : By), ([2] : By), false, ([] : By)⟩ : Rd)], []⟩ : Tx).reads.length xc104), (.slice xa105 (⟨0, [(⟨([1] : By), ([2] : By), false, ([] : By)⟩ : Rd)], []⟩ : Tx).writes.length xc106)], 75⟩, ⟨n27, [(.int .i64 ((kn : Nat) : Int)), (.slice xa21 (txO [] l1).reads.length xc22), (.slice xa23 (txO [] l1).writes.length xc24)], 75⟩] [] := S120
   refine do_ rfl (.agg #[(.slice (some ⟨n115, 0, none⟩) 1 1), (.slice (some ⟨n118, 0, none⟩) 1 1), (.bool false), (.slice none 0 0)]) (ex_build (ps := #[(0, (.slice (some ⟨n115, 0, none⟩) 1 1)), (1, (.slice (some ⟨n118, 0, none⟩) 1 1))]) (bmap2 rfl rfl) (by kernel_rfl)) ?_
   simp only [pS, pN, pA, pC, pZ]
   refine stNew S120 (v := fun n => .slice (some ⟨n, 0, none⟩) 1 1) rfl (ex_lit (ps := #[(0, (.agg #[(.slice (some ⟨n115, 0, none⟩) 1 1), (.slice (some ⟨n118, 0, none⟩) 1 1), (.bool false), (.slice none 0 0)]))]) (cells := #[(.slice (some ⟨n115, 0, none⟩) 1 1), (.slice (some ⟨n118, 0, none⟩) 1 1), (.bool false), (.slice none 0 0)]) (E := 27) (bmap1 rfl) (fun w => by kernel_rfl)) (fun n121 w122 S123 => ?_)
   simp only [pS, pN, pA, pC, pZ]
   have S123 : St W (whole W) w122 F98 [⟨n121, [(.slice (some ⟨n115, 0, none⟩) 1 1), (.slice (some ⟨n118, 0, none⟩) 1 1), (.bool false), (.slice none 0 0)], 27⟩, ⟨n118, [(.int .u8 2)], 5⟩, ⟨n115, [(.int .u8 1)], 5⟩, ⟨n109, [(.int .i64 (⟨0, [(⟨([1] : By), ([2] : By), false, ([] : By)⟩ : Rd)], []⟩ : Tx).start), (.slice xa103 (⟨0, [(⟨([1] : By), ([2] : By), false, ([] : By)⟩ : Rd)], []⟩ : Tx).reads.length xc104), (.slice xa105 (⟨0, [(⟨([1] : By), ([2] : By), false, ([] : By)⟩ : Rd)], []⟩ : Tx).writes.length xc106)], 75⟩, ⟨n27, [(.int .i64 ((kn : Nat) : Int)), (.slice xa21 (txO [] l1).reads.length xc22), (.slice xa23 (txO [] l1).writes.length xc24)], 75⟩] [] := S123
   refine do_ rfl (.agg #[(.int .i64 1), (.slice (some ⟨n121, 0, none⟩) 1 1)]) (ex_build (ps := #[(0, (.int .i64 1)), (1, (.slice (some ⟨n121, 0, none⟩) 1 1))]) (bmap2 rfl rfl) (by kernel_rfl)) ?_
   simp only [pS, pN, pA, pC, pZ]
   refine stNew S123 (v := fun n => .slice (some ⟨n, 0, none⟩) 1 1) rfl (ex_lit (ps := #[(0, (.agg #[(.int .i64 1), (.slice (some ⟨n121, 0, none⟩) 1 1)]))]) (cells := #[(.int .i64 1), (.slice (some ⟨n121, 0, none⟩) 1 1)]) (E := 50) (bmap1 rfl) (fun w => by kernel_rfl)) (fun n124 w125 S126 => ?_)
   simp only [pS, pN, pA, pC, pZ]
   have S126 : St W (whole W) w125 F98 [⟨n124, [(.int .i64 1), (.slice (some ⟨n121, 0, none⟩) 1 1)], 50⟩, ⟨n121, [(.slice (some ⟨n115, 0, none⟩) 1 1), (.slice (some ⟨n118, 0, none⟩) 1 1), (.bool false), (.slice none 0 0)], 27⟩, ⟨n118, [(.int .u8 2)], 5⟩, ⟨n115, [(.int .u8 1)], 5⟩, ⟨n109, [(.int .i64 (⟨0, [(⟨([1] : By), ([2] : By), false, ([] : By)⟩ : Rd)], []⟩ : Tx).start), (.slice xa103 (⟨0, [(⟨([1] : By), ([2] : By), false, ([] : By)⟩ : Rd)], []⟩ : Tx).reads.length xc104), (.slice xa105 (⟨0, [(⟨([1] : By), ([2] : By), false, ([] : By)⟩ : Rd)], []⟩ : Tx).writes.length xc106)], 75⟩, ⟨n27, [(.int .i64 ((kn : Nat) : Int)), (.slice xa21 (txO [] l1).reads.length xc22), (.slice xa23 (txO [] l1).writes.length xc24)], 75⟩] [] := S126
   obtain ⟨S127, le128, hc129⟩ := St.freezeBlk S126 (i := 3) rfl
   have r131 : Bs _ (.slice (some ⟨n115, 0, none⟩) 1 1) ([1] : By) := bs_of_block (l := ([1] : By)) hc129 (rfl) (by unfold maxLen; simp)
   generalize addF F98 w125 n115 = F130 at *
   have S127 : St W (whole W) w125 F130 [⟨n124, [(.int .i64 1), (.slice (some ⟨n121, 0, none⟩) 1 1)], 50⟩, ⟨n121, [(.slice (some ⟨n115, 0, none⟩) 1 1), (.slice (some ⟨n118, 0, none⟩) 1 1), (.bool false), (.slice none 0 0)], 27⟩, ⟨n118, [(.int .u8 2)], 5⟩, ⟨n109, [(.int .i64 (⟨0, [(⟨([1] : By), ([2] : By), false, ([] : By)⟩ : Rd)], []⟩ : Tx).start), (.slice xa103 (⟨0, [(⟨([1] : By), ([2] : By), false, ([] : By)⟩ : Rd)], []⟩ : Tx).reads.length xc104), (.slice xa105 (⟨0, [(⟨([1] : By), ([2] : By), false, ([] : By)⟩ : Rd)], []⟩ : Tx).writes.length xc106)], 75⟩, ⟨n27, [(.int .i64 ((kn : Nat) : Int)), (.slice xa21 (txO [] l1).reads.length xc22), (.slice xa23 (txO [] l1).writes.length xc24)], 75⟩] [] := S127
   obtain ⟨S132, le133, hc134⟩ := St.freezeBlk S127 (i := 2) rfl
   have r136 : Bs _ (.slice (some ⟨n118, 0, none⟩) 1 1) ([2] : By) := bs_of_block (l := ([2] : By)) hc134 (rfl) (by unfold maxLen; simp)
   generalize addF F130 w125 n118 = F135 at *
   have S132 : St W (whole W) w125 F135 [⟨n124, [(.int .i64 1), (.slice (some ⟨n121, 0, none⟩) 1 1)], 50⟩, ⟨n121, [(.slice (some ⟨n115, 0, none⟩) 1 1), (.slice (some ⟨n118, 0, none⟩) 1 1), (.bool false), (.slice none 0 0)], 27⟩, ⟨n109, [(.int .i64 (⟨0, [(⟨([1] : By), ([2] : By), false, ([] : By)⟩ : Rd)], []⟩ : Tx).start), (.slice xa103 (⟨0, [(⟨([1] : By), ([2] : By), false, ([] : By)⟩ : Rd)], []⟩ : Tx).reads.length xc104), (.slice xa105 (⟨0, [(⟨([1] : By), ([2] : By), false, ([] : By)⟩ : Rd)], []⟩ : Tx).writes.length xc106)], 75⟩, ⟨n27, [(.int .i64 ((kn : Nat) : Int)), (.slice xa21 (txO [] l1).reads.length xc22), (.slice xa23 (txO [] l1).writes.length xc24)], 75⟩] [] := S132
   obtain ⟨S137, le138, hc139⟩ := St.freezeBlk S132 (i := 1) rfl
   have r141 : Wrs _ (.slice (some ⟨n121, 0, none⟩) 1 1) [(⟨[1], [2], false, []⟩ : Wr)] := sl_of_block (R := WrC) (l := [(⟨[1], [2], false, []⟩ : Wr)]) (el := [[(.slice (some ⟨n115, 0, none⟩) 1 1), (.slice (some ⟨n118, 0, none⟩) 1 1), (.bool false), (.slice none 0 0)]]) hc139 rfl ⟨⟨_, _, _, _, rfl, ((r131.mono le133).mono le138), (r136.mono le138), rfl, Bs.nil _⟩, trivial⟩ (by simp) (by unfold maxLen; simp)
   generalize addF F135 w125 n121 = F140 at *
   have S137 : St W (whole W) w125 F140 [⟨n124, [(.int .i64 1), (.slice (some ⟨n121, 0, none⟩) 1 1)], 50⟩, ⟨n109, [(.int .i64 (⟨0, [(⟨([1] : By), ([2] : By), false, ([] : By)⟩ : Rd)], []⟩ : Tx).start), (.slice xa103 (⟨0, [(⟨([1] : By), ([2] : By), false, ([] : By)⟩ : Rd)], []⟩ : Tx).reads.length xc104), (.slice xa105 (⟨0, [(⟨([1] : By), ([2] : By), false, ([] : By)⟩ : Rd)], []⟩ : Tx).writes.length xc106)], 75⟩, ⟨n27, [(.int .i64 ((kn : Nat) : Int)), (.slice xa21 (txO [] l1).reads.length xc22), (.slice xa23 (txO [] l1).writes.length xc24)], 75⟩] [] := S137
   obtain ⟨S142, le143, hc144⟩ := St.freezeBlk S137 (i := 0) rfl
   have r146 : Cms _ (.slice (some ⟨n124, 0, none⟩) 1 1) [(⟨1, [(⟨[1], [2], false, []⟩ : Wr)]⟩ : Cm)] := sl_of_block (R := CmC) (l := [(⟨1, [(⟨[1], [2], false, []⟩ : Wr)]⟩ : Cm)]) (el := [[(.int .i64 1), (.slice (some ⟨n121, 0, none⟩) 1 1)]]) hc144 rfl ⟨⟨_, _, rfl, rfl, (r141.mono le143)⟩, trivial⟩ (by simp) (by unfold maxLen; simp)
   generalize addF F140 w125 n124 = F145 at *
   have S142 : St W (whole W) w125 F145 [⟨n109, [(.int .i64 (⟨0, [(⟨([1] : By), ([2] : By), false, ([] : By)⟩ : Rd)], []⟩ : Tx).start), (.slice xa103 (⟨0, [(⟨([1] : By), ([2] : By), false, ([] : By)⟩ : Rd)], []⟩ : Tx).reads.length xc104), (.slice xa105 (⟨0, [(⟨([1] : By), ([2] : By), false, ([] : By)⟩ : Rd)], []⟩ : Tx).writes.length xc106)], 75⟩, ⟨n27, [(.int .i64 ((kn : Nat) : Int)), (.slice xa21 (txO [] l1).reads.length xc22), (.slice xa23 (txO [] l1).writes.length xc24)], 75⟩] [] := S142
   have hd : (clashX ((⟨0, [(⟨([1] : By), ([2] : By), false, ([] : By)⟩ : Rd)], []⟩ : Tx).start) ((⟨0, [(⟨([1] : By), ([2] : By), false, ([] : By)⟩ : Rd)], []⟩ : Tx).reads) [(⟨1, [(⟨[1], [2], false, []⟩ : Wr)]⟩ : Cm)]) = true := by simp [clashX, touchesX]
   refine stTells (v := (.tuple #[(.bool (clashX ((⟨0, [(⟨([1] : By), ([2] : By), false, ([] : By)⟩ : Rd)], []⟩ : Tx).start) ((⟨0, [(⟨([1] : By), ([2] : By), false, ([] : By)⟩ : Rd)], []⟩ : Tx).reads) [(⟨1, [(⟨[1], [2], false, []⟩ : Wr)]⟩ : Cm)])), (.int .i64 0)])) S142 rfl (ex_fn (vs := #[(.agg #[(.int .i64 (⟨0, [(⟨([1] : By), ([2] : By), false, ([] : By)⟩ : Rd)], []⟩ : Tx).start), (.slice xa103 (⟨0, [(⟨([1] : By), ([2] : By), false, ([] : By)⟩ : Rd)], []⟩ : Tx).reads.length xc104), (.slice xa105 (⟨0, [(⟨([1] : By), ([2] : By), false, ([] : By)⟩ : Rd)], []⟩ : Tx).writes.length xc106)]), (.slice (some ⟨n124, 0, none⟩) 1 1)]) (map2 rfl rfl) rfl (ent_47 _ _)) (clashOk_spec _ _ _ _ (⟨0, [(⟨([1] : By), ([2] : By), false, ([] : By)⟩ : Rd)], []⟩ : Tx) [(⟨1, [(⟨[1], [2], false, []⟩ : Wr)]⟩ : Cm)] (S142).sat ⟨_, _, _, _, rfl, (r107.mono (((le128.trans le133).trans le138).trans le143)), (r108.mono (((le128.trans le133).trans le138).trans le143))⟩ r146 (by intro c hc; rw [List.mem_singleton.1 hc]; simp) hSk) (fun w147 S148 => ?_)
   simp only [pS, pN, pA, pC, pZ]
   refine do_ rfl (.tuple #[(.bool (clashX ((⟨0, [(⟨([1] : By), ([2] : By), false, ([] : By)⟩ : Rd)], []⟩ : Tx).start) ((⟨0, [(⟨([1] : By), ([2] : By), false, ([] : By)⟩ : Rd)], []⟩ : Tx).reads) [(⟨1, [(⟨[1], [2], false, []⟩ : Wr)]⟩ : Cm)])), (.int .i64 0)]) (ex_move _) ?_
   simp only [pS, pN, pA, pC, pZ]
   refine do_ rfl (.bool (clashX ((⟨0, [(⟨([1] : By), ([2] : By), false, ([] : By)⟩ : Rd)], []⟩ : Tx).start) ((⟨0, [(⟨([1] : By), ([2] : By), false, ([] : By)⟩ : Rd)], []⟩ : Tx).reads) [(⟨1, [(⟨[1], [2], false, []⟩ : Wr)]⟩ : Cm)])) (ex_extract rfl rfl) ?_
   simp only [pS, pN, pA, pC, pZ]
   refine do_ rfl (.int .i64 0) (ex_extract rfl rfl) ?_
   simp only [pS, pN, pA, pC, pZ]
   refine do_ rfl (.bool (clashX ((⟨0, [(⟨([1] : By), ([2] : By), false, ([] : By)⟩ : Rd)], []⟩ : Tx).start) ((⟨0, [(⟨([1] : By), ([2] : By), false, ([] : By)⟩ : Rd)], []⟩ : Tx).reads) [(⟨1, [(⟨[1], [2], false, []⟩ : Wr)]⟩ : Cm)])) (ex_assign _) ?_
   simp only [pS, pN, pA, pC, pZ]
   refine do_ rfl (.int .i64 0) (ex_assign _) ?_
   simp only [pS, pN, pA, pC, pZ]
   refine wl_nil (hK114 _ _ ?_)
   refine wp_seq_k (fun K149 hK149 => ?_)
   rw [hd]
   refine region_wl ?_
   refine do_ rfl (.int .i64 0) (ex_move _) ?_
   simp only [pS, pN, pA, pC, pZ]
   refine do_ rfl (.bool true) (ex_eql (b := true) rfl rfl (by decide)) ?_
   simp only [pS, pN, pA, pC, pZ]
   refine do_ rfl (.bool true) (ex_move _) ?_
   simp only [pS, pN, pA, pC, pZ]
   refine do_ rfl (.int .i64 0) (ex_move _) ?_
   simp only [pS, pN, pA, pC, pZ]
   refine do_ rfl (.bool true) (ex_eql (b := true) rfl rfl (by decide)) ?_
   simp only [pS, pN, pA, pC, pZ]
   refine do_ rfl (.bool true) (ex_pick (b := true) rfl) ?_
   simp only [pS, pN, pA, pC, pZ]
   refine do_ rfl (.bool true) (ex_move _) ?_
   simp only [pS, pN, pA, pC, pZ]
   refine do_ rfl (.bool true) (ex_move _) ?_
   simp only [pS, pN, pA, pC, pZ]
   refine do_ rfl (.bool true) (ex_pick (b := true) rfl) ?_
   simp only [pS, pN, pA, pC, pZ]
   refine do_ rfl (.bool true) (ex_move _) ?_
   simp only [pS, pN, pA, pC, pZ]
   refine do_ rfl (.pointer (some ⟨n27, 1, none⟩)) (ex_field (q := ⟨n27, 1, none⟩) rfl (fa_75_1 _ _)) ?_
   simp only [pS, pN, pA, pC, pZ]
   refine do_ rfl (.slice xa21 (txO [] l1).reads.length xc22) (ex_load rfl (load1 (nagg_73 _) (St.cell S148 (i := 1) rfl rfl))) ?_
   simp only [pS, pN, pA, pC, pZ]
   refine do_ rfl (.int .i64 (((txO [] l1).reads.length : Nat) : Int)) (ex_len Try.underlying73 rfl) ?_
   simp only [pS, pN, pA, pC, pZ]
   refine do_ rfl (.bool true) (ex_gtr (m := (((txO [] l1).reads.length : Nat) : Int)) (n := (0 : Int)) (b := true) rfl rfl (decide_eq_true (by omega))) ?_
   simp only [pS, pN, pA, pC, pZ]
   refine do_ rfl (.bool true) (ex_move _) ?_
   simp only [pS, pN, pA, pC, pZ]
   refine doN (wanted_no rfl rfl rfl (c := true) rfl (by decide)) ?_
   simp only [pS, pN, pA, pC, pZ]
   refine doN (wanted_no rfl rfl rfl (c := true) rfl (by decide)) ?_
   simp only [pS, pN, pA, pC, pZ]
   refine do_ rfl (.bool true) (ex_pick (b := true) rfl) ?_
   simp only [pS, pN, pA, pC, pZ]
   refine do_ rfl (.bool true) (ex_pick (b := true) rfl) ?_
   simp only [pS, pN, pA, pC, pZ]
   refine do_ rfl (.bool true) (ex_move _) ?_
   simp only [pS, pN, pA, pC, pZ]
   refine do_ rfl (.pointer (some ⟨n27, 0, none⟩)) (ex_field (q := ⟨n27, 0, none⟩) rfl (fa_75_0 _ _)) ?_
   simp only [pS, pN, pA, pC, pZ]
   refine do_ rfl (.int .i64 ((kn : Nat) : Int)) (ex_load rfl (load1 (nagg_3 _) (St.cell S148 (i := 1) rfl rfl))) ?_
   simp only [pS, pN, pA, pC, pZ]
   refine do_ rfl (.slice a9 cs.length c10) (ex_move _) ?_
   simp only [pS, pN, pA, pC, pZ]
   refine do_ rfl (.int .i64 ((cs.length : Nat) : Int)) (ex_len Try.underlying60 rfl) ?_
   simp only [pS, pN, pA, pC, pZ]
   refine do_ rfl (.bool true) (ex_lss (m := ((kn : Nat) : Int)) (n := ((cs.length : Nat) : Int)) (b := true) rfl rfl (decide_eq_true (by omega))) ?_
   simp only [pS, pN, pA, pC, pZ]
   refine do_ rfl (.bool true) (ex_move _) ?_
   simp only [pS, pN, pA, pC, pZ]
   refine doN (wanted_no rfl rfl rfl (c := true) rfl (by decide)) ?_
   simp only [pS, pN, pA, pC, pZ]
   refine doN (wanted_no rfl rfl rfl (c := true) rfl (by decide)) ?_
   simp only [pS, pN, pA, pC, pZ]
   refine do_ rfl (.bool true) (ex_pick (b := true) rfl) ?_
   simp only [pS, pN, pA, pC, pZ]
   refine do_ rfl (.bool true) (ex_pick (b := true) rfl) ?_
   simp only [pS, pN, pA, pC, pZ]
   refine do_ rfl (.bool true) (ex_assign _) ?_
   simp only [pS, pN, pA, pC, pZ]
   refine wl_nil (hK149 _ _ ?_)
   refine wp_ret ?_
   (try simp only [Exit.then, Exit.inBlock, ↓reduceIte, Nat.reduceEqDiff])
   refine bodyPost_ret (v := (.bool true)) ?_ rfl ?_
   ·exact res_t rfl rfl
   ·exact ⟨rfl, S148.gr.below⟩
  ·refine do_ rfl (.bool false) (ex_lss (m := ((k : Nat) : Int)) (n := (((txO [] l1).reads.length : Nat) : Int)) (b := false) rfl rfl (decide_eq_false (by omega))) ?_
   simp only [pS, pN, pA, pC, pZ]
   refine do_ rfl (.bool false) (ex_move _) ?_
   simp only [pS, pN, pA, pC, pZ]
   refine doN (wanted_no rfl rfl rfl (c := false) rfl (by decide)) ?_
   simp only [pS, pN, pA, pC, pZ]
   refine doN (wanted_no rfl rfl rfl (c := false) rfl (by decide)) ?_
   simp only [pS, pN, pA, pC, pZ]
   refine do_ rfl (.bool false) (ex_pick (b := false) rfl) ?_
   simp only [pS, pN, pA, pC, pZ]
   refine wl_nil (hK78 _ _ ?_)
   refine wp_cond_false rfl ?_
   refine wp_exit ?_
   refine hK66 _ _ ?_
   refine wp_seq_k (fun K150 hK150 => ?_)
   have hRS : RdOk (⟨([1] : By), ([2] : By), false, ([] : By)⟩ : Rd) := ⟨by simp [NameOk], by simp, by simp⟩
   have hS : noteX nilX (⟨([1] : By), ([2] : By), false, ([] : By)⟩ : Rd) = some (⟨0, [(⟨([1] : By), ([2] : By), false, ([] : By)⟩ : Rd)], []⟩ : Tx) := by unfold noteX nilX; rw [if_neg (by simp), if_neg (by simp)]; rfl
   have hSk := noteX_ok nilX_ok hRS hS
   refine region_wl ?_
   refine do_ rfl (.agg #[(.int .i64 0), (.slice none 0 0), (.slice none 0 0)]) (ex_build (ps := #[]) (bmap0) (by kernel_rfl)) ?_
   simp only [pS, pN, pA, pC, pZ]
   refine stNew S74 (v := fun n => .slice (some ⟨n, 0, none⟩) 1 1) rfl (ex_lit (ps := #[(0, (.int .u8 1))]) (cells := #[(.int .u8 1)]) (E := 5) (bmap1 rfl) (fun w => by kernel_rfl)) (fun n151 w152 S153 => ?_)
   simp only [pS, pN, pA, pC, pZ]
   have S153 : St W (whole W) w152 F68 [⟨n151, [(.int .u8 1)], 5⟩, ⟨n27, [(.int .i64 ((kn : Nat) : Int)), (.slice xa21 (txO [] l1).reads.length xc22), (.slice xa23 (txO [] l1).writes.length xc24)], 75⟩] [] := S153
   refine stNew S153 (v := fun n => .slice (some ⟨n, 0, none⟩) 1 1) rfl (ex_lit (ps := #[(0, (.int .u8 2))]) (cells := #[(.int .u8 2)]) (E := 5) (bmap1 rfl) (fun w => by kernel_rfl)) (fun n154 w155 S156 => ?_)
   simp only [pS, pN, pA, pC, pZ]
   have S156 : St W (whole W) w155 F68 [⟨n154, [(.int .u8 2)], 5⟩, ⟨n151, [(.int .u8 1)], 5⟩, ⟨n27, [(.int .i64 ((kn : Nat) : Int)), (.slice xa21 (txO [] l1).reads.length xc22), (.slice xa23 (txO [] l1).writes.length xc24)], 75⟩] [] := S156
   refine do_ rfl (.agg #[(.slice (some ⟨n151, 0, none⟩) 1 1), (.slice (some ⟨n154, 0, none⟩) 1 1), (.bool false), (.slice none 0 0)]) (ex_build (ps := #[(0, (.slice (some ⟨n151, 0, none⟩) 1 1)), (1, (.slice (some ⟨n154, 0, none⟩) 1 1))]) (bmap2 rfl rfl) (by kernel_rfl)) ?_
   simp only [pS, pN, pA, pC, pZ]
   obtain ⟨S157, le158, hc159⟩ := St.freezeBlk S156 (i := 1) rfl
   have r161 : Bs _ (.slice (some ⟨n151, 0, none⟩) 1 1) ([1] : By) := bs_of_block (l := ([1] : By)) hc159 (rfl) (by unfold maxLen; simp)
   generalize addF F68 w155 n151 = F160 at *
   have S157 : St W (whole W) w155 F160 [⟨n154, [(.int .u8 2)], 5⟩, ⟨n27, [(.int .i64 ((kn : Nat) : Int)), (.slice xa21 (txO [] l1).reads.length xc22), (.slice xa23 (txO [] l1).writes.length xc24)], 75⟩] [] := S157
   obtain ⟨S162, le163, hc164⟩ := St.freezeBlk S157 (i := 0) rfl
   have r166 : Bs _ (.slice (some ⟨n154, 0, none⟩) 1 1) ([2] : By) := bs_of_block (l := ([2] : By)) hc164 (rfl) (by unfold maxLen; simp)
   generalize addF F160 w155 n154 = F165 at *
   have S162 : St W (whole W) w155 F165 [⟨n27, [(.int .i64 ((kn : Nat) : Int)), (.slice xa21 (txO [] l1).reads.length xc22), (.slice xa23 (txO [] l1).writes.length xc24)], 75⟩] [] := S162
   refine stGives S162 rfl (ex_fn (vs := #[(.agg #[(.int .i64 0), (.slice none 0 0), (.slice none 0 0)]), (.agg #[(.slice (some ⟨n151, 0, none⟩) 1 1), (.slice (some ⟨n154, 0, none⟩) 1 1), (.bool false), (.slice none 0 0)])]) (map2 rfl rfl) rfl (ent_46 _ _)) (txnNoteIs_spec _ _ _ _ nilX (⟨([1] : By), ([2] : By), false, ([] : By)⟩ : Rd) (⟨0, [(⟨([1] : By), ([2] : By), false, ([] : By)⟩ : Rd)], []⟩ : Tx) (S162).sat (TxV.nil _) ⟨_, _, _, _, _, _, rfl, (r161.mono le163), r166, (Bs.nil _)⟩ nilX_ok hRS hS) ?_
   intro v172 w167 F169 S168 le170 R171
   obtain ⟨_, rfl, R173⟩ := R171
   obtain ⟨xa174, xc175, xa176, xc177, rfl, r178, r179⟩ := R173
   simp only [pS, pN, pA, pC, pZ]
   refine do_ rfl (.tuple #[(.agg #[(.int .i64 (⟨0, [(⟨([1] : By), ([2] : By), false, ([] : By)⟩ : Rd)], []⟩ : Tx).start), (.slice xa174 (⟨0, [(⟨([1] : By), ([2] : By), false, ([] : By)⟩ : Rd)], []⟩ : Tx).reads.length xc175), (.slice xa176 (⟨0, [(⟨([1] : By), ([2] : By), false, ([] : By)⟩ : Rd)], []⟩ : Tx).writes.length xc177)]), (.int .i64 0)]) (ex_move _) ?_
   simp only [pS, pN, pA, pC, pZ]
   refine do_ rfl (.agg #[(.int .i64 (⟨0, [(⟨([1] : By), ([2] : By), false, ([] : By)⟩ : Rd)], []⟩ : Tx).start), (.slice xa174 (⟨0, [(⟨([1] : By), ([2] : By), false, ([] : By)⟩ : Rd)], []⟩ : Tx).reads.length xc175), (.slice xa176 (⟨0, [(⟨([1] : By), ([2] : By), false, ([] : By)⟩ : Rd)], []⟩ : Tx).writes.length xc177)]) (ex_extract rfl rfl) ?_
   simp only [pS, pN, pA, pC, pZ]
   refine do_ rfl (.int .i64 0) (ex_extract rfl rfl) ?_
   simp only [pS, pN, pA, pC, pZ]
   refine stNew S168 (v := fun n => .pointer (some ⟨n, 0, none⟩)) rfl (ex_alloc (zero_75 _)) (fun n180 w181 S182 => ?_)
   simp only [pS, pN, pA, pC, pZ]
   have S182 : St W (whole W) w181 F169 [⟨n180, [(.int .i64 0), (.slice none 0 0), (.slice none 0 0)], 75⟩, ⟨n27, [(.int .i64 ((kn : Nat) : Int)), (.slice xa21 (txO [] l1).reads.length xc22), (.slice xa23 (txO [] l1).writes.length xc24)], 75⟩] [] := S182
   refine stStore (i := 0) (v := (.agg #[(.int .i64 (⟨0, [(⟨([1] : By), ([2] : By), false, ([] : By)⟩ : Rd)], []⟩ : Tx).start), (.slice xa174 (⟨0, [(⟨([1] : By), ([2] : By), false, ([] : By)⟩ : Rd)], []⟩ : Tx).reads.length xc175), (.slice xa176 (⟨0, [(⟨([1] : By), ([2] : By), false, ([] : By)⟩ : Rd)], []⟩ : Tx).writes.length xc177)])) S182 rfl rfl rfl rfl (size_75) (allc3 rfl rfl rfl) (Nat.le_of_ble_eq_true rfl) (fun w183 S184 => ?_)
   simp only [pS, pN, pA, pC, pZ]
   have S184 : St W (whole W) w183 F169 [⟨n180, [(.int .i64 (⟨0, [(⟨([1] : By), ([2] : By), false, ([] : By)⟩ : Rd)], []⟩ : Tx).start), (.slice xa174 (⟨0, [(⟨([1] : By), ([2] : By), false, ([] : By)⟩ : Rd)], []⟩ : Tx).reads.length xc175), (.slice xa176 (⟨0, [(⟨([1] : By), ([2] : By), false, ([] : By)⟩ : Rd)], []⟩ : Tx).writes.length xc177)], 75⟩, ⟨n27, [(.int .i64 ((kn : Nat) : Int)), (.slice xa21 (txO [] l1).reads.length xc22), (.slice xa23 (txO [] l1).writes.length xc24)], 75⟩] [] := S184
   refine do_ rfl (.int .i64 0) (ex_assign _) ?_
   simp only [pS, pN, pA, pC, pZ]
   refine wl_nil (hK150 _ _ ?_)
   refine wp_seq_k (fun K185 hK185 => region_wl ?_)
   refine do_ rfl (.agg #[(.int .i64 (⟨0, [(⟨([1] : By), ([2] : By), false, ([] : By)⟩ : Rd)], []⟩ : Tx).start), (.slice xa174 (⟨0, [(⟨([1] : By), ([2] : By), false, ([] : By)⟩ : Rd)], []⟩ : Tx).reads.length xc175), (.slice xa176 (⟨0, [(⟨([1] : By), ([2] : By), false, ([] : By)⟩ : Rd)], []⟩ : Tx).writes.length xc177)]) (ex_load rfl (loadN (cs := [(.int .i64 (⟨0, [(⟨([1] : By), ([2] : By), false, ([] : By)⟩ : Rd)], []⟩ : Tx).start), (.slice xa174 (⟨0, [(⟨([1] : By), ([2] : By), false, ([] : By)⟩ : Rd)], []⟩ : Tx).reads.length xc175), (.slice xa176 (⟨0, [(⟨([1] : By), ([2] : By), false, ([] : By)⟩ : Rd)], []⟩ : Tx).writes.length xc177)]) Try.underlying75 rfl (size_75) (St.range S184 (i := 0) rfl 0 [(.int .i64 (⟨0, [(⟨([1] : By), ([2] : By), false, ([] : By)⟩ : Rd)], []⟩ : Tx).start), (.slice xa174 (⟨0, [(⟨([1] : By), ([2] : By), false, ([] : By)⟩ : Rd)], []⟩ : Tx).reads.length xc175), (.slice xa176 (⟨0, [(⟨([1] : By), ([2] : By), false, ([] : By)⟩ : Rd)], []⟩ : Tx).writes.length xc177)] (sub_range 0 rfl)))) ?_
   simp only [pS, pN, pA, pC, pZ]
   refine stNew S184 (v := fun n => .slice (some ⟨n, 0, none⟩) 1 1) rfl (ex_lit (ps := #[(0, (.int .u8 1))]) (cells := #[(.int .u8 1)]) (E := 5) (bmap1 rfl) (fun w => by kernel_rfl)) (fun n186 w187 S188 => ?_)
   simp only [pS, pN, pA, pC, pZ]
   have S188 : St W (whole W) w187 F169 [⟨n186, [(.int .u8 1)], 5⟩, ⟨n180, [(.int .i64 (⟨0, [(⟨([1] : By), ([2] : By), false, ([] : By)⟩ : Rd)], []⟩ : Tx).start), (.slice xa174 (⟨0, [(⟨([1] : By), ([2] : By), false, ([] : By)⟩ : Rd)], []⟩ : Tx).reads.length xc175), (.slice xa176 (⟨0, [(⟨([1] : By), ([2] : By), false, ([] : By)⟩ : Rd)], []⟩ : Tx).writes.length xc177)], 75⟩, ⟨n27, [(.int .i64 ((kn : Nat) : Int)), (.slice xa21 (txO [] l1).reads.length xc22), (.slice xa23 (txO [] l1).writes.length xc24)], 75⟩] [] := S188
   refine stNew S188 (v := fun n => .slice (some ⟨n, 0, none⟩) 1 1) rfl (ex_lit (ps := #[(0, (.int .u8 2))]) (cells := #[(.int .u8 2)]) (E := 5) (bmap1 rfl) (fun w => by kernel_rfl)) (fun n189 w190 S191 => ?_)
   simp only [pS, pN, pA, pC, pZ]
   have S191 : St W (whole W) w190 F169 [⟨n189, [(.int .u8 2)], 5⟩, ⟨n186, [(.int .u8 1)], 5⟩, ⟨n180, [(.int .i64 (⟨0, [(⟨([1] : By), ([2] : By), false, ([] : By)⟩ : Rd)], []⟩ : Tx).start), (.slice xa174 (⟨0, [(⟨([1] : By), ([2] : By), false, ([] : By)⟩ : Rd)], []⟩ : Tx).reads.length xc175), (.slice xa176 (⟨0, [(⟨([1] : By), ([2] : By), false, ([] : By)⟩ : Rd)], []⟩ : Tx).writes.length xc177)], 75⟩, ⟨n27, [(.int .i64 ((kn : Nat) : Int)), (.slice xa21 (txO [] l1).reads.length xc22), (.slice xa23 (txO [] l1).writes.length xc24)], 75⟩] [] := S191
   refine do_ rfl (.agg #[(.slice (some ⟨n186, 0, none⟩) 1 1), (.slice (some ⟨n189, 0, none⟩) 1 1), (.bool false), (.slice none 0 0)]) (ex_build (ps := #[(0, (.slice (some ⟨n186, 0, none⟩) 1 1)), (1, (.slice (some ⟨n189, 0, none⟩) 1 1))]) (bmap2 rfl rfl) (by kernel_rfl)) ?_
   simp only [pS, pN, pA, pC, pZ]
   refine stNew S191 (v := fun n => .slice (some ⟨n, 0, none⟩) 1 1) rfl (ex_lit (ps := #[(0, (.agg #[(.slice (some ⟨n186, 0, none⟩) 1 1), (.slice (some ⟨n189, 0, none⟩) 1 1), (.bool false), (.slice none 0 0)]))]) (cells := #[(.slice (some ⟨n186, 0, none⟩) 1 1), (.slice (some ⟨n189, 0, none⟩) 1 1), (.bool false), (.slice none 0 0)]) (E := 27) (bmap1 rfl) (fun w => by kernel_rfl)) (fun n192 w193 S194 => ?_)
   simp only [pS, pN, pA, pC, pZ]
   have S194 : St W (whole W) w193 F169 [⟨n192, [(.slice (some ⟨n186, 0, none⟩) 1 1), (.slice (some ⟨n189, 0, none⟩) 1 1), (.bool false), (.slice none 0 0)], 27⟩, ⟨n189, [(.int .u8 2)], 5⟩, ⟨n186, [(.int .u8 1)], 5⟩, ⟨n180, [(.int .i64 (⟨0, [(⟨([1] : By), ([2] : By), false, ([] : By)⟩ : Rd)], []⟩ : Tx).start), (.slice xa174 (⟨0, [(⟨([1] : By), ([2] : By), false, ([] : By)⟩ : Rd)], []⟩ : Tx).reads.length xc175), (.slice xa176 (⟨0, [(⟨([1] : By), ([2] : By), false, ([] : By)⟩ : Rd)], []⟩ : Tx).writes.length xc177)], 75⟩, ⟨n27, [(.int .i64 ((kn : Nat) : Int)), (.slice xa21 (txO [] l1).reads.length xc22), (.slice xa23 (txO [] l1).writes.length xc24)], 75⟩] [] := S194
   refine do_ rfl (.agg #[(.int .i64 1), (.slice (some ⟨n192, 0, none⟩) 1 1)]) (ex_build (ps := #[(0, (.int .i64 1)), (1, (.slice (some ⟨n192, 0, none⟩) 1 1))]) (bmap2 rfl rfl) (by kernel_rfl)) ?_
   simp only [pS, pN, pA, pC, pZ]
   refine stNew S194 (v := fun n => .slice (some ⟨n, 0, none⟩) 1 1) rfl (ex_lit (ps := #[(0, (.agg #[(.int .i64 1), (.slice (some ⟨n192, 0, none⟩) 1 1)]))]) (cells := #[(.int .i64 1), (.slice (some ⟨n192, 0, none⟩) 1 1)]) (E := 50) (bmap1 rfl) (fun w => by kernel_rfl)) (fun n195 w196 S197 => ?_)
   simp only [pS, pN, pA, pC, pZ]
   have S197 : St W (whole W) w196 F169 [⟨n195, [(.int .i64 1), (.slice (some ⟨n192, 0, none⟩) 1 1)], 50⟩, ⟨n192, [(.slice (some ⟨n186, 0, none⟩) 1 1), (.slice (some ⟨n189, 0, none⟩) 1 1), (.bool false), (.slice none 0 0)], 27⟩, ⟨n189, [(.int .u8 2)], 5⟩, ⟨n186, [(.int .u8 1)], 5⟩, ⟨n180, [(.int .i64 (⟨0, [(⟨([1] : By), ([2] : By), false, ([] : By)⟩ : Rd)], []⟩ : Tx).start), (.slice xa174 (⟨0, [(⟨([1] : By), ([2] : By), false, ([] : By)⟩ : Rd)], []⟩ : Tx).reads.length xc175), (.slice xa176 (⟨0, [(⟨([1] : By), ([2] : By), false, ([] : By)⟩ : Rd)], []⟩ : Tx).writes.length xc177)], 75⟩, ⟨n27, [(.int .i64 ((kn : Nat) : Int)), (.slice xa21 (txO [] l1).reads.length xc22), (.slice xa23 (txO [] l1).writes.length xc24)], 75⟩] [] := S197
   obtain ⟨S198, le199, hc200⟩ := St.freezeBlk S197 (i := 3) rfl
   have r202 : Bs _ (.slice (some ⟨n186, 0, none⟩) 1 1) ([1] : By) := bs_of_block (l := ([1] : By)) hc200 (rfl) (by unfold maxLen; simp)
   generalize addF F169 w196 n186 = F201 at *
   have S198 : St W (whole W) w196 F201 [⟨n195, [(.int .i64 1), (.slice (some ⟨n192, 0, none⟩) 1 1)], 50⟩, ⟨n192, [(.slice (some ⟨n186, 0, none⟩) 1 1), (.slice (some ⟨n189, 0, none⟩) 1 1), (.bool false), (.slice none 0 0)], 27⟩, ⟨n189, [(.int .u8 2)], 5⟩, ⟨n180, [(.int .i64 (⟨0, [(⟨([1] : By), ([2] : By), false, ([] : By)⟩ : Rd)], []⟩ : Tx).start), (.slice xa174 (⟨0, [(⟨([1] : By), ([2] : By), false, ([] : By)⟩ : Rd)], []⟩ : Tx).reads.length xc175), (.slice xa176 (⟨0, [(⟨([1] : By), ([2] : By), false, ([] : By)⟩ : Rd)], []⟩ : Tx).writes.length xc177)], 75⟩, ⟨n27, [(.int .i64 ((kn : Nat) : Int)), (.slice xa21 (txO [] l1).reads.length xc22), (.slice xa23 (txO [] l1).writes.length xc24)], 75⟩] [] := S198
   obtain ⟨S203, le204, hc205⟩ := St.freezeBlk S198 (i := 2) rfl
   have r207 : Bs _ (.slice (some ⟨n189, 0, none⟩) 1 1) ([2] : By) := bs_of_block (l := ([2] : By)) hc205 (rfl) (by unfold maxLen; simp)
   generalize addF F201 w196 n189 = F206 at *
   have S203 : St W (whole W) w196 F206 [⟨n195, [(.int .i64 1), (.slice (some ⟨n192, 0, none⟩) 1 1)], 50⟩, ⟨n192, [(.slice (some ⟨n186, 0, none⟩) 1 1), (.slice (some ⟨n189, 0, none⟩) 1 1), (.bool false), (.slice none 0 0)], 27⟩, ⟨n180, [(.int .i64 (⟨0, [(⟨([1] : By), ([2] : By), false, ([] : By)⟩ : Rd)], []⟩ : Tx).start), (.slice xa174 (⟨0, [(⟨([1] : By), ([2] : By), false, ([] : By)⟩ : Rd)], []⟩ : Tx).reads.length xc175), (.slice xa176 (⟨0, [(⟨([1] : By), ([2] : By), false, ([] : By)⟩ : Rd)], []⟩ : Tx).writes.length xc177)], 75⟩, ⟨n27, [(.int .i64 ((kn : Nat) : Int)), (.slice xa21 (txO [] l1).reads.length xc22), (.slice xa23 (txO [] l1).writes.length xc24)], 75⟩] [] := S203
   obtain ⟨S208, le209, hc210⟩ := St.freezeBlk S203 (i := 1) rfl
   have r212 : Wrs _ (.slice (some ⟨n192, 0, none⟩) 1 1) [(⟨[1], [2], false, []⟩ : Wr)] := sl_of_block (R := WrC) (l := [(⟨[1], [2], false, []⟩ : Wr)]) (el := [[(.slice (some ⟨n186, 0, none⟩) 1 1), (.slice (some ⟨n189, 0, none⟩) 1 1), (.bool false), (.slice none 0 0)]]) hc210 rfl ⟨⟨_, _, _, _, rfl, ((r202.mono le204).mono le209), (r207.mono le209), rfl, Bs.nil _⟩, trivial⟩ (by simp) (by unfold maxLen; simp)
   generalize addF F206 w196 n192 = F211 at *
   have S208 : St W (whole W) w196 F211 [⟨n195, [(.int .i64 1), (.slice (some ⟨n192, 0, none⟩) 1 1)], 50⟩, ⟨n180, [(.int .i64 (⟨0, [(⟨([1] : By), ([2] : By), false, ([] : By)⟩ : Rd)], []⟩ : Tx).start), (.slice xa174 (⟨0, [(⟨([1] : By), ([2] : By), false, ([] : By)⟩ : Rd)], []⟩ : Tx).reads.length xc175), (.slice xa176 (⟨0, [(⟨([1] : By), ([2] : By), false, ([] : By)⟩ : Rd)], []⟩ : Tx).writes.length xc177)], 75⟩, ⟨n27, [(.int .i64 ((kn : Nat) : Int)), (.slice xa21 (txO [] l1).reads.length xc22), (.slice xa23 (txO [] l1).writes.length xc24)], 75⟩] [] := S208
   obtain ⟨S213, le214, hc215⟩ := St.freezeBlk S208 (i := 0) rfl
   have r217 : Cms _ (.slice (some ⟨n195, 0, none⟩) 1 1) [(⟨1, [(⟨[1], [2], false, []⟩ : Wr)]⟩ : Cm)] := sl_of_block (R := CmC) (l := [(⟨1, [(⟨[1], [2], false, []⟩ : Wr)]⟩ : Cm)]) (el := [[(.int .i64 1), (.slice (some ⟨n192, 0, none⟩) 1 1)]]) hc215 rfl ⟨⟨_, _, rfl, rfl, (r212.mono le214)⟩, trivial⟩ (by simp) (by unfold maxLen; simp)
   generalize addF F211 w196 n195 = F216 at *
   have S213 : St W (whole W) w196 F216 [⟨n180, [(.int .i64 (⟨0, [(⟨([1] : By), ([2] : By), false, ([] : By)⟩ : Rd)], []⟩ : Tx).start), (.slice xa174 (⟨0, [(⟨([1] : By), ([2] : By), false, ([] : By)⟩ : Rd)], []⟩ : Tx).reads.length xc175), (.slice xa176 (⟨0, [(⟨([1] : By), ([2] : By), false, ([] : By)⟩ : Rd)], []⟩ : Tx).writes.length xc177)], 75⟩, ⟨n27, [(.int .i64 ((kn : Nat) : Int)), (.slice xa21 (txO [] l1).reads.length xc22), (.slice xa23 (txO [] l1).writes.length xc24)], 75⟩] [] := S213
   have hd : (clashX ((⟨0, [(⟨([1] : By), ([2] : By), false, ([] : By)⟩ : Rd)], []⟩ : Tx).start) ((⟨0, [(⟨([1] : By), ([2] : By), false, ([] : By)⟩ : Rd)], []⟩ : Tx).reads) [(⟨1, [(⟨[1], [2], false, []⟩ : Wr)]⟩ : Cm)]) = true := by simp [clashX, touchesX]
   refine stTells (v := (.tuple #[(.bool (clashX ((⟨0, [(⟨([1] : By), ([2] : By), false, ([] : By)⟩ : Rd)], []⟩ : Tx).start) ((⟨0, [(⟨([1] : By), ([2] : By), false, ([] : By)⟩ : Rd)], []⟩ : Tx).reads) [(⟨1, [(⟨[1], [2], false, []⟩ : Wr)]⟩ : Cm)])), (.int .i64 0)])) S213 rfl (ex_fn (vs := #[(.agg #[(.int .i64 (⟨0, [(⟨([1] : By), ([2] : By), false, ([] : By)⟩ : Rd)], []⟩ : Tx).start), (.slice xa174 (⟨0, [(⟨([1] : By), ([2] : By), false, ([] : By)⟩ : Rd)], []⟩ : Tx).reads.length xc175), (.slice xa176 (⟨0, [(⟨([1] : By), ([2] : By), false, ([] : By)⟩ : Rd)], []⟩ : Tx).writes.length xc177)]), (.slice (some ⟨n195, 0, none⟩) 1 1)]) (map2 rfl rfl) rfl (ent_47 _ _)) (clashOk_spec _ _ _ _ (⟨0, [(⟨([1] : By), ([2] : By), false, ([] : By)⟩ : Rd)], []⟩ : Tx) [(⟨1, [(⟨[1], [2], false, []⟩ : Wr)]⟩ : Cm)] (S213).sat ⟨_, _, _, _, rfl, (r178.mono (((le199.trans le204).trans le209).trans le214)), (r179.mono (((le199.trans le204).trans le209).trans le214))⟩ r217 (by intro c hc; rw [List.mem_singleton.1 hc]; simp) hSk) (fun w218 S219 => ?_)
   simp only [pS, pN, pA, pC, pZ]
   refine do_ rfl (.tuple #[(.bool (clashX ((⟨0, [(⟨([1] : By), ([2] : By), false, ([] : By)⟩ : Rd)], []⟩ : Tx).start) ((⟨0, [(⟨([1] : By), ([2] : By), false, ([] : By)⟩ : Rd)], []⟩ : Tx).reads) [(⟨1, [(⟨[1], [2], false, []⟩ : Wr)]⟩ : Cm)])), (.int .i64 0)]) (ex_move _) ?_
   simp only [pS, pN, pA, pC, pZ]
   refine do_ rfl (.bool (clashX ((⟨0, [(⟨([1] : By), ([2] : By), false, ([] : By)⟩ : Rd)], []⟩ : Tx).start) ((⟨0, [(⟨([1] : By), ([2] : By), false, ([] : By)⟩ : Rd)], []⟩ : Tx).reads) [(⟨1, [(⟨[1], [2], false, []⟩ : Wr)]⟩ : Cm)])) (ex_extract rfl rfl) ?_
   simp only [pS, pN, pA, pC, pZ]
   refine do_ rfl (.int .i64 0) (ex_extract rfl rfl) ?_
   simp only [pS, pN, pA, pC, pZ]
   refine do_ rfl (.bool (clashX ((⟨0, [(⟨([1] : By), ([2] : By), false, ([] : By)⟩ : Rd)], []⟩ : Tx).start) ((⟨0, [(⟨([1] : By), ([2] : By), false, ([] : By)⟩ : Rd)], []⟩ : Tx).reads) [(⟨1, [(⟨[1], [2], false, []⟩ : Wr)]⟩ : Cm)])) (ex_assign _) ?_
   simp only [pS, pN, pA, pC, pZ]
   refine do_ rfl (.int .i64 0) (ex_assign _) ?_
   simp only [pS, pN, pA, pC, pZ]
   refine wl_nil (hK185 _ _ ?_)
   refine wp_seq_k (fun K220 hK220 => ?_)
   rw [hd]
   refine region_wl ?_
   refine do_ rfl (.int .i64 0) (ex_move _) ?_
   simp only [pS, pN, pA, pC, pZ]
   refine do_ rfl (.bool true) (ex_eql (b := true) rfl rfl (by decide)) ?_
   simp only [pS, pN, pA, pC, pZ]
   refine do_ rfl (.bool true) (ex_move _) ?_
   simp only [pS, pN, pA, pC, pZ]
   refine do_ rfl (.int .i64 0) (ex_move _) ?_
   simp only [pS, pN, pA, pC, pZ]
   refine do_ rfl (.bool true) (ex_eql (b := true) rfl rfl (by decide)) ?_
   simp only [pS, pN, pA, pC, pZ]
   refine do_ rfl (.bool true) (ex_pick (b := true) rfl) ?_
   simp only [pS, pN, pA, pC, pZ]
   refine do_ rfl (.bool true) (ex_move _) ?_
   simp only [pS, pN, pA, pC, pZ]
   refine do_ rfl (.bool true) (ex_move _) ?_
   simp only [pS, pN, pA, pC, pZ]
   refine do_ rfl (.bool true) (ex_pick (b := true) rfl) ?_
   simp only [pS, pN, pA, pC, pZ]
   refine do_ rfl (.bool true) (ex_move _) ?_
   simp only [pS, pN, pA, pC, pZ]
   refine do_ rfl (.pointer (some ⟨n27, 1, none⟩)) (ex_field (q := ⟨n27, 1, none⟩) rfl (fa_75_1 _ _)) ?_
   simp only [pS, pN, pA, pC, pZ]
   refine do_ rfl (.slice xa21 (txO [] l1).reads.length xc22) (ex_load rfl (load1 (nagg_73 _) (St.cell S219 (i := 1) rfl rfl))) ?_
   simp only [pS, pN, pA, pC, pZ]
   refine do_ rfl (.int .i64 (((txO [] l1).reads.length : Nat) : Int)) (ex_len Try.underlying73 rfl) ?_
   simp only [pS, pN, pA, pC, pZ]
   refine do_ rfl (.bool true) (ex_gtr (m := (((txO [] l1).reads.length : Nat) : Int)) (n := (0 : Int)) (b := true) rfl rfl (decide_eq_true (by omega))) ?_
   simp only [pS, pN, pA, pC, pZ]
   refine do_ rfl (.bool true) (ex_move _) ?_
   simp only [pS, pN, pA, pC, pZ]
   refine doN (wanted_no rfl rfl rfl (c := true) rfl (by decide)) ?_
   simp only [pS, pN, pA, pC, pZ]
   refine doN (wanted_no rfl rfl rfl (c := true) rfl (by decide)) ?_
   simp only [pS, pN, pA, pC, pZ]
   refine do_ rfl (.bool true) (ex_pick (b := true) rfl) ?_
   simp only [pS, pN, pA, pC, pZ]
   refine do_ rfl (.bool true) (ex_pick (b := true) rfl) ?_
   simp only [pS, pN, pA, pC, pZ]
   refine do_ rfl (.bool true) (ex_move _) ?_
   simp only [pS, pN, pA, pC, pZ]
   refine do_ rfl (.pointer (some ⟨n27, 0, none⟩)) (ex_field (q := ⟨n27, 0, none⟩) rfl (fa_75_0 _ _)) ?_
   simp only [pS, pN, pA, pC, pZ]
   refine do_ rfl (.int .i64 ((kn : Nat) : Int)) (ex_load rfl (load1 (nagg_3 _) (St.cell S219 (i := 1) rfl rfl))) ?_
   simp only [pS, pN, pA, pC, pZ]
   refine do_ rfl (.slice a9 cs.length c10) (ex_move _) ?_
   simp only [pS, pN, pA, pC, pZ]
   refine do_ rfl (.int .i64 ((cs.length : Nat) : Int)) (ex_len Try.underlying60 rfl) ?_
   simp only [pS, pN, pA, pC, pZ]
   refine do_ rfl (.bool true) (ex_lss (m := ((kn : Nat) : Int)) (n := ((cs.length : Nat) : Int)) (b := true) rfl rfl (decide_eq_true (by omega))) ?_
   simp only [pS, pN, pA, pC, pZ]
   refine do_ rfl (.bool true) (ex_move _) ?_
   simp only [pS, pN, pA, pC, pZ]
   refine doN (wanted_no rfl rfl rfl (c := true) rfl (by decide)) ?_
   simp only [pS, pN, pA, pC, pZ]
   refine doN (wanted_no rfl rfl rfl (c := true) rfl (by decide)) ?_
   simp only [pS, pN, pA, pC, pZ]
   refine do_ rfl (.bool true) (ex_pick (b := true) rfl) ?_
   simp only [pS, pN, pA, pC, pZ]
   refine do_ rfl (.bool true) (ex_pick (b := true) rfl) ?_
   simp only [pS, pN, pA, pC, pZ]
   refine do_ rfl (.bool true) (ex_assign _) ?_
   simp only [pS, pN, pA, pC, pZ]
   refine wl_nil (hK220 _ _ ?_)
   refine wp_ret ?_
   (try simp only [Exit.then, Exit.inBlock, ↓reduceIte, Nat.reduceEqDiff])
   refine bodyPost_ret (v := (.bool true)) ?_ rfl ?_
   ·exact res_t rfl rfl
   ·exact ⟨rfl, S219.gr.below⟩
 | false =>
  refine region_wl ?_
  refine do_ rfl (.bool true) (ex_move _) ?_
  simp only [pS, pN, pA, pC, pZ]
  refine do_ rfl (.bool false) (ex_not (b := true) rfl rfl) ?_
  simp only [pS, pN, pA, pC, pZ]
  refine do_ rfl (.bool false) (ex_move _) ?_
  simp only [pS, pN, pA, pC, pZ]
  refine do_ rfl (.int .i64 0) (ex_move _) ?_
  simp only [pS, pN, pA, pC, pZ]
  refine do_ rfl (.bool false) (ex_neq (b := false) rfl rfl (by decide)) ?_
  simp only [pS, pN, pA, pC, pZ]
  refine do_ rfl (.bool false) (ex_pick (b := false) rfl) ?_
  simp only [pS, pN, pA, pC, pZ]
  refine do_ rfl (.bool false) (ex_move _) ?_
  simp only [pS, pN, pA, pC, pZ]
  refine do_ rfl (.int .i64 0) (ex_move _) ?_
  simp only [pS, pN, pA, pC, pZ]
  refine do_ rfl (.bool false) (ex_neq (b := false) rfl rfl (by decide)) ?_
  simp only [pS, pN, pA, pC, pZ]
  refine do_ rfl (.bool false) (ex_pick (b := false) rfl) ?_
  simp only [pS, pN, pA, pC, pZ]
  refine do_ rfl (.bool false) (ex_move _) ?_
  simp only [pS, pN, pA, pC, pZ]
  refine do_ rfl (.int .i64 0) (ex_move _) ?_
  simp only [pS, pN, pA, pC, pZ]
  refine do_ rfl (.bool false) (ex_neq (b := false) rfl rfl (by decide)) ?_
  simp only [pS, pN, pA, pC, pZ]
  refine do_ rfl (.bool false) (ex_pick (b := false) rfl) ?_
  simp only [pS, pN, pA, pC, pZ]
  refine wl_nil (hK65 _ _ ?_)
  refine wp_cond_false rfl ?_
  refine wp_skip ?_
  refine hK64 _ _ ?_
  refine wp_seq_k (fun K221 hK221 => ?_)
  refine wp_seq_k (fun K222 hK222 => region_wl ?_)
  refine do_ rfl (.int .i64 0) (ex_assign _) ?_
  simp only [pS, pN, pA, pC, pZ]
  refine wl_nil (hK222 _ _ ?_)
  refine wp_block ?_
  refine wp_loop_g (fun mm aa w225 => ∃ (k : Nat) (F223 : Fz) (u224 : Nat → Value), mm = (txO [] l1).reads.length - k ∧ u224 = slots aa ∧ aa = ⟨#[(.slice a0 l0.length c0), (.slice a1 l1.length c1), (.int .i64 x2), undef, undef, undef, (u224 6), (.slice a9 cs.length c10), (.pointer (some ⟨n27, 0, none⟩)), (.bool true), (.bool false), (.int .i64 0), (.slice a47 (stateC cs kn).length c48), (.int .i64 0), (.slice a59 (stateC cs cs.length).length c60), (.int .i64 0), (.int .i64 ((k : Nat) : Int)), (u224 17), (u224 18), (u224 19), (u224 20), (u224 21), (u224 22), (u224 23), (u224 24), (u224 25), undef, undef, undef, undef, (.slice a0 l0.length c0), (.slice a9 cs.length c10), (.tuple #[(.agg #[(.int .i64 (txO [] l1).start), (.slice xa21 (txO [] l1).reads.length xc22), (.slice xa23 (txO [] l1).writes.length xc24)]), (.bool true)]), (.slice a1 l1.length c1), (.tuple #[(.agg #[(.int .i64 (txO [] l1).start), (.slice xa21 (txO [] l1).reads.length xc22), (.slice xa23 (txO [] l1).writes.length xc24)]), (.bool true)]), (.agg #[(.int .i64 (txO [] l1).start), (.slice xa21 (txO [] l1).reads.length xc22), (.slice xa23 (txO [] l1).writes.length xc24)]), (.bool true), (.int .i64 x2), (.slice a9 cs.length c10), (.int .i64 ((cs.length : Nat) : Int)), (.int .i64 (((cs.length + 1) : Nat) : Int)), (.int .i64 ((kn : Nat) : Int)), (.pointer (some ⟨n27, 0, none⟩)), (.tuple #[(.bool false), (.int .i64 0)]), (.agg #[(.int .i64 ((kn : Nat) : Int)), (.slice xa21 (txO [] l1).reads.length xc22), (.slice xa23 (txO [] l1).writes.length xc24)]), (.slice a9 cs.length c10), (.tuple #[(.bool false), (.int .i64 0)]), (.bool false), (.int .i64 0), (.tuple #[(.slice a47 (stateC cs kn).length c48), (.int .i64 0)]), (.slice a9 cs.length c10), (.pointer (some ⟨n27, 0, none⟩)), (.int .i64 ((kn : Nat) : Int)), (.tuple #[(.slice a47 (stateC cs kn).length c48), (.int .i64 0)]), (.slice a47 (stateC cs kn).length c48), (.int .i64 0), (.tuple #[(.slice a59 (stateC cs cs.length).length c60), (.int .i64 0)]), (.slice a9 cs.length c10), (.slice a9 cs.length c10), (.int .i64 ((cs.length : Nat) : Int)), (.tuple #[(.slice a59 (stateC cs cs.length).length c60), (.int .i64 0)]), (.slice a59 (stateC cs cs.length).length c60), (.int .i64 0), (.bool true), (.bool false), (.bool false), (.int .i64 0), (.bool false), (.bool false), (.bool false), (.int .i64 0), (.bool false), (.bool false), (.bool false), (.int .i64 0), (.bool false), (.bool false), (u224 77), (u224 78), (u224 79), (u224 80), (u224 81), (u224 82), (u224 83), (u224 84), (u224 85), (u224 86), (u224 87), (u224 88), (u224 89), (u224 90), (u224 91), (u224 92), (u224 93), (u224 94), (u224 95), (u224 96), (u224 97), (u224 98), (u224 99), (u224 100), (u224 101), (u224 102), (u224 103), (u224 104), (u224 105), (u224 106), (u224 107), (u224 108), (u224 109), (u224 110), (u224 111), (u224 112), (u224 113), (u224 114), (u224 115), (u224 116), (u224 117), (u224 118), (u224 119), (u224 120), (u224 121), (u224 122), (u224 123), (u224 124), (u224 125), (u224 126), (u224 127), (u224 128), (u224 129), (u224 130), (u224 131), (u224 132), (u224 133), (u224 134), (u224 135), (u224 136), (u224 137), (u224 138), (u224 139), (u224 140), (u224 141), (u224 142), (u224 143), (u224 144), (u224 145), (u224 146), (u224 147), (u224 148), (u224 149), (u224 150), (u224 151), (u224 152), (u224 153), (u224 154), (u224 155), (u224 156), (u224 157), (u224 158), (u224 159), (u224 160), (u224 161), (u224 162), (u224 163), (u224 164), (u224 165), (u224 166), (u224 167), undef, undef, undef, undef, undef, undef, undef, undef, undef, undef, undef, undef, undef, undef, undef, undef, undef, undef, undef, undef, undef, undef, undef, undef, undef, undef, undef, undef, undef, undef, undef, undef, undef, undef, undef, undef, undef, undef, undef, undef, undef, undef, undef, undef, undef, undef, undef, undef, undef], []⟩ ∧ St W (whole W) w225 F223 [⟨n27, [(.int .i64 ((kn : Nat) : Int)), (.slice xa21 (txO [] l1).reads.length xc22), (.slice xa23 (txO [] l1).writes.length xc24)], 75⟩] [] ∧ Le F55 F223 ∧ (k ≤ (txO [] l1).reads.length)) _ ⟨0, F55, _, rfl, rfl, rfl, S54, Le.refl _, (by omega)⟩ ?_
  rintro m226 a227 w228 ⟨k, F223, u224, rfl, -, rfl, S229, le230, hk⟩ K231 hK231
  refine wp_seq_k (fun K232 hK232 => ?_)
  refine wp_seq_k (fun K233 hK233 => region_wl ?_)
  refine do_ rfl (.int .i64 ((k : Nat) : Int)) (ex_move _) ?_
  simp only [pS, pN, pA, pC, pZ]
  refine do_ rfl (.pointer (some ⟨n27, 1, none⟩)) (ex_field (q := ⟨n27, 1, none⟩) rfl (fa_75_1 _ _)) ?_
  simp only [pS, pN, pA, pC, pZ]
  refine do_ rfl (.slice xa21 (txO [] l1).reads.length xc22) (ex_load rfl (load1 (nagg_73 _) (St.cell S229 (i := 0) rfl rfl))) ?_
  simp only [pS, pN, pA, pC, pZ]
  refine do_ rfl (.int .i64 (((txO [] l1).reads.length : Nat) : Int)) (ex_len Try.underlying73 rfl) ?_
  simp only [pS, pN, pA, pC, pZ]
  by_cases hc81 : k < (txO [] l1).reads.length
  ·refine do_ rfl (.bool true) (ex_lss (m := ((k : Nat) : Int)) (n := (((txO [] l1).reads.length : Nat) : Int)) (b := true) rfl rfl (decide_eq_true (by omega))) ?_
   simp only [pS, pN, pA, pC, pZ]
   refine do_ rfl (.bool true) (ex_move _) ?_
   simp only [pS, pN, pA, pC, pZ]
   refine do_ rfl (.bool false) (ex_move _) ?_
   simp only [pS, pN, pA, pC, pZ]
   refine do_ rfl (.bool true) (ex_not (b := false) rfl rfl) ?_
   simp only [pS, pN, pA, pC, pZ]
   refine do_ rfl (.bool true) (ex_pick (b := true) rfl) ?_
   simp only [pS, pN, pA, pC, pZ]
   refine wl_nil (hK233 _ _ ?_)
   refine wp_cond_true rfl ?_
   refine wp_skip ?_
   refine hK232 _ _ ?_
   refine wp_seq_k (fun K234 hK234 => ?_)
   refine wp_block ?_
   refine wp_seq_k (fun K235 hK235 => ?_)
   obtain ⟨p, hp⟩ : ∃ p, (txO [] l1).reads[k]? = some p := ⟨(txO [] l1).reads[k], List.getElem?_eq_getElem hc81⟩
   have hpm := List.mem_of_getElem? hp
   have hpo := hT.1.reads p hpm
   obtain ⟨b236, o237, ha238, xa240, xc241, xa244, xc245, xa249, xc250, c239, c243, c247, c248, r242, r246, r251⟩ := Rds.get (r25.mono ((le44.trans le56).trans le230)) hp
   refine region_wl ?_
   refine do_ rfl (.pointer (some ⟨n27, 1, none⟩)) (ex_field (q := ⟨n27, 1, none⟩) rfl (fa_75_1 _ _)) ?_
   simp only [pS, pN, pA, pC, pZ]
   refine do_ rfl (.slice xa21 (txO [] l1).reads.length xc22) (ex_load rfl (load1 (nagg_73 _) (St.cell S229 (i := 0) rfl rfl))) ?_
   simp only [pS, pN, pA, pC, pZ]
   refine do_ rfl (.int .i64 ((k : Nat) : Int)) (ex_move _) ?_
   simp only [pS, pN, pA, pC, pZ]
   refine do_ rfl (.pointer (some ⟨b236, o237 + k * 4, none⟩)) (ex_at (i := k) (sz := 4) Try.underlying73 (sizeof_83 _) rfl ha238 rfl (by omega) rfl) ?_
   simp only [pS, pN, pA, pC, pZ]
   refine do_ rfl (.agg #[(.slice xa240 p.name.length xc241), (.slice xa244 p.key.length xc245), (.bool p.wide), (.slice xa249 p.last.length xc250)]) (ex_load rfl (loadN (cs := [(.slice xa240 p.name.length xc241), (.slice xa244 p.key.length xc245), (.bool p.wide), (.slice xa249 p.last.length xc250)]) Try.underlying83 rfl (size_83) (range4 (St.fz S229 c239) (St.fz S229 c243) (St.fz S229 c247) (St.fz S229 c248)))) ?_
   simp only [pS, pN, pA, pC, pZ]
   refine stNew S229 (v := fun n => .pointer (some ⟨n, 0, none⟩)) rfl (ex_alloc (zero_83 _)) (fun n252 w253 S254 => ?_)
   simp only [pS, pN, pA, pC, pZ]
   have S254 : St W (whole W) w253 F223 [⟨n252, [(.slice none 0 0), (.slice none 0 0), (.bool false), (.slice none 0 0)], 83⟩, ⟨n27, [(.int .i64 ((kn : Nat) : Int)), (.slice xa21 (txO [] l1).reads.length xc22), (.slice xa23 (txO [] l1).writes.length xc24)], 75⟩] [] := S254
   refine stStore (i := 0) (v := (.agg #[(.slice xa240 p.name.length xc241), (.slice xa244 p.key.length xc245), (.bool p.wide), (.slice xa249 p.last.length xc250)])) S254 rfl rfl rfl rfl (size_83) (allc4 rfl rfl rfl rfl) (Nat.le_of_ble_eq_true rfl) (fun w255 S256 => ?_)
   simp only [pS, pN, pA, pC, pZ]
   have S256 : St W (whole W) w255 F223 [⟨n252, [(.slice xa240 p.name.length xc241), (.slice xa244 p.key.length xc245), (.bool p.wide), (.slice xa249 p.last.length xc250)], 83⟩, ⟨n27, [(.int .i64 ((kn : Nat) : Int)), (.slice xa21 (txO [] l1).reads.length xc22), (.slice xa23 (txO [] l1).writes.length xc24)], 75⟩] [] := S256
   refine wl_nil (hK235 _ _ ?_)
   refine wp_seq_k (fun K257 hK257 => ?_)
   refine wp_seq_k (fun K258 hK258 => ?_)
   cases hwd : p.wide with
   | true =>
    rw [hwd] at S256
    have hlast := hpo.last
    rw [hwd, if_pos rfl] at hlast
    refine region_wl ?_
    refine do_ rfl (.pointer (some ⟨n252, 2, none⟩)) (ex_field (q := ⟨n252, 2, none⟩) rfl (fa_83_2 _ _)) ?_
    simp only [pS, pN, pA, pC, pZ]
    refine do_ rfl (.bool true) (ex_load rfl (load1 (nagg_4 _) (St.cell S256 (i := 0) rfl rfl))) ?_
    simp only [pS, pN, pA, pC, pZ]
    refine wl_nil (hK258 _ _ ?_)
    refine wp_cond_true rfl ?_
    refine wp_seq_k (fun K259 hK259 => region_wl ?_)
    refine do_ rfl (.slice a47 (stateC cs kn).length c48) (ex_move _) ?_
    simp only [pS, pN, pA, pC, pZ]
    refine do_ rfl (.pointer (some ⟨n252, 0, none⟩)) (ex_field (q := ⟨n252, 0, none⟩) rfl (fa_83_0 _ _)) ?_
    simp only [pS, pN, pA, pC, pZ]
    refine do_ rfl (.slice xa240 p.name.length xc241) (ex_load rfl (load1 (nagg_25 _) (St.cell S256 (i := 0) rfl rfl))) ?_
    simp only [pS, pN, pA, pC, pZ]
    refine do_ rfl (.pointer (some ⟨n252, 1, none⟩)) (ex_field (q := ⟨n252, 1, none⟩) rfl (fa_83_1 _ _)) ?_
    simp only [pS, pN, pA, pC, pZ]
    refine do_ rfl (.slice xa244 p.key.length xc245) (ex_load rfl (load1 (nagg_25 _) (St.cell S256 (i := 0) rfl rfl))) ?_
    simp only [pS, pN, pA, pC, pZ]
    refine do_ rfl (.pointer (some ⟨n252, 3, none⟩)) (ex_field (q := ⟨n252, 3, none⟩) rfl (fa_83_3 _ _)) ?_
    simp only [pS, pN, pA, pC, pZ]
    refine do_ rfl (.slice xa249 p.last.length xc250) (ex_load rfl (load1 (nagg_25 _) (St.cell S256 (i := 0) rfl rfl))) ?_
    simp only [pS, pN, pA, pC, pZ]
    refine stGives S256 rfl (ex_fn (vs := #[(.slice a47 (stateC cs kn).length c48), (.slice xa240 p.name.length xc241), (.slice xa244 p.key.length xc245), (.slice xa249 p.last.length xc250)]) (map4 rfl rfl rfl rfl) rfl (ent_29 _ _)) (rangeFIs_spec _ _ _ _ _ _ (stateC cs kn) p.name p.key p.last (S256).sat (r49.mono (le56.trans le230)) r242 r246 r251 oka hpo.name hpo.key hlast rfl) ?_
    intro v265 w260 F262 S261 le263 R264
    obtain ⟨_, rfl, r268⟩ := R264
    obtain ⟨a266, c267, rfl, h269, h270⟩ := Sl.shape r268
    unfold maxLen at h270
    have h269 : (rangeT (treeF (stateC cs kn) p.name) p.key p.last).length ≤ c267 := h269
    have r268 : Prs _ (.slice a266 (rangeT (treeF (stateC cs kn) p.name) p.key p.last).length c267) (rangeT (treeF (stateC cs kn) p.name) p.key p.last) := r268
    simp only [pS, pN, pA, pC, pZ]
    refine do_ rfl (.tuple #[(.slice a266 (rangeT (treeF (stateC cs kn) p.name) p.key p.last).length c267), (.int .i64 0)]) (ex_move _) ?_
    simp only [pS, pN, pA, pC, pZ]
    refine do_ rfl (.slice a266 (rangeT (treeF (stateC cs kn) p.name) p.key p.last).length c267) (ex_extract rfl rfl) ?_
    simp only [pS, pN, pA, pC, pZ]
    refine do_ rfl (.int .i64 0) (ex_extract rfl rfl) ?_
    simp only [pS, pN, pA, pC, pZ]
    refine do_ rfl (.slice a266 (rangeT (treeF (stateC cs kn) p.name) p.key p.last).length c267) (ex_assign _) ?_
    simp only [pS, pN, pA, pC, pZ]
    refine do_ rfl (.int .i64 0) (ex_assign _) ?_
    simp only [pS, pN, pA, pC, pZ]
    refine wl_nil (hK259 _ _ ?_)
    refine wp_seq_k (fun K271 hK271 => region_wl ?_)
    refine do_ rfl (.slice a59 (stateC cs cs.length).length c60) (ex_move _) ?_
    simp only [pS, pN, pA, pC, pZ]
    refine do_ rfl (.pointer (some ⟨n252, 0, none⟩)) (ex_field (q := ⟨n252, 0, none⟩) rfl (fa_83_0 _ _)) ?_
    simp only [pS, pN, pA, pC, pZ]
    refine do_ rfl (.slice xa240 p.name.length xc241) (ex_load rfl (load1 (nagg_25 _) (St.cell S261 (i := 0) rfl rfl))) ?_
    simp only [pS, pN, pA, pC, pZ]
    refine do_ rfl (.pointer (some ⟨n252, 1, none⟩)) (ex_field (q := ⟨n252, 1, none⟩) rfl (fa_83_1 _ _)) ?_
    simp only [pS, pN, pA, pC, pZ]
    refine do_ rfl (.slice xa244 p.key.length xc245) (ex_load rfl (load1 (nagg_25 _) (St.cell S261 (i := 0) rfl rfl))) ?_
    simp only [pS, pN, pA, pC, pZ]
    refine do_ rfl (.pointer (some ⟨n252, 3, none⟩)) (ex_field (q := ⟨n252, 3, none⟩) rfl (fa_83_3 _ _)) ?_
    simp only [pS, pN, pA, pC, pZ]
    refine do_ rfl (.slice xa249 p.last.length xc250) (ex_load rfl (load1 (nagg_25 _) (St.cell S261 (i := 0) rfl rfl))) ?_
    simp only [pS, pN, pA, pC, pZ]
    refine stGives S261 rfl (ex_fn (vs := #[(.slice a59 (stateC cs cs.length).length c60), (.slice xa240 p.name.length xc241), (.slice xa244 p.key.length xc245), (.slice xa249 p.last.length xc250)]) (map4 rfl rfl rfl rfl) rfl (ent_29 _ _)) (rangeFIs_spec _ _ _ _ _ _ (stateC cs cs.length) p.name p.key p.last (S261).sat (r61.mono (le230.trans le263)) (r242.mono le263) (r246.mono le263) (r251.mono le263) okb hpo.name hpo.key hlast (clash_range hh hA hpm hwd (by omega) (Nat.le_refl _))) ?_
    intro v277 w272 F274 S273 le275 R276
    obtain ⟨_, rfl, r280⟩ := R276
    obtain ⟨a278, c279, rfl, h281, h282⟩ := Sl.shape r280
    unfold maxLen at h282
    have h281 : (rangeT (treeF (stateC cs kn) p.name) p.key p.last).length ≤ c279 := h281
    have r280 : Prs _ (.slice a278 (rangeT (treeF (stateC cs kn) p.name) p.key p.last).length c279) (rangeT (treeF (stateC cs kn) p.name) p.key p.last) := r280
    simp only [pS, pN, pA, pC, pZ]
    refine do_ rfl (.tuple #[(.slice a278 (rangeT (treeF (stateC cs kn) p.name) p.key p.last).length c279), (.int .i64 0)]) (ex_move _) ?_
    simp only [pS, pN, pA, pC, pZ]
    refine do_ rfl (.slice a278 (rangeT (treeF (stateC cs kn) p.name) p.key p.last).length c279) (ex_extract rfl rfl) ?_
    simp only [pS, pN, pA, pC, pZ]
    refine do_ rfl (.int .i64 0) (ex_extract rfl rfl) ?_
    simp only [pS, pN, pA, pC, pZ]
    refine do_ rfl (.slice a278 (rangeT (treeF (stateC cs kn) p.name) p.key p.last).length c279) (ex_assign _) ?_
    simp only [pS, pN, pA, pC, pZ]
    refine do_ rfl (.int .i64 0) (ex_assign _) ?_
    simp only [pS, pN, pA, pC, pZ]
    refine wl_nil (hK271 _ _ ?_)
    refine wp_seq_k (fun K283 hK283 => ?_)
    refine wp_seq_k (fun K284 hK284 => region_wl ?_)
    refine do_ rfl (.int .i64 0) (ex_move _) ?_
    simp only [pS, pN, pA, pC, pZ]
    refine do_ rfl (.bool false) (ex_neq (b := false) rfl rfl (by decide)) ?_
    simp only [pS, pN, pA, pC, pZ]
    refine do_ rfl (.bool false) (ex_move _) ?_
    simp only [pS, pN, pA, pC, pZ]
    refine do_ rfl (.int .i64 0) (ex_move _) ?_
    simp only [pS, pN, pA, pC, pZ]
    refine do_ rfl (.bool false) (ex_neq (b := false) rfl rfl (by decide)) ?_
    simp only [pS, pN, pA, pC, pZ]
    refine do_ rfl (.bool false) (ex_pick (b := false) rfl) ?_
    simp only [pS, pN, pA, pC, pZ]
    refine do_ rfl (.bool false) (ex_move _) ?_
    simp only [pS, pN, pA, pC, pZ]
    refine do_ rfl (.slice a266 (rangeT (treeF (stateC cs kn) p.name) p.key p.last).length c267) (ex_move _) ?_
    simp only [pS, pN, pA, pC, pZ]
    refine do_ rfl (.slice a278 (rangeT (treeF (stateC cs kn) p.name) p.key p.last).length c279) (ex_move _) ?_
    simp only [pS, pN, pA, pC, pZ]
    refine stTells (v := (.bool true)) S273 rfl (ex_fn (vs := #[(.slice a266 (rangeT (treeF (stateC cs kn) p.name) p.key p.last).length c267), (.slice a278 (rangeT (treeF (stateC cs kn) p.name) p.key p.last).length c279)]) (map2 rfl rfl) rfl (ent_50 _ _)) (tells_bool (samePairs_spec _ _ _ _ (rangeT (treeF (stateC cs kn) p.name) p.key p.last) (rangeT (treeF (stateC cs kn) p.name) p.key p.last) (S273).sat (r268.mono le275) r280 (by have := TreeOk.len (show TreeOk 60 (rangeT (treeF (stateC cs kn) p.name) p.key p.last) from ((treeF_ok oka p.name).range p.key p.last)); omega)) (decide_eq_true (rfl))) (fun w285 S286 => ?_)
    simp only [pS, pN, pA, pC, pZ]
    refine do_ rfl (.bool false) (ex_not (b := true) rfl rfl) ?_
    simp only [pS, pN, pA, pC, pZ]
    refine do_ rfl (.bool false) (ex_pick (b := false) rfl) ?_
    simp only [pS, pN, pA, pC, pZ]
    refine wl_nil (hK284 _ _ ?_)
    refine wp_cond_false rfl ?_
    refine wp_skip ?_
    refine hK283 _ _ ?_
    refine wp_exit ?_
    refine hK234 _ _ ?_
    refine region_wl ?_
    refine do_ rfl (.int .i64 ((k : Nat) : Int)) (ex_move _) ?_
    simp only [pS, pN, pA, pC, pZ]
    refine do_ rfl (.int .i64 (((k + 1) : Nat) : Int)) (ex_add (m := ((k : Nat) : Int)) (n := (1 : Int)) (r := (((k + 1) : Nat) : Int)) rfl rfl (by omega) (by omega) (by omega)) ?_
    simp only [pS, pN, pA, pC, pZ]
    refine do_ rfl (.int .i64 (((k + 1) : Nat) : Int)) (ex_assign _) ?_
    simp only [pS, pN, pA, pC, pZ]
    refine wl_nil ?_
    have S286 := St.drop S286 (L' := [⟨n27, [(.int .i64 ((kn : Nat) : Int)), (.slice xa21 (txO [] l1).reads.length xc22), (.slice xa23 (txO [] l1).writes.length xc24)], 75⟩]) (.cons _ (List.Sublist.refl _))
    exact hK231 _ _ _ (by omega) ⟨(k + 1), F274, _, rfl, rfl, rfl, S286, ((le230.trans le263).trans le275), (by omega)⟩
   | false =>
    rw [hwd] at S256
    refine region_wl ?_
    refine do_ rfl (.pointer (some ⟨n252, 2, none⟩)) (ex_field (q := ⟨n252, 2, none⟩) rfl (fa_83_2 _ _)) ?_
    simp only [pS, pN, pA, pC, pZ]
    refine do_ rfl (.bool false) (ex_load rfl (load1 (nagg_4 _) (St.cell S256 (i := 0) rfl rfl))) ?_
    simp only [pS, pN, pA, pC, pZ]
    refine wl_nil (hK258 _ _ ?_)
    refine wp_cond_false rfl ?_
    refine wp_skip ?_
    refine hK257 _ _ ?_
    refine wp_seq_k (fun K287 hK287 => region_wl ?_)
    refine do_ rfl (.slice a47 (stateC cs kn).length c48) (ex_move _) ?_
    simp only [pS, pN, pA, pC, pZ]
    refine do_ rfl (.pointer (some ⟨n252, 0, none⟩)) (ex_field (q := ⟨n252, 0, none⟩) rfl (fa_83_0 _ _)) ?_
    simp only [pS, pN, pA, pC, pZ]
    refine do_ rfl (.slice xa240 p.name.length xc241) (ex_load rfl (load1 (nagg_25 _) (St.cell S256 (i := 0) rfl rfl))) ?_
    simp only [pS, pN, pA, pC, pZ]
    refine do_ rfl (.pointer (some ⟨n252, 1, none⟩)) (ex_field (q := ⟨n252, 1, none⟩) rfl (fa_83_1 _ _)) ?_
    simp only [pS, pN, pA, pC, pZ]
    refine do_ rfl (.slice xa244 p.key.length xc245) (ex_load rfl (load1 (nagg_25 _) (St.cell S256 (i := 0) rfl rfl))) ?_
    simp only [pS, pN, pA, pC, pZ]
    refine stGives S256 rfl (ex_fn (vs := #[(.slice a47 (stateC cs kn).length c48), (.slice xa240 p.name.length xc241), (.slice xa244 p.key.length xc245)]) (map3 rfl rfl rfl) rfl (ent_30 _ _)) (getFIs_spec _ _ _ _ _ (stateC cs kn) p.name p.key (S256).sat (r49.mono (le56.trans le230)) r242 r246 oka hpo.name hpo.key rfl) ?_
    intro v293 w288 F290 S289 le291 R292
    obtain ⟨_, rfl, a294, c295, rfl, r296⟩ := R292
    have r296 : Bs _ (.slice a294 ((getF (stateC cs kn) p.name p.key).getD []).length c295) ((getF (stateC cs kn) p.name p.key).getD []) := r296
    simp only [pS, pN, pA, pC, pZ]
    refine do_ rfl (.tuple #[(.agg #[(.bool (getF (stateC cs kn) p.name p.key).isSome), (.slice a294 ((getF (stateC cs kn) p.name p.key).getD []).length c295)]), (.int .i64 0)]) (ex_move _) ?_
    simp only [pS, pN, pA, pC, pZ]
    refine do_ rfl (.agg #[(.bool (getF (stateC cs kn) p.name p.key).isSome), (.slice a294 ((getF (stateC cs kn) p.name p.key).getD []).length c295)]) (ex_extract rfl rfl) ?_
    simp only [pS, pN, pA, pC, pZ]
    refine do_ rfl (.int .i64 0) (ex_extract rfl rfl) ?_
    simp only [pS, pN, pA, pC, pZ]
    refine stNew S289 (v := fun n => .pointer (some ⟨n, 0, none⟩)) rfl (ex_alloc (zero_38 _)) (fun n297 w298 S299 => ?_)
    simp only [pS, pN, pA, pC, pZ]
    have S299 : St W (whole W) w298 F290 [⟨n297, [(.bool false), (.slice none 0 0)], 38⟩, ⟨n252, [(.slice xa240 p.name.length xc241), (.slice xa244 p.key.length xc245), (.bool false), (.slice xa249 p.last.length xc250)], 83⟩, ⟨n27, [(.int .i64 ((kn : Nat) : Int)), (.slice xa21 (txO [] l1).reads.length xc22), (.slice xa23 (txO [] l1).writes.length xc24)], 75⟩] [] := S299
    refine stStore (i := 0) (v := (.agg #[(.bool (getF (stateC cs kn) p.name p.key).isSome), (.slice a294 ((getF (stateC cs kn) p.name p.key).getD []).length c295)])) S299 rfl rfl rfl rfl (size_38) (allc2 rfl rfl) (Nat.le_of_ble_eq_true rfl) (fun w300 S301 => ?_)
    simp only [pS, pN, pA, pC, pZ]
    have S301 : St W (whole W) w300 F290 [⟨n297, [(.bool (getF (stateC cs kn) p.name p.key).isSome), (.slice a294 ((getF (stateC cs kn) p.name p.key).getD []).length c295)], 38⟩, ⟨n252, [(.slice xa240 p.name.length xc241), (.slice xa244 p.key.length xc245), (.bool false), (.slice xa249 p.last.length xc250)], 83⟩, ⟨n27, [(.int .i64 ((kn : Nat) : Int)), (.slice xa21 (txO [] l1).reads.length xc22), (.slice xa23 (txO [] l1).writes.length xc24)], 75⟩] [] := S301
    refine do_ rfl (.int .i64 0) (ex_assign _) ?_
    simp only [pS, pN, pA, pC, pZ]
    refine wl_nil (hK287 _ _ ?_)
    refine wp_seq_k (fun K302 hK302 => region_wl ?_)
    refine do_ rfl (.slice a59 (stateC cs cs.length).length c60) (ex_move _) ?_
    simp only [pS, pN, pA, pC, pZ]
    refine do_ rfl (.pointer (some ⟨n252, 0, none⟩)) (ex_field (q := ⟨n252, 0, none⟩) rfl (fa_83_0 _ _)) ?_
    simp only [pS, pN, pA, pC, pZ]
    refine do_ rfl (.slice xa240 p.name.length xc241) (ex_load rfl (load1 (nagg_25 _) (St.cell S301 (i := 1) rfl rfl))) ?_
    simp only [pS, pN, pA, pC, pZ]
    refine do_ rfl (.pointer (some ⟨n252, 1, none⟩)) (ex_field (q := ⟨n252, 1, none⟩) rfl (fa_83_1 _ _)) ?_
    simp only [pS, pN, pA, pC, pZ]
    refine do_ rfl (.slice xa244 p.key.length xc245) (ex_load rfl (load1 (nagg_25 _) (St.cell S301 (i := 1) rfl rfl))) ?_
    simp only [pS, pN, pA, pC, pZ]
    refine stGives S301 rfl (ex_fn (vs := #[(.slice a59 (stateC cs cs.length).length c60), (.slice xa240 p.name.length xc241), (.slice xa244 p.key.length xc245)]) (map3 rfl rfl rfl) rfl (ent_30 _ _)) (getFIs_spec _ _ _ _ _ (stateC cs cs.length) p.name p.key (S301).sat (r61.mono (le230.trans le291)) (r242.mono le291) (r246.mono le291) okb hpo.name hpo.key (clash_get hh hA hpm hwd (by omega) (Nat.le_refl _))) ?_
    intro v308 w303 F305 S304 le306 R307
    obtain ⟨_, rfl, a309, c310, rfl, r311⟩ := R307
    have r311 : Bs _ (.slice a309 ((getF (stateC cs kn) p.name p.key).getD []).length c310) ((getF (stateC cs kn) p.name p.key).getD []) := r311
    simp only [pS, pN, pA, pC, pZ]
    refine do_ rfl (.tuple #[(.agg #[(.bool (getF (stateC cs kn) p.name p.key).isSome), (.slice a309 ((getF (stateC cs kn) p.name p.key).getD []).length c310)]), (.int .i64 0)]) (ex_move _) ?_
    simp only [pS, pN, pA, pC, pZ]
    refine do_ rfl (.agg #[(.bool (getF (stateC cs kn) p.name p.key).isSome), (.slice a309 ((getF (stateC cs kn) p.name p.key).getD []).length c310)]) (ex_extract rfl rfl) ?_
    simp only [pS, pN, pA, pC, pZ]
    refine do_ rfl (.int .i64 0) (ex_extract rfl rfl) ?_
    simp only [pS, pN, pA, pC, pZ]
    refine stNew S304 (v := fun n => .pointer (some ⟨n, 0, none⟩)) rfl (ex_alloc (zero_38 _)) (fun n312 w313 S314 => ?_)
    simp only [pS, pN, pA, pC, pZ]
    have S314 : St W (whole W) w313 F305 [⟨n312, [(.bool false), (.slice none 0 0)], 38⟩, ⟨n297, [(.bool (getF (stateC cs kn) p.name p.key).isSome), (.slice a294 ((getF (stateC cs kn) p.name p.key).getD []).length c295)], 38⟩, ⟨n252, [(.slice xa240 p.name.length xc241), (.slice xa244 p.key.length xc245), (.bool false), (.slice xa249 p.last.length xc250)], 83⟩, ⟨n27, [(.int .i64 ((kn : Nat) : Int)), (.slice xa21 (txO [] l1).reads.length xc22), (.slice xa23 (txO [] l1).writes.length xc24)], 75⟩] [] := S314
    refine stStore (i := 0) (v := (.agg #[(.bool (getF (stateC cs kn) p.name p.key).isSome), (.slice a309 ((getF (stateC cs kn) p.name p.key).getD []).length c310)])) S314 rfl rfl rfl rfl (size_38) (allc2 rfl rfl) (Nat.le_of_ble_eq_true rfl) (fun w315 S316 => ?_)
    simp only [pS, pN, pA, pC, pZ]
    have S316 : St W (whole W) w315 F305 [⟨n312, [(.bool (getF (stateC cs kn) p.name p.key).isSome), (.slice a309 ((getF (stateC cs kn) p.name p.key).getD []).length c310)], 38⟩, ⟨n297, [(.bool (getF (stateC cs kn) p.name p.key).isSome), (.slice a294 ((getF (stateC cs kn) p.name p.key).getD []).length c295)], 38⟩, ⟨n252, [(.slice xa240 p.name.length xc241), (.slice xa244 p.key.length xc245), (.bool false), (.slice xa249 p.last.length xc250)], 83⟩, ⟨n27, [(.int .i64 ((kn : Nat) : Int)), (.slice xa21 (txO [] l1).reads.length xc22), (.slice xa23 (txO [] l1).writes.length xc24)], 75⟩] [] := S316
    refine do_ rfl (.int .i64 0) (ex_assign _) ?_
    simp only [pS, pN, pA, pC, pZ]
    refine wl_nil (hK302 _ _ ?_)
    refine wp_seq_k (fun K317 hK317 => region_wl ?_)
    refine do_ rfl (.int .i64 0) (ex_move _) ?_
    simp only [pS, pN, pA, pC, pZ]
    refine do_ rfl (.bool false) (ex_neq (b := false) rfl rfl (by decide)) ?_
    simp only [pS, pN, pA, pC, pZ]
    refine do_ rfl (.bool false) (ex_move _) ?_
    simp only [pS, pN, pA, pC, pZ]
    refine do_ rfl (.int .i64 0) (ex_move _) ?_
    simp only [pS, pN, pA, pC, pZ]
    refine do_ rfl (.bool false) (ex_neq (b := false) rfl rfl (by decide)) ?_
    simp only [pS, pN, pA, pC, pZ]
    refine do_ rfl (.bool false) (ex_pick (b := false) rfl) ?_
    simp only [pS, pN, pA, pC, pZ]
    refine do_ rfl (.bool false) (ex_move _) ?_
    simp only [pS, pN, pA, pC, pZ]
    refine do_ rfl (.pointer (some ⟨n297, 0, none⟩)) (ex_field (q := ⟨n297, 0, none⟩) rfl (fa_38_0 _ _)) ?_
    simp only [pS, pN, pA, pC, pZ]
    refine do_ rfl (.bool (getF (stateC cs kn) p.name p.key).isSome) (ex_load rfl (load1 (nagg_4 _) (St.cell S316 (i := 1) rfl rfl))) ?_
    simp only [pS, pN, pA, pC, pZ]
    refine do_ rfl (.pointer (some ⟨n312, 0, none⟩)) (ex_field (q := ⟨n312, 0, none⟩) rfl (fa_38_0 _ _)) ?_
    simp only [pS, pN, pA, pC, pZ]
    refine do_ rfl (.bool (getF (stateC cs kn) p.name p.key).isSome) (ex_load rfl (load1 (nagg_4 _) (St.cell S316 (i := 0) rfl rfl))) ?_
    simp only [pS, pN, pA, pC, pZ]
    refine do_ rfl (.bool false) (ex_neqB Try.underlying4 rfl rfl (by simp)) ?_
    simp only [pS, pN, pA, pC, pZ]
    refine do_ rfl (.bool false) (ex_pick (b := false) rfl) ?_
    simp only [pS, pN, pA, pC, pZ]
    refine do_ rfl (.bool false) (ex_move _) ?_
    simp only [pS, pN, pA, pC, pZ]
    refine do_ rfl (.pointer (some ⟨n297, 1, none⟩)) (ex_field (q := ⟨n297, 1, none⟩) rfl (fa_38_1 _ _)) ?_
    simp only [pS, pN, pA, pC, pZ]
    refine do_ rfl (.slice a294 ((getF (stateC cs kn) p.name p.key).getD []).length c295) (ex_load rfl (load1 (nagg_25 _) (St.cell S316 (i := 1) rfl rfl))) ?_
    simp only [pS, pN, pA, pC, pZ]
    refine do_ rfl (.pointer (some ⟨n312, 1, none⟩)) (ex_field (q := ⟨n312, 1, none⟩) rfl (fa_38_1 _ _)) ?_
    simp only [pS, pN, pA, pC, pZ]
    refine do_ rfl (.slice a309 ((getF (stateC cs kn) p.name p.key).getD []).length c310) (ex_load rfl (load1 (nagg_25 _) (St.cell S316 (i := 0) rfl rfl))) ?_
    simp only [pS, pN, pA, pC, pZ]
    refine stTells (v := (.bool true)) S316 rfl (ex_fn (vs := #[(.slice a294 ((getF (stateC cs kn) p.name p.key).getD []).length c295), (.slice a309 ((getF (stateC cs kn) p.name p.key).getD []).length c310)]) (map2 rfl rfl) rfl (ent_31 _ _)) (tells_bool (tells_same (same_spec _ _ _ _ ((getF (stateC cs kn) p.name p.key).getD []) ((getF (stateC cs kn) p.name p.key).getD []) (S316).sat (r296.mono le306) r311)) (beq_iff_eq.2 (rfl))) (fun w318 S319 => ?_)
    simp only [pS, pN, pA, pC, pZ]
    refine do_ rfl (.bool false) (ex_not (b := true) rfl rfl) ?_
    simp only [pS, pN, pA, pC, pZ]
    refine do_ rfl (.bool false) (ex_pick (b := false) rfl) ?_
    simp only [pS, pN, pA, pC, pZ]
    refine wl_nil (hK317 _ _ ?_)
    refine wp_cond_false rfl ?_
    refine wp_skip ?_
    refine hK234 _ _ ?_
    refine region_wl ?_
    refine do_ rfl (.int .i64 ((k : Nat) : Int)) (ex_move _) ?_
    simp only [pS, pN, pA, pC, pZ]
    refine do_ rfl (.int .i64 (((k + 1) : Nat) : Int)) (ex_add (m := ((k : Nat) : Int)) (n := (1 : Int)) (r := (((k + 1) : Nat) : Int)) rfl rfl (by omega) (by omega) (by omega)) ?_
    simp only [pS, pN, pA, pC, pZ]
    refine do_ rfl (.int .i64 (((k + 1) : Nat) : Int)) (ex_assign _) ?_
    simp only [pS, pN, pA, pC, pZ]
    refine wl_nil ?_
    have S319 := St.drop S319 (L' := [⟨n27, [(.int .i64 ((kn : Nat) : Int)), (.slice xa21 (txO [] l1).reads.length xc22), (.slice xa23 (txO [] l1).writes.length xc24)], 75⟩]) (.cons _ (.cons _ (.cons _ (List.Sublist.refl _))))
    exact hK231 _ _ _ (by omega) ⟨(k + 1), F305, _, rfl, rfl, rfl, S319, ((le230.trans le291).trans le306), (by omega)⟩
  ·refine do_ rfl (.bool false) (ex_lss (m := ((k : Nat) : Int)) (n := (((txO [] l1).reads.length : Nat) : Int)) (b := false) rfl rfl (decide_eq_false (by omega))) ?_
   simp only [pS, pN, pA, pC, pZ]
   refine do_ rfl (.bool false) (ex_move _) ?_
   simp only [pS, pN, pA, pC, pZ]
   refine doN (wanted_no rfl rfl rfl (c := false) rfl (by decide)) ?_
   simp only [pS, pN, pA, pC, pZ]
   refine doN (wanted_no rfl rfl rfl (c := false) rfl (by decide)) ?_
   simp only [pS, pN, pA, pC, pZ]
   refine do_ rfl (.bool false) (ex_pick (b := false) rfl) ?_
   simp only [pS, pN, pA, pC, pZ]
   refine wl_nil (hK233 _ _ ?_)
   refine wp_cond_false rfl ?_
   refine wp_exit ?_
   refine hK221 _ _ ?_
   refine wp_seq_k (fun K320 hK320 => ?_)
   have hRS : RdOk (⟨([1] : By), ([2] : By), false, ([] : By)⟩ : Rd) := ⟨by simp [NameOk], by simp, by simp⟩
   have hS : noteX nilX (⟨([1] : By), ([2] : By), false, ([] : By)⟩ : Rd) = some (⟨0, [(⟨([1] : By), ([2] : By), false, ([] : By)⟩ : Rd)], []⟩ : Tx) := by unfold noteX nilX; rw [if_neg (by simp), if_neg (by simp)]; rfl
   have hSk := noteX_ok nilX_ok hRS hS
   refine region_wl ?_
   refine do_ rfl (.agg #[(.int .i64 0), (.slice none 0 0), (.slice none 0 0)]) (ex_build (ps := #[]) (bmap0) (by kernel_rfl)) ?_
   simp only [pS, pN, pA, pC, pZ]
   refine stNew S229 (v := fun n => .slice (some ⟨n, 0, none⟩) 1 1) rfl (ex_lit (ps := #[(0, (.int .u8 1))]) (cells := #[(.int .u8 1)]) (E := 5) (bmap1 rfl) (fun w => by kernel_rfl)) (fun n321 w322 S323 => ?_)
   simp only [pS, pN, pA, pC, pZ]
   have S323 : St W (whole W) w322 F223 [⟨n321, [(.int .u8 1)], 5⟩, ⟨n27, [(.int .i64 ((kn : Nat) : Int)), (.slice xa21 (txO [] l1).reads.length xc22), (.slice xa23 (txO [] l1).writes.length xc24)], 75⟩] [] := S323
   refine stNew S323 (v := fun n => .slice (some ⟨n, 0, none⟩) 1 1) rfl (ex_lit (ps := #[(0, (.int .u8 2))]) (cells := #[(.int .u8 2)]) (E := 5) (bmap1 rfl) (fun w => by kernel_rfl)) (fun n324 w325 S326 => ?_)
   simp only [pS, pN, pA, pC, pZ]
   have S326 : St W (whole W) w325 F223 [⟨n324, [(.int .u8 2)], 5⟩, ⟨n321, [(.int .u8 1)], 5⟩, ⟨n27, [(.int .i64 ((kn : Nat) : Int)), (.slice xa21 (txO [] l1).reads.length xc22), (.slice xa23 (txO [] l1).writes.length xc24)], 75⟩] [] := S326
   refine do_ rfl (.agg #[(.slice (some ⟨n321, 0, none⟩) 1 1), (.slice (some ⟨n324, 0, none⟩) 1 1), (.bool false), (.slice none 0 0)]) (ex_build (ps := #[(0, (.slice (some ⟨n321, 0, none⟩) 1 1)), (1, (.slice (some ⟨n324, 0, none⟩) 1 1))]) (bmap2 rfl rfl) (by kernel_rfl)) ?_
   simp only [pS, pN, pA, pC, pZ]
   obtain ⟨S327, le328, hc329⟩ := St.freezeBlk S326 (i := 1) rfl
   have r331 : Bs _ (.slice (some ⟨n321, 0, none⟩) 1 1) ([1] : By) := bs_of_block (l := ([1] : By)) hc329 (rfl) (by unfold maxLen; simp)
   generalize addF F223 w325 n321 = F330 at *
   have S327 : St W (whole W) w325 F330 [⟨n324, [(.int .u8 2)], 5⟩, ⟨n27, [(.int .i64 ((kn : Nat) : Int)), (.slice xa21 (txO [] l1).reads.length xc22), (.slice xa23 (txO [] l1).writes.length xc24)], 75⟩] [] := S327
   obtain ⟨S332, le333, hc334⟩ := St.freezeBlk S327 (i := 0) rfl
   have r336 : Bs _ (.slice (some ⟨n324, 0, none⟩) 1 1) ([2] : By) := bs_of_block (l := ([2] : By)) hc334 (rfl) (by unfold maxLen; simp)
   generalize addF F330 w325 n324 = F335 at *
   have S332 : St W (whole W) w325 F335 [⟨n27, [(.int .i64 ((kn : Nat) : Int)), (.slice xa21 (txO [] l1).reads.length xc22), (.slice xa23 (txO [] l1).writes.length xc24)], 75⟩] [] := S332
   refine stGives S332 rfl (ex_fn (vs := #[(.agg #[(.int .i64 0), (.slice none 0 0), (.slice none 0 0)]), (.agg #[(.slice (some ⟨n321, 0, none⟩) 1 1), (.slice (some ⟨n324, 0, none⟩) 1 1), (.bool false), (.slice none 0 0)])]) (map2 rfl rfl) rfl (ent_46 _ _)) (txnNoteIs_spec _ _ _ _ nilX (⟨([1] : By), ([2] : By), false, ([] : By)⟩ : Rd) (⟨0, [(⟨([1] : By), ([2] : By), false, ([] : By)⟩ : Rd)], []⟩ : Tx) (S332).sat (TxV.nil _) ⟨_, _, _, _, _, _, rfl, (r331.mono le333), r336, (Bs.nil _)⟩ nilX_ok hRS hS) ?_
   intro v342 w337 F339 S338 le340 R341
   obtain ⟨_, rfl, R343⟩ := R341
   obtain ⟨xa344, xc345, xa346, xc347, rfl, r348, r349⟩ := R343
   simp only [pS, pN, pA, pC, pZ]
   refine do_ rfl (.tuple #[(.agg #[(.int .i64 (⟨0, [(⟨([1] : By), ([2] : By), false, ([] : By)⟩ : Rd)], []⟩ : Tx).start), (.slice xa344 (⟨0, [(⟨([1] : By), ([2] : By), false, ([] : By)⟩ : Rd)], []⟩ : Tx).reads.length xc345), (.slice xa346 (⟨0, [(⟨([1] : By), ([2] : By), false, ([] : By)⟩ : Rd)], []⟩ : Tx).writes.length xc347)]), (.int .i64 0)]) (ex_move _) ?_
   simp only [pS, pN, pA, pC, pZ]
   refine do_ rfl (.agg #[(.int .i64 (⟨0, [(⟨([1] : By), ([2] : By), false, ([] : By)⟩ : Rd)], []⟩ : Tx).start), (.slice xa344 (⟨0, [(⟨([1] : By), ([2] : By), false, ([] : By)⟩ : Rd)], []⟩ : Tx).reads.length xc345), (.slice xa346 (⟨0, [(⟨([1] : By), ([2] : By), false, ([] : By)⟩ : Rd)], []⟩ : Tx).writes.length xc347)]) (ex_extract rfl rfl) ?_
   simp only [pS, pN, pA, pC, pZ]
   refine do_ rfl (.int .i64 0) (ex_extract rfl rfl) ?_
   simp only [pS, pN, pA, pC, pZ]
   refine stNew S338 (v := fun n => .pointer (some ⟨n, 0, none⟩)) rfl (ex_alloc (zero_75 _)) (fun n350 w351 S352 => ?_)
   simp only [pS, pN, pA, pC, pZ]
   have S352 : St W (whole W) w351 F339 [⟨n350, [(.int .i64 0), (.slice none 0 0), (.slice none 0 0)], 75⟩, ⟨n27, [(.int .i64 ((kn : Nat) : Int)), (.slice xa21 (txO [] l1).reads.length xc22), (.slice xa23 (txO [] l1).writes.length xc24)], 75⟩] [] := S352
   refine stStore (i := 0) (v := (.agg #[(.int .i64 (⟨0, [(⟨([1] : By), ([2] : By), false, ([] : By)⟩ : Rd)], []⟩ : Tx).start), (.slice xa344 (⟨0, [(⟨([1] : By), ([2] : By), false, ([] : By)⟩ : Rd)], []⟩ : Tx).reads.length xc345), (.slice xa346 (⟨0, [(⟨([1] : By), ([2] : By), false, ([] : By)⟩ : Rd)], []⟩ : Tx).writes.length xc347)])) S352 rfl rfl rfl rfl (size_75) (allc3 rfl rfl rfl) (Nat.le_of_ble_eq_true rfl) (fun w353 S354 => ?_)
   simp only [pS, pN, pA, pC, pZ]
   have S354 : St W (whole W) w353 F339 [⟨n350, [(.int .i64 (⟨0, [(⟨([1] : By), ([2] : By), false, ([] : By)⟩ : Rd)], []⟩ : Tx).start), (.slice xa344 (⟨0, [(⟨([1] : By), ([2] : By), false, ([] : By)⟩ : Rd)], []⟩ : Tx).reads.length xc345), (.slice xa346 (⟨0, [(⟨([1] : By), ([2] : By), false, ([] : By)⟩ : Rd)], []⟩ : Tx).writes.length xc347)], 75⟩, ⟨n27, [(.int .i64 ((kn : Nat) : Int)), (.slice xa21 (txO [] l1).reads.length xc22), (.slice xa23 (txO [] l1).writes.length xc24)], 75⟩] [] := S354
   refine do_ rfl (.int .i64 0) (ex_assign _) ?_
   simp only [pS, pN, pA, pC, pZ]
   refine wl_nil (hK320 _ _ ?_)
   refine wp_seq_k (fun K355 hK355 => region_wl ?_)
   refine do_ rfl (.agg #[(.int .i64 (⟨0, [(⟨([1] : By), ([2] : By), false, ([] : By)⟩ : Rd)], []⟩ : Tx).start), (.slice xa344 (⟨0, [(⟨([1] : By), ([2] : By), false, ([] : By)⟩ : Rd)], []⟩ : Tx).reads.length xc345), (.slice xa346 (⟨0, [(⟨([1] : By), ([2] : By), false, ([] : By)⟩ : Rd)], []⟩ : Tx).writes.length xc347)]) (ex_load rfl (loadN (cs := [(.int .i64 (⟨0, [(⟨([1] : By), ([2] : By), false, ([] : By)⟩ : Rd)], []⟩ : Tx).start), (.slice xa344 (⟨0, [(⟨([1] : By), ([2] : By), false, ([] : By)⟩ : Rd)], []⟩ : Tx).reads.length xc345), (.slice xa346 (⟨0, [(⟨([1] : By), ([2] : By), false, ([] : By)⟩ : Rd)], []⟩ : Tx).writes.length xc347)]) Try.underlying75 rfl (size_75) (St.range S354 (i := 0) rfl 0 [(.int .i64 (⟨0, [(⟨([1] : By), ([2] : By), false, ([] : By)⟩ : Rd)], []⟩ : Tx).start), (.slice xa344 (⟨0, [(⟨([1] : By), ([2] : By), false, ([] : By)⟩ : Rd)], []⟩ : Tx).reads.length xc345), (.slice xa346 (⟨0, [(⟨([1] : By), ([2] : By), false, ([] : By)⟩ : Rd)], []⟩ : Tx).writes.length xc347)] (sub_range 0 rfl)))) ?_
   simp only [pS, pN, pA, pC, pZ]
   refine stNew S354 (v := fun n => .slice (some ⟨n, 0, none⟩) 1 1) rfl (ex_lit (ps := #[(0, (.int .u8 1))]) (cells := #[(.int .u8 1)]) (E := 5) (bmap1 rfl) (fun w => by kernel_rfl)) (fun n356 w357 S358 => ?_)
   simp only [pS, pN, pA, pC, pZ]
   have S358 : St W (whole W) w357 F339 [⟨n356, [(.int .u8 1)], 5⟩, ⟨n350, [(.int .i64 (⟨0, [(⟨([1] : By), ([2] : By), false, ([] : By)⟩ : Rd)], []⟩ : Tx).start), (.slice xa344 (⟨0, [(⟨([1] : By), ([2] : By), false, ([] : By)⟩ : Rd)], []⟩ : Tx).reads.length xc345), (.slice xa346 (⟨0, [(⟨([1] : By), ([2] : By), false, ([] : By)⟩ : Rd)], []⟩ : Tx).writes.length xc347)], 75⟩, ⟨n27, [(.int .i64 ((kn : Nat) : Int)), (.slice xa21 (txO [] l1).reads.length xc22), (.slice xa23 (txO [] l1).writes.length xc24)], 75⟩] [] := S358
   refine stNew S358 (v := fun n => .slice (some ⟨n, 0, none⟩) 1 1) rfl (ex_lit (ps := #[(0, (.int .u8 2))]) (cells := #[(.int .u8 2)]) (E := 5) (bmap1 rfl) (fun w => by kernel_rfl)) (fun n359 w360 S361 => ?_)
   simp only [pS, pN, pA, pC, pZ]
   have S361 : St W (whole W) w360 F339 [⟨n359, [(.int .u8 2)], 5⟩, ⟨n356, [(.int .u8 1)], 5⟩, ⟨n350, [(.int .i64 (⟨0, [(⟨([1] : By), ([2] : By), false, ([] : By)⟩ : Rd)], []⟩ : Tx).start), (.slice xa344 (⟨0, [(⟨([1] : By), ([2] : By), false, ([] : By)⟩ : Rd)], []⟩ : Tx).reads.length xc345), (.slice xa346 (⟨0, [(⟨([1] : By), ([2] : By), false, ([] : By)⟩ : Rd)], []⟩ : Tx).writes.length xc347)], 75⟩, ⟨n27, [(.int .i64 ((kn : Nat) : Int)), (.slice xa21 (txO [] l1).reads.length xc22), (.slice xa23 (txO [] l1).writes.length xc24)], 75⟩] [] := S361
   refine do_ rfl (.agg #[(.slice (some ⟨n356, 0, none⟩) 1 1), (.slice (some ⟨n359, 0, none⟩) 1 1), (.bool false), (.slice none 0 0)]) (ex_build (ps := #[(0, (.slice (some ⟨n356, 0, none⟩) 1 1)), (1, (.slice (some ⟨n359, 0, none⟩) 1 1))]) (bmap2 rfl rfl) (by kernel_rfl)) ?_
   simp only [pS, pN, pA, pC, pZ]
   refine stNew S361 (v := fun n => .slice (some ⟨n, 0, none⟩) 1 1) rfl (ex_lit (ps := #[(0, (.agg #[(.slice (some ⟨n356, 0, none⟩) 1 1), (.slice (some ⟨n359, 0, none⟩) 1 1), (.bool false), (.slice none 0 0)]))]) (cells := #[(.slice (some ⟨n356, 0, none⟩) 1 1), (.slice (some ⟨n359, 0, none⟩) 1 1), (.bool false), (.slice none 0 0)]) (E := 27) (bmap1 rfl) (fun w => by kernel_rfl)) (fun n362 w363 S364 => ?_)
   simp only [pS, pN, pA, pC, pZ]
   have S364 : St W (whole W) w363 F339 [⟨n362, [(.slice (some ⟨n356, 0, none⟩) 1 1), (.slice (some ⟨n359, 0, none⟩) 1 1), (.bool false), (.slice none 0 0)], 27⟩, ⟨n359, [(.int .u8 2)], 5⟩, ⟨n356, [(.int .u8 1)], 5⟩, ⟨n350, [(.int .i64 (⟨0, [(⟨([1] : By), ([2] : By), false, ([] : By)⟩ : Rd)], []⟩ : Tx).start), (.slice xa344 (⟨0, [(⟨([1] : By), ([2] : By), false, ([] : By)⟩ : Rd)], []⟩ : Tx).reads.length xc345), (.slice xa346 (⟨0, [(⟨([1] : By), ([2] : By), false, ([] : By)⟩ : Rd)], []⟩ : Tx).writes.length xc347)], 75⟩, ⟨n27, [(.int .i64 ((kn : Nat) : Int)), (.slice xa21 (txO [] l1).reads.length xc22), (.slice xa23 (txO [] l1).writes.length xc24)], 75⟩] [] := S364
   refine do_ rfl (.agg #[(.int .i64 1), (.slice (some ⟨n362, 0, none⟩) 1 1)]) (ex_build (ps := #[(0, (.int .i64 1)), (1, (.slice (some ⟨n362, 0, none⟩) 1 1))]) (bmap2 rfl rfl) (by kernel_rfl)) ?_
   simp only [pS, pN, pA, pC, pZ]
   refine stNew S364 (v := fun n => .slice (some ⟨n, 0, none⟩) 1 1) rfl (ex_lit (ps := #[(0, (.agg #[(.int .i64 1), (.slice (some ⟨n362, 0, none⟩) 1 1)]))]) (cells := #[(.int .i64 1), (.slice (some ⟨n362, 0, none⟩) 1 1)]) (E := 50) (bmap1 rfl) (fun w => by kernel_rfl)) (fun n365 w366 S367 => ?_)
   simp only [pS, pN, pA, pC, pZ]
   have S367 : St W (whole W) w366 F339 [⟨n365, [(.int .i64 1), (.slice (some ⟨n362, 0, none⟩) 1 1)], 50⟩, ⟨n362, [(.slice (some ⟨n356, 0, none⟩) 1 1), (.slice (some ⟨n359, 0, none⟩) 1 1), (.bool false), (.slice none 0 0)], 27⟩, ⟨n359, [(.int .u8 2)], 5⟩, ⟨n356, [(.int .u8 1)], 5⟩, ⟨n350, [(.int .i64 (⟨0, [(⟨([1] : By), ([2] : By), false, ([] : By)⟩ : Rd)], []⟩ : Tx).start), (.slice xa344 (⟨0, [(⟨([1] : By), ([2] : By), false, ([] : By)⟩ : Rd)], []⟩ : Tx).reads.length xc345), (.slice xa346 (⟨0, [(⟨([1] : By), ([2] : By), false, ([] : By)⟩ : Rd)], []⟩ : Tx).writes.length xc347)], 75⟩, ⟨n27, [(.int .i64 ((kn : Nat) : Int)), (.slice xa21 (txO [] l1).reads.length xc22), (.slice xa23 (txO [] l1).writes.length xc24)], 75⟩] [] := S367
   obtain ⟨S368, le369, hc370⟩ := St.freezeBlk S367 (i := 3) rfl
   have r372 : Bs _ (.slice (some ⟨n356, 0, none⟩) 1 1) ([1] : By) := bs_of_block (l := ([1] : By)) hc370 (rfl) (by unfold maxLen; simp)
   generalize addF F339 w366 n356 = F371 at *
   have S368 : St W (whole W) w366 F371 [⟨n365, [(.int .i64 1), (.slice (some ⟨n362, 0, none⟩) 1 1)], 50⟩, ⟨n362, [(.slice (some ⟨n356, 0, none⟩) 1 1), (.slice (some ⟨n359, 0, none⟩) 1 1), (.bool false), (.slice none 0 0)], 27⟩, ⟨n359, [(.int .u8 2)], 5⟩, ⟨n350, [(.int .i64 (⟨0, [(⟨([1] : By), ([2] : By), false, ([] : By)⟩ : Rd)], []⟩ : Tx).start), (.slice xa344 (⟨0, [(⟨([1] : By), ([2] : By), false, ([] : By)⟩ : Rd)], []⟩ : Tx).reads.length xc345), (.slice xa346 (⟨0, [(⟨([1] : By), ([2] : By), false, ([] : By)⟩ : Rd)], []⟩ : Tx).writes.length xc347)], 75⟩, ⟨n27, [(.int .i64 ((kn : Nat) : Int)), (.slice xa21 (txO [] l1).reads.length xc22), (.slice xa23 (txO [] l1).writes.length xc24)], 75⟩] [] := S368
   obtain ⟨S373, le374, hc375⟩ := St.freezeBlk S368 (i := 2) rfl
   have r377 : Bs _ (.slice (some ⟨n359, 0, none⟩) 1 1) ([2] : By) := bs_of_block (l := ([2] : By)) hc375 (rfl) (by unfold maxLen; simp)
   generalize addF F371 w366 n359 = F376 at *
   have S373 : St W (whole W) w366 F376 [⟨n365, [(.int .i64 1), (.slice (some ⟨n362, 0, none⟩) 1 1)], 50⟩, ⟨n362, [(.slice (some ⟨n356, 0, none⟩) 1 1), (.slice (some ⟨n359, 0, none⟩) 1 1), (.bool false), (.slice none 0 0)], 27⟩, ⟨n350, [(.int .i64 (⟨0, [(⟨([1] : By), ([2] : By), false, ([] : By)⟩ : Rd)], []⟩ : Tx).start), (.slice xa344 (⟨0, [(⟨([1] : By), ([2] : By), false, ([] : By)⟩ : Rd)], []⟩ : Tx).reads.length xc345), (.slice xa346 (⟨0, [(⟨([1] : By), ([2] : By), false, ([] : By)⟩ : Rd)], []⟩ : Tx).writes.length xc347)], 75⟩, ⟨n27, [(.int .i64 ((kn : Nat) : Int)), (.slice xa21 (txO [] l1).reads.length xc22), (.slice xa23 (txO [] l1).writes.length xc24)], 75⟩] [] := S373
   obtain ⟨S378, le379, hc380⟩ := St.freezeBlk S373 (i := 1) rfl
   have r382 : Wrs _ (.slice (some ⟨n362, 0, none⟩) 1 1) [(⟨[1], [2], false, []⟩ : Wr)] := sl_of_block (R := WrC) (l := [(⟨[1], [2], false, []⟩ : Wr)]) (el := [[(.slice (some ⟨n356, 0, none⟩) 1 1), (.slice (some ⟨n359, 0, none⟩) 1 1), (.bool false), (.slice none 0 0)]]) hc380 rfl ⟨⟨_, _, _, _, rfl, ((r372.mono le374).mono le379), (r377.mono le379), rfl, Bs.nil _⟩, trivial⟩ (by simp) (by unfold maxLen; simp)
   generalize addF F376 w366 n362 = F381 at *
   have S378 : St W (whole W) w366 F381 [⟨n365, [(.int .i64 1), (.slice (some ⟨n362, 0, none⟩) 1 1)], 50⟩, ⟨n350, [(.int .i64 (⟨0, [(⟨([1] : By), ([2] : By), false, ([] : By)⟩ : Rd)], []⟩ : Tx).start), (.slice xa344 (⟨0, [(⟨([1] : By), ([2] : By), false, ([] : By)⟩ : Rd)], []⟩ : Tx).reads.length xc345), (.slice xa346 (⟨0, [(⟨([1] : By), ([2] : By), false, ([] : By)⟩ : Rd)], []⟩ : Tx).writes.length xc347)], 75⟩, ⟨n27, [(.int .i64 ((kn : Nat) : Int)), (.slice xa21 (txO [] l1).reads.length xc22), (.slice xa23 (txO [] l1).writes.length xc24)], 75⟩] [] := S378
   obtain ⟨S383, le384, hc385⟩ := St.freezeBlk S378 (i := 0) rfl
   have r387 : Cms _ (.slice (some ⟨n365, 0, none⟩) 1 1) [(⟨1, [(⟨[1], [2], false, []⟩ : Wr)]⟩ : Cm)] := sl_of_block (R := CmC) (l := [(⟨1, [(⟨[1], [2], false, []⟩ : Wr)]⟩ : Cm)]) (el := [[(.int .i64 1), (.slice (some ⟨n362, 0, none⟩) 1 1)]]) hc385 rfl ⟨⟨_, _, rfl, rfl, (r382.mono le384)⟩, trivial⟩ (by simp) (by unfold maxLen; simp)
   generalize addF F381 w366 n365 = F386 at *
   have S383 : St W (whole W) w366 F386 [⟨n350, [(.int .i64 (⟨0, [(⟨([1] : By), ([2] : By), false, ([] : By)⟩ : Rd)], []⟩ : Tx).start), (.slice xa344 (⟨0, [(⟨([1] : By), ([2] : By), false, ([] : By)⟩ : Rd)], []⟩ : Tx).reads.length xc345), (.slice xa346 (⟨0, [(⟨([1] : By), ([2] : By), false, ([] : By)⟩ : Rd)], []⟩ : Tx).writes.length xc347)], 75⟩, ⟨n27, [(.int .i64 ((kn : Nat) : Int)), (.slice xa21 (txO [] l1).reads.length xc22), (.slice xa23 (txO [] l1).writes.length xc24)], 75⟩] [] := S383
   have hd : (clashX ((⟨0, [(⟨([1] : By), ([2] : By), false, ([] : By)⟩ : Rd)], []⟩ : Tx).start) ((⟨0, [(⟨([1] : By), ([2] : By), false, ([] : By)⟩ : Rd)], []⟩ : Tx).reads) [(⟨1, [(⟨[1], [2], false, []⟩ : Wr)]⟩ : Cm)]) = true := by simp [clashX, touchesX]
   refine stTells (v := (.tuple #[(.bool (clashX ((⟨0, [(⟨([1] : By), ([2] : By), false, ([] : By)⟩ : Rd)], []⟩ : Tx).start) ((⟨0, [(⟨([1] : By), ([2] : By), false, ([] : By)⟩ : Rd)], []⟩ : Tx).reads) [(⟨1, [(⟨[1], [2], false, []⟩ : Wr)]⟩ : Cm)])), (.int .i64 0)])) S383 rfl (ex_fn (vs := #[(.agg #[(.int .i64 (⟨0, [(⟨([1] : By), ([2] : By), false, ([] : By)⟩ : Rd)], []⟩ : Tx).start), (.slice xa344 (⟨0, [(⟨([1] : By), ([2] : By), false, ([] : By)⟩ : Rd)], []⟩ : Tx).reads.length xc345), (.slice xa346 (⟨0, [(⟨([1] : By), ([2] : By), false, ([] : By)⟩ : Rd)], []⟩ : Tx).writes.length xc347)]), (.slice (some ⟨n365, 0, none⟩) 1 1)]) (map2 rfl rfl) rfl (ent_47 _ _)) (clashOk_spec _ _ _ _ (⟨0, [(⟨([1] : By), ([2] : By), false, ([] : By)⟩ : Rd)], []⟩ : Tx) [(⟨1, [(⟨[1], [2], false, []⟩ : Wr)]⟩ : Cm)] (S383).sat ⟨_, _, _, _, rfl, (r348.mono (((le369.trans le374).trans le379).trans le384)), (r349.mono (((le369.trans le374).trans le379).trans le384))⟩ r387 (by intro c hc; rw [List.mem_singleton.1 hc]; simp) hSk) (fun w388 S389 => ?_)
   simp only [pS, pN, pA, pC, pZ]
   refine do_ rfl (.tuple #[(.bool (clashX ((⟨0, [(⟨([1] : By), ([2] : By), false, ([] : By)⟩ : Rd)], []⟩ : Tx).start) ((⟨0, [(⟨([1] : By), ([2] : By), false, ([] : By)⟩ : Rd)], []⟩ : Tx).reads) [(⟨1, [(⟨[1], [2], false, []⟩ : Wr)]⟩ : Cm)])), (.int .i64 0)]) (ex_move _) ?_
   simp only [pS, pN, pA, pC, pZ]
   refine do_ rfl (.bool (clashX ((⟨0, [(⟨([1] : By), ([2] : By), false, ([] : By)⟩ : Rd)], []⟩ : Tx).start) ((⟨0, [(⟨([1] : By), ([2] : By), false, ([] : By)⟩ : Rd)], []⟩ : Tx).reads) [(⟨1, [(⟨[1], [2], false, []⟩ : Wr)]⟩ : Cm)])) (ex_extract rfl rfl) ?_
   simp only [pS, pN, pA, pC, pZ]
   refine do_ rfl (.int .i64 0) (ex_extract rfl rfl) ?_
   simp only [pS, pN, pA, pC, pZ]
   refine do_ rfl (.bool (clashX ((⟨0, [(⟨([1] : By), ([2] : By), false, ([] : By)⟩ : Rd)], []⟩ : Tx).start) ((⟨0, [(⟨([1] : By), ([2] : By), false, ([] : By)⟩ : Rd)], []⟩ : Tx).reads) [(⟨1, [(⟨[1], [2], false, []⟩ : Wr)]⟩ : Cm)])) (ex_assign _) ?_
   simp only [pS, pN, pA, pC, pZ]
   refine do_ rfl (.int .i64 0) (ex_assign _) ?_
   simp only [pS, pN, pA, pC, pZ]
   refine wl_nil (hK355 _ _ ?_)
   refine wp_seq_k (fun K390 hK390 => ?_)
   rw [hd]
   refine region_wl ?_
   refine do_ rfl (.int .i64 0) (ex_move _) ?_
   simp only [pS, pN, pA, pC, pZ]
   refine do_ rfl (.bool true) (ex_eql (b := true) rfl rfl (by decide)) ?_
   simp only [pS, pN, pA, pC, pZ]
   refine do_ rfl (.bool true) (ex_move _) ?_
   simp only [pS, pN, pA, pC, pZ]
   refine do_ rfl (.int .i64 0) (ex_move _) ?_
   simp only [pS, pN, pA, pC, pZ]
   refine do_ rfl (.bool true) (ex_eql (b := true) rfl rfl (by decide)) ?_
   simp only [pS, pN, pA, pC, pZ]
   refine do_ rfl (.bool true) (ex_pick (b := true) rfl) ?_
   simp only [pS, pN, pA, pC, pZ]
   refine do_ rfl (.bool true) (ex_move _) ?_
   simp only [pS, pN, pA, pC, pZ]
   refine do_ rfl (.bool true) (ex_move _) ?_
   simp only [pS, pN, pA, pC, pZ]
   refine do_ rfl (.bool true) (ex_pick (b := true) rfl) ?_
   simp only [pS, pN, pA, pC, pZ]
   refine do_ rfl (.bool true) (ex_move _) ?_
   simp only [pS, pN, pA, pC, pZ]
   refine do_ rfl (.pointer (some ⟨n27, 1, none⟩)) (ex_field (q := ⟨n27, 1, none⟩) rfl (fa_75_1 _ _)) ?_
   simp only [pS, pN, pA, pC, pZ]
   refine do_ rfl (.slice xa21 (txO [] l1).reads.length xc22) (ex_load rfl (load1 (nagg_73 _) (St.cell S389 (i := 1) rfl rfl))) ?_
   simp only [pS, pN, pA, pC, pZ]
   refine do_ rfl (.int .i64 (((txO [] l1).reads.length : Nat) : Int)) (ex_len Try.underlying73 rfl) ?_
   simp only [pS, pN, pA, pC, pZ]
   by_cases hc200 : 0 < (txO [] l1).reads.length
   ·refine do_ rfl (.bool true) (ex_gtr (m := (((txO [] l1).reads.length : Nat) : Int)) (n := (0 : Int)) (b := true) rfl rfl (decide_eq_true (by omega))) ?_
    simp only [pS, pN, pA, pC, pZ]
    refine do_ rfl (.bool true) (ex_move _) ?_
    simp only [pS, pN, pA, pC, pZ]
    refine doN (wanted_no rfl rfl rfl (c := true) rfl (by decide)) ?_
    simp only [pS, pN, pA, pC, pZ]
    refine doN (wanted_no rfl rfl rfl (c := true) rfl (by decide)) ?_
    simp only [pS, pN, pA, pC, pZ]
    refine do_ rfl (.bool true) (ex_pick (b := true) rfl) ?_
    simp only [pS, pN, pA, pC, pZ]
    refine do_ rfl (.bool true) (ex_pick (b := true) rfl) ?_
    simp only [pS, pN, pA, pC, pZ]
    refine do_ rfl (.bool true) (ex_move _) ?_
    simp only [pS, pN, pA, pC, pZ]
    refine do_ rfl (.pointer (some ⟨n27, 0, none⟩)) (ex_field (q := ⟨n27, 0, none⟩) rfl (fa_75_0 _ _)) ?_
    simp only [pS, pN, pA, pC, pZ]
    refine do_ rfl (.int .i64 ((kn : Nat) : Int)) (ex_load rfl (load1 (nagg_3 _) (St.cell S389 (i := 1) rfl rfl))) ?_
    simp only [pS, pN, pA, pC, pZ]
    refine do_ rfl (.slice a9 cs.length c10) (ex_move _) ?_
    simp only [pS, pN, pA, pC, pZ]
    refine do_ rfl (.int .i64 ((cs.length : Nat) : Int)) (ex_len Try.underlying60 rfl) ?_
    simp only [pS, pN, pA, pC, pZ]
    by_cases hc211 : kn < cs.length
    ·refine do_ rfl (.bool true) (ex_lss (m := ((kn : Nat) : Int)) (n := ((cs.length : Nat) : Int)) (b := true) rfl rfl (decide_eq_true (by omega))) ?_
     simp only [pS, pN, pA, pC, pZ]
     refine do_ rfl (.bool true) (ex_move _) ?_
     simp only [pS, pN, pA, pC, pZ]
     refine doN (wanted_no rfl rfl rfl (c := true) rfl (by decide)) ?_
     simp only [pS, pN, pA, pC, pZ]
     refine doN (wanted_no rfl rfl rfl (c := true) rfl (by decide)) ?_
     simp only [pS, pN, pA, pC, pZ]
     refine do_ rfl (.bool true) (ex_pick (b := true) rfl) ?_
     simp only [pS, pN, pA, pC, pZ]
     refine do_ rfl (.bool true) (ex_pick (b := true) rfl) ?_
     simp only [pS, pN, pA, pC, pZ]
     refine do_ rfl (.bool true) (ex_assign _) ?_
     simp only [pS, pN, pA, pC, pZ]
     refine wl_nil (hK390 _ _ ?_)
     refine wp_ret ?_
     (try simp only [Exit.then, Exit.inBlock, ↓reduceIte, Nat.reduceEqDiff])
     refine bodyPost_ret (v := (.bool true)) ?_ rfl ?_
     ·exact res_t rfl rfl
     ·exact ⟨rfl, S389.gr.below⟩
    ·refine do_ rfl (.bool false) (ex_lss (m := ((kn : Nat) : Int)) (n := ((cs.length : Nat) : Int)) (b := false) rfl rfl (decide_eq_false (by omega))) ?_
     simp only [pS, pN, pA, pC, pZ]
     refine do_ rfl (.bool false) (ex_move _) ?_
     simp only [pS, pN, pA, pC, pZ]
     refine do_ rfl (.bool false) (ex_move _) ?_
     simp only [pS, pN, pA, pC, pZ]
     refine do_ rfl (.bool true) (ex_not (b := false) rfl rfl) ?_
     simp only [pS, pN, pA, pC, pZ]
     refine do_ rfl (.bool true) (ex_pick (b := false) rfl) ?_
     simp only [pS, pN, pA, pC, pZ]
     refine do_ rfl (.bool true) (ex_pick (b := true) rfl) ?_
     simp only [pS, pN, pA, pC, pZ]
     refine do_ rfl (.bool true) (ex_assign _) ?_
     simp only [pS, pN, pA, pC, pZ]
     refine wl_nil (hK390 _ _ ?_)
     refine wp_ret ?_
     (try simp only [Exit.then, Exit.inBlock, ↓reduceIte, Nat.reduceEqDiff])
     refine bodyPost_ret (v := (.bool true)) ?_ rfl ?_
     ·exact res_t rfl rfl
     ·exact ⟨rfl, S389.gr.below⟩
   ·refine do_ rfl (.bool false) (ex_gtr (m := (((txO [] l1).reads.length : Nat) : Int)) (n := (0 : Int)) (b := false) rfl rfl (decide_eq_false (by omega))) ?_
    simp only [pS, pN, pA, pC, pZ]
    refine do_ rfl (.bool false) (ex_move _) ?_
    simp only [pS, pN, pA, pC, pZ]
    refine do_ rfl (.bool false) (ex_move _) ?_
    simp only [pS, pN, pA, pC, pZ]
    refine do_ rfl (.bool true) (ex_not (b := false) rfl rfl) ?_
    simp only [pS, pN, pA, pC, pZ]
    refine do_ rfl (.bool true) (ex_pick (b := false) rfl) ?_
    simp only [pS, pN, pA, pC, pZ]
    refine do_ rfl (.bool true) (ex_pick (b := true) rfl) ?_
    simp only [pS, pN, pA, pC, pZ]
    refine do_ rfl (.bool true) (ex_move _) ?_
    simp only [pS, pN, pA, pC, pZ]
    refine do_ rfl (.pointer (some ⟨n27, 0, none⟩)) (ex_field (q := ⟨n27, 0, none⟩) rfl (fa_75_0 _ _)) ?_
    simp only [pS, pN, pA, pC, pZ]
    refine do_ rfl (.int .i64 ((kn : Nat) : Int)) (ex_load rfl (load1 (nagg_3 _) (St.cell S389 (i := 1) rfl rfl))) ?_
    simp only [pS, pN, pA, pC, pZ]
    refine do_ rfl (.slice a9 cs.length c10) (ex_move _) ?_
    simp only [pS, pN, pA, pC, pZ]
    refine do_ rfl (.int .i64 ((cs.length : Nat) : Int)) (ex_len Try.underlying60 rfl) ?_
    simp only [pS, pN, pA, pC, pZ]
    by_cases hc211 : kn < cs.length
    ·refine do_ rfl (.bool true) (ex_lss (m := ((kn : Nat) : Int)) (n := ((cs.length : Nat) : Int)) (b := true) rfl rfl (decide_eq_true (by omega))) ?_
     simp only [pS, pN, pA, pC, pZ]
     refine do_ rfl (.bool true) (ex_move _) ?_
     simp only [pS, pN, pA, pC, pZ]
     refine doN (wanted_no rfl rfl rfl (c := true) rfl (by decide)) ?_
     simp only [pS, pN, pA, pC, pZ]
     refine doN (wanted_no rfl rfl rfl (c := true) rfl (by decide)) ?_
     simp only [pS, pN, pA, pC, pZ]
     refine do_ rfl (.bool true) (ex_pick (b := true) rfl) ?_
     simp only [pS, pN, pA, pC, pZ]
     refine do_ rfl (.bool true) (ex_pick (b := true) rfl) ?_
     simp only [pS, pN, pA, pC, pZ]
     refine do_ rfl (.bool true) (ex_assign _) ?_
     simp only [pS, pN, pA, pC, pZ]
     refine wl_nil (hK390 _ _ ?_)
     refine wp_ret ?_
     (try simp only [Exit.then, Exit.inBlock, ↓reduceIte, Nat.reduceEqDiff])
     refine bodyPost_ret (v := (.bool true)) ?_ rfl ?_
     ·exact res_t rfl rfl
     ·exact ⟨rfl, S389.gr.below⟩
    ·refine do_ rfl (.bool false) (ex_lss (m := ((kn : Nat) : Int)) (n := ((cs.length : Nat) : Int)) (b := false) rfl rfl (decide_eq_false (by omega))) ?_
     simp only [pS, pN, pA, pC, pZ]
     refine do_ rfl (.bool false) (ex_move _) ?_
     simp only [pS, pN, pA, pC, pZ]
     refine do_ rfl (.bool false) (ex_move _) ?_
     simp only [pS, pN, pA, pC, pZ]
     refine do_ rfl (.bool true) (ex_not (b := false) rfl rfl) ?_
     simp only [pS, pN, pA, pC, pZ]
     refine do_ rfl (.bool true) (ex_pick (b := false) rfl) ?_
     simp only [pS, pN, pA, pC, pZ]
     refine do_ rfl (.bool true) (ex_pick (b := true) rfl) ?_
     simp only [pS, pN, pA, pC, pZ]
     refine do_ rfl (.bool true) (ex_assign _) ?_
     simp only [pS, pN, pA, pC, pZ]
     refine wl_nil (hK390 _ _ ?_)
     refine wp_ret ?_
     (try simp only [Exit.then, Exit.inBlock, ↓reduceIte, Nat.reduceEqDiff])
     refine bodyPost_ret (v := (.bool true)) ?_ rfl ?_
     ·exact res_t rfl rfl
     ·exact ⟨rfl, S389.gr.below⟩
end Go.Proofs.Ytcpngkkconalhaa
