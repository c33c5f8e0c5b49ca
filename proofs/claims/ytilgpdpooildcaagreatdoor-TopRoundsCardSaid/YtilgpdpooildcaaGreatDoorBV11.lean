/- Rules, plain laws and walks: SV5 SV7 SV8 P16 -/
import Derived.Test.YtilgpdpooildcaaGreatDoorBV10
import Derived.Test.YtilgpdpooildcaaGreatDoorBV2
import Derived.Test.YtilgpdpooildcaaGreatDoorBV7
import Derived.Test.YtilgpdpooildcaaGreatDoorBV9
import Derived.Test.YtilgpdpooildcaaGreatDoorBV8
namespace Go.Proofs.YtilgpdpooildcaaGreatDoor
set_option maxHeartbeats 8000000
open Go.RowKit
set_option maxRecDepth 100000
set_option linter.unusedVariables false
set_option linter.unusedSimpArgs false
theorem lookOf_spec (F : Fz) (w : World) (u v y z : Value) (l : Forest) (t : Tx) (n k : By) {b : Bool} (hs : Sat w F) (hl : Tns F u l) (hv : TxV F v t) (hn : Bs F y n) (hk : Bs F z k) (hf : ForestOk 60 l) (ht : TxOk t) (hnn : 1 ≤ n.length ∧ n.length ≤ 8) (hkk : 1 ≤ k.length ∧ k.length ≤ 16) (h : (lookX l t n k).2 = b) :
    Calls Tryz.prog 89 #[u, v, y, z] w (Gives w F (LookR (lookX l t n k).1 b 0)) := by
 subst h; exact look_spec F w u v y z l t n k hs hl hv hn hk hf ht hnn hkk
theorem scanOf_spec (F : Fz) (w : World) (u v y z x : Value) (l : Forest) (t : Tx) (n k j : By) {o : Option (List Pr)} (hs : Sat w F) (hl : Tns F u l) (hv : TxV F v t) (hn : Bs F y n) (hk : Bs F z k) (hj : Bs F x j) (hf : ForestOk 60 l) (ht : TxOk t) (hnn : 1 ≤ n.length ∧ n.length ≤ 8) (hkk : 1 ≤ k.length ∧ k.length ≤ 16) (hjj : 1 ≤ j.length ∧ j.length ≤ 16) (h : scanX l t n k j = o) :
    Calls Tryz.prog 91 #[u, v, y, z, x] w (Gives w F (PrsE (o.getD []) (if o.isSome then 0 else 11))) := by
 have := scanA_spec F w u v y z x l t n k j hs hl hv hn hk hj hf ht hnn hkk hjj
 rw [h] at this
 cases o <;> exact this
theorem start_at {m : Nat} {g : Eng} (h : EngOk m g) {s : Nat} {t : Tx} (ht : g.txn s = some t) : ∃ k : Nat, t.start = (k : Int) ∧ k ≤ g.commits.length ∧ t.start.toNat = k := by
 obtain ⟨h1, h2⟩ := h.txns s t ht
 have := h.sync
 have := h1.start
 exact ⟨t.start.toNat, by omega, by omega, rfl⟩
theorem reads_at {F : Fz} {b : Nat} {z : Int} {k : Nat} (h : cellF F b 0 = some (.int .i64 z)) (e : z = (k : Int)) : cellF F b 0 = some (.int .i64 ((k : Nat) : Int)) := by rw [← e]; exact h
theorem rqk_ok {k : Nat} {r : Rq} {j : Nat} (ok : RqOk k r) (hk : k = j) (hj : j = 2 ∨ j = 3 := by decide) : (1 ≤ r.name.length ∧ r.name.length ≤ 8) ∧ (1 ≤ r.key.length ∧ r.key.length ≤ 16) ∧ (j = 3 → 1 ≤ r.last.length ∧ r.last.length ≤ 16) := by
 subst hk
 obtain ⟨h1, h2, h3, h4, h5, h6⟩ := rq_of ok (by omega)
 exact ⟨h1, h2, h5⟩
theorem work_eng (w0 : World) (F0 : Fz) (w : World) (F : Fz) (n : Nat) (g : Eng) (L : List Blk) {m : Nat} (s : Nat) (hs8 : s < 8) (u : Value) (t : Tx) (k : Nat) (r : Rq) (hM : EngM w0 F0 w F n g L) (hh : Has w0) (hT : Tabs w0) (hg : EngOk m g) (hm : m ≤ 149) (hts : g.txn s = some t) (hv : ReqV F u k r.name r.key r.last r.value) (ok : RqOk k r) (hk1 : k ≠ 1 ∧ k ≠ 7 ∧ k ≠ 8) (hq : g.replies.length ≤ 100000) :
    Calls Tryz.prog 81 #[.pointer (some ⟨n, 0, none⟩), .int .i64 ((s : Nat) : Int), .pointer (some ⟨n, 6 + s * 2, none⟩), u] w (EngP w0 F0 F n (g.work s t k r) L) := by
 obtain ⟨_, _, _, _, rfl, q0, q1, q2, q3⟩ := hv
 obtain ⟨a0, c0, rfl, _⟩ := q0.shape
 obtain ⟨a1, c1, rfl, _⟩ := q1.shape
 obtain ⟨a2, c2, rfl, _⟩ := q2.shape
 obtain ⟨a3, c3, rfl, _⟩ := q3.shape
 obtain ⟨ad, cd, ac, cc, af, cf, aw, cw, ar, cr, pv, S, hd, ht⟩ := hM
 have hb := ht s hs8
 rw [hts] at hb
 obtain ⟨b, x0, y0, x1, y1, hp, b0, b1, b2, r0, r1⟩ := hb
 have htok := (hg.txns s t hts).1
 have hsy := hg.sync
 have hst := hg.states
 go_enter Tryz.func81, Tryz.ntmps81
 refine sk fun K4 hK4 => ?_
 refine stNew S (v := fun n => .pointer (aA n 0)) rfl (ex_box (v := (.agg #[(nI k), (.slice a0 r.name.length c0), (.slice a1 r.key.length c1), (.slice a2 r.last.length c2), (.slice a3 r.value.length c3)])) rfl) (fun n5 w6 S7 => ?_)
 refine wn hK4 ?_
 refine wp_seq_k (fun K8 hK8 => ?_)
 obtain ⟨st, hst1, hst2, hst3⟩ := start_at hg hts
 have hfa := forest_at hg hst2
 have hfo := forest_ok hg hst2
 have b0n := reads_at b0 hst1
 obtain ⟨g9, ha10, xa11, xc12, c13, r14⟩ := fo_at (S7.own (i := 1) rfl) hfa
 refine region_gw F 11 [] (by kernel_rfl) (by kernel_rfl) ?_
 simp only [List.take_succ_cons, List.take_zero]
 refine gm ?_
 refine gi ?_
 refine gf (fa_115_3 _ _) ?_
 simp only [pq]
 refine gl nagg_106 S7 1 ?_
 refine gm ?_
 refine gi ?_
 simp only [pq]
 refine gf (fa_112_0 _ _) ?_
 refine gv _ (fun _ C15 => ex_load rfl (load1 (nagg_110 _) (St.cell (St.tells S7 C15) (i := 1) rfl ((engC_txn hs8).trans (congrArg some hp))))) ?_
 refine gi ?_
 simp only [pq]
 refine gf (fa_141_0 _ _) ?_
 refine gv _ (fun _ C15 => ex_load rfl (load1 (nagg_3 _) (St.fz (St.tells S7 C15) b0n))) ?_
 refine gw_nil ?_
 intro w16 hC18 hF19
 clear hF19
 have S17 := St.tells S7 hC18
 simp only [List.drop_succ_cons, List.drop_zero]
 refine dr (pP g9 (0 + st * 1)) (ex_at (i := st) (sz := 1) Tryz.underlying106 (sizeof_24 _) rfl ha10 rfl (by omega) rfl) ?_
 refine dr _ (ex_load rfl (load1 (nagg_24 _) (cell_kept hC18 c13))) ?_
 refine dy ?_
 simp only [pq]
 refine wl_nil (hK8 _ _ ?_)
 refine wp_seq_k (fun K20 hK20 => ?_)
 subst hst3
 refine region_wl ?_
 refine df (fa_27_0 _ _) ?_
 refine dl (nagg_3 _) S17 0 ?_
 refine wl_nil (hK20 _ _ ?_)
 refine wp_block ?_
 refine wp_seq_k (fun K21 hK21 => ?_)
 rcases (by have := ok.kind; omega : k = 2 ∨ k = 3 ∨ k = 6 ∨ (k = 4 ∨ k = 5)) with hk | hk | hk | hk
 have hq4 := rqk_ok ok hk
 refine region_wl ?_
 refine eqlT ?_
 refine dy ?_
 simp only [pq]
 refine wl_nil (hK21 _ _ ?_)
 refine wp_cond_true rfl ?_
 refine wp_seq_k (fun K22 hK22 => ?_)
 obtain ⟨S23, le24, hc25⟩ := St.freezeBlk S17 (i := 0) rfl
 generalize addF F w16 n5 = F26 at *
 cases hlk : (lookX (g.forest t.start.toNat) t r.name r.key).2 with
 | true =>
  refine region_he (i := 0) S23 rfl (by kernel_rfl) (fun w28 S27 => ?_)
  refine he_take 0 rfl (by kernel_rfl) (v := (.slice xa11 (g.forest t.start.toNat).length xc12)) (fun _ _ _ h => h) (engS (i := 0) S27 (Le.refl _) rfl) rfl (fun w29 hs30 => ex_move _) ?_
  simp only [pq]
  refine he_take 1 rfl (by kernel_rfl) (v := (pP n (6 + s * 2))) (fun _ _ _ h => h) (engS (i := 0) S27 (Le.refl _) rfl) rfl (fun w31 hs32 => ex_move _) ?_
  simp only [pq]
  refine he_take 2 rfl (by kernel_rfl) (v := (pP n (6 + s * 2))) (fun _ _ _ h => h) (engS (i := 0) S27 (Le.refl _) rfl) rfl (fun w33 hs34 => ex_nil rfl) ?_
  simp only [pq]
  refine he_take 3 rfl (by kernel_rfl) (v := (pP n (6 + s * 2))) (fun _ _ _ h => h) (engS (i := 0) S27 (Le.refl _) rfl) rfl (fun w35 hs36 => ef (fa_112_0 _ _)) ?_
  simp only [pq]
  refine he_take 4 rfl (by kernel_rfl) (v := (pP b 0)) (fun _ _ _ h => h) (engS (i := 0) S27 (Le.refl _) rfl) rfl (fun w37 hs38 => ex_load rfl (load1 (nagg_110 _) (cellB hs38.2 ((engC_txn hs8).trans (congrArg some hp))))) ?_
  simp only [pq]
  refine he_take 5 rfl (by kernel_rfl) (v := (pP b 0)) (fun _ _ _ h => h) (engS (i := 0) S27 (Le.refl _) rfl) rfl (fun w39 hs40 => ex_nil rfl) ?_
  simp only [pq]
  refine he_take 6 rfl (by kernel_rfl) (v := (.agg #[(.int .i64 t.start), (.slice x0 t.reads.length y0), (.slice x1 t.writes.length y1)])) (fun _ _ _ h => h) (engS (i := 0) S27 (Le.refl _) rfl) rfl (fun w41 hs42 => ex_load rfl (loadN (cs := [(.int .i64 t.start), (.slice x0 t.reads.length y0), (.slice x1 t.writes.length y1)]) Tryz.underlying141 rfl (size_141) (range3 (St.fz (St.start hs42.1) (Le.cell le24 b0)) (St.fz (St.start hs42.1) (Le.cell le24 b1)) (St.fz (St.start hs42.1) (Le.cell le24 b2))))) ?_
  simp only [pq]
  refine he_take 7 rfl (by kernel_rfl) (v := (pP n5 1)) (fun _ _ _ h => h) (engS (i := 0) S27 (Le.refl _) rfl) rfl (fun w43 hs44 => ef (fa_27_1 _ _)) ?_
  simp only [pq]
  refine he_take 8 rfl (by kernel_rfl) (v := (.slice a0 r.name.length c0)) (fun _ _ _ h => h) (engS (i := 0) S27 (Le.refl _) rfl) rfl (fun w45 hs46 => ex_load rfl (load1 (nagg_25 _) (St.fz (St.start hs46.1) (hc25 1 _ rfl)))) ?_
  simp only [pq]
  refine he_take 9 rfl (by kernel_rfl) (v := (pP n5 2)) (fun _ _ _ h => h) (engS (i := 0) S27 (Le.refl _) rfl) rfl (fun w47 hs48 => ef (fa_27_2 _ _)) ?_
  simp only [pq]
  refine he_take 10 rfl (by kernel_rfl) (v := (.slice a1 r.key.length c1)) (fun _ _ _ h => h) (engS (i := 0) S27 (Le.refl _) rfl) rfl (fun w49 hs50 => ex_load rfl (load1 (nagg_25 _) (St.fz (St.start hs50.1) (hc25 2 _ rfl)))) ?_
  simp only [pq]
  refine he_two 11 16 (by kernel_rfl) rfl rfl ?_ ?_
  refine stGives S27 rfl (fn4 (ent_89 _ _)) (lookOf_spec _ _ _ _ _ _ (g.forest t.start.toNat) t r.name r.key (b := true) (S27).sat (r14.mono le24) ⟨_, _, _, _, rfl, (r0.mono le24), (r1.mono le24)⟩ (q0.mono le24) (q1.mono le24) hfo htok hq4.1 hq4.2.1 hlk) ?_
  intro v56 w51 F53 S52 le54 R55
  obtain ⟨_, rfl, R57⟩ := R55
  obtain ⟨a58, c59, rfl, r60⟩ := R57
  have r60 : Bs _ (.slice a58 ((lookX (g.forest t.start.toNat) t r.name r.key).1.getD []).length c59) ((lookX (g.forest t.start.toNat) t r.name r.key).1.getD []) := r60
  refine wl_nil (he_back (engS (i := 0) S52 le54 rfl) ?_)
  refine he_take 12 rfl (by kernel_rfl) (v := (.tuple #[(.agg #[(.bool (lookX (g.forest t.start.toNat) t r.name r.key).1.isSome), (.slice a58 ((lookX (g.forest t.start.toNat) t r.name r.key).1.getD []).length c59)]), bT, (iI 0)])) (fun _ _ _ h => h) (engS (i := 0) S52 le54 rfl) rfl (fun w61 hs62 => ex_move _) ?_
  simp only [pq]
  refine he_take 13 rfl (by kernel_rfl) (v := (.agg #[(.bool (lookX (g.forest t.start.toNat) t r.name r.key).1.isSome), (.slice a58 ((lookX (g.forest t.start.toNat) t r.name r.key).1.getD []).length c59)])) (fun _ _ _ h => h) (engS (i := 0) S52 le54 rfl) rfl (fun w63 hs64 => ex_extract rfl rfl) ?_
  simp only [pq]
  refine he_take 14 rfl (by kernel_rfl) (v := bT) (fun _ _ _ h => h) (engS (i := 0) S52 le54 rfl) rfl (fun w65 hs66 => ex_extract rfl rfl) ?_
  simp only [pq]
  refine he_take 15 rfl (by kernel_rfl) (v := (iI 0)) (fun _ _ _ h => h) (engS (i := 0) S52 le54 rfl) rfl (fun w67 hs68 => ex_extract rfl rfl) ?_
  simp only [pq]
  refine he_next 16 (by kernel_rfl) rfl ?_
  refine sA S52 (zero_72 _) fun n69 w70 S71 => ?_
  refine wl_nil (he_back (engS (i := 1) S71 le54 rfl) ?_)
  refine he_next 17 (by kernel_rfl) rfl ?_
  refine sW 0 S71 (size_72) fun w72 S73 => ?_
  refine wl_nil (he_back (engS (i := 1) S73 le54 rfl) ?_)
  refine he_take 18 rfl (by kernel_rfl) (v := bT) (fun _ _ _ h => h) (engS (i := 1) S73 le54 rfl) rfl (fun w74 hs75 => ex_assign _) ?_
  simp only [pq]
  refine he_take 19 rfl (by kernel_rfl) (v := (iI 0)) (fun _ _ _ h => h) (engS (i := 1) S73 le54 rfl) rfl (fun w76 hs77 => ex_assign _) ?_
  simp only [pq]
  refine he_done (by kernel_rfl) ?_
  refine hK22 _ _ ?_
  refine wp_seq_k (fun K78 hK78 => ?_)
  refine sk fun K79 hK79 => ?_
  refine dx ?_
  refine dt ?_
  refine dx ?_
  simp only [pq]
  iterate 3 refine nO ?_
  simp only [pq]
  iterate 3 refine nO ?_
  simp only [pq]
  refine dp ?_
  refine wn hK79 ?_
  refine wp_cond_false rfl ?_
  refine wp_skip ?_
  refine hK78 _ _ ?_
  refine region_gw F53 14 [] (by kernel_rfl) (by kernel_rfl) ?_
  simp only [List.take_succ_cons, List.take_zero]
  iterate 2 refine gm ?_
  simp only [pq]
  refine gm ?_
  refine gi ?_
  refine gf (fa_112_0 _ _) ?_
  simp only [pq]
  refine gv _ (fun _ C80 => ex_load rfl (load1 (nagg_110 _) (St.cell (St.tells S73 C80) (i := 1) rfl ((engC_txn hs8).trans (congrArg some hp))))) ?_
  refine gi ?_
  refine gf (fa_141_0 _ _) ?_
  simp only [pq]
  refine gv _ (fun _ C80 => ex_load rfl (load1 (nagg_3 _) (St.fz (St.tells S73 C80) (Le.cell (le24.trans le54) b0)))) ?_
  refine gf (fa_72_0 _ _) ?_
  refine gl nagg_4 S73 0 ?_
  simp only [pq]
  refine gf (fa_72_1 _ _) ?_
  refine gl nagg_25 S73 0 ?_
  refine gv (.agg #[(nI s), (iI 0), (.int .i64 t.start), (.bool (lookX (g.forest t.start.toNat) t r.name r.key).1.isSome), (.slice a58 ((lookX (g.forest t.start.toNat) t r.name r.key).1.getD []).length c59), Zn, Zn, bF, Zn, Zn, Zn, bF, Zn, Zn, Zn]) (fun _ _ => ex_build (ps := #[(0, (nI s)), (2, (.int .i64 t.start)), (3, (.bool (lookX (g.forest t.start.toNat) t r.name r.key).1.isSome)), (4, (.slice a58 ((lookX (g.forest t.start.toNat) t r.name r.key).1.getD []).length c59))]) (bmap4 rfl rfl rfl rfl) (by kernel_rfl)) ?_
  simp only [pq]
  refine gw_nil ?_
  intro w81 hC83 hF84
  clear hF84
  have S82 := St.tells S73 hC83
  simp only [List.drop_succ_cons, List.drop_zero]
  have S85 := St.perm S82 (List.perm_middle (l₁ := [_]))
  have hM86 : EngM _ _ _ _ n g _ := ⟨_, _, _, _, _, _, _, _, _, _, _, S85, (hd.mono (le24.trans le54)), (TxB_mono ht (le24.trans le54))⟩
  refine doC rfl (ex_fn (vs := #[(pP n 0), (.agg #[(nI s), (iI 0), (.int .i64 t.start), (.bool (lookX (g.forest t.start.toNat) t r.name r.key).1.isSome), (.slice a58 ((lookX (g.forest t.start.toNat) t r.name r.key).1.getD []).length c59), Zn, Zn, bF, Zn, Zn, Zn, bF, Zn, Zn, Zn])]) (map2 rfl rfl) rfl (ent_79 _ _)) (reply_eng _ _ _ _ _ _ _ _ (⟨s, 0, t.start, (lookX (g.forest t.start.toNat) t r.name r.key).1.isSome, (lookX (g.forest t.start.toNat) t r.name r.key).1.getD [], [], [], nilP, nilP⟩ : Rep) hM86 ⟨_, _, _, _, _, _, _, _, _, rfl, r60, Sl.nil _ _ _, Bs.nil _, Sl.nil _ _ _, Bs.nil _, Bs.nil _, Sl.nil _ _ _, Bs.nil _, Bs.nil _⟩ hq) ?_
  rintro _ w87 ⟨rfl, F88, le89, hM90⟩
  refine ⟨_, rfl, ?_⟩
  obtain ⟨ad91, cd92, ac93, cc94, af95, cf96, aw97, cw98, ar99, cr100, pv101, S102, hd103, ht104⟩ := hM90
  simp only [pq]
  refine wl_nil ?_
  (try simp only [Exit.then, Exit.inBlock, ↓reduceIte, Nat.reduceEqDiff])
  refine bE (res_ rfl) ?_
  have hM105 : EngM _ _ _ _ n (g.reply (⟨s, 0, t.start, (lookX (g.forest t.start.toNat) t r.name r.key).1.isSome, (lookX (g.forest t.start.toNat) t r.name r.key).1.getD [], [], [], nilP, nilP⟩ : Rep)) _ := ⟨_, _, _, _, _, _, _, _, _, _, _, S102, hd103, ht104⟩
  have he : g.work s t k r = (g.reply (⟨s, 0, t.start, (lookX (g.forest t.start.toNat) t r.name r.key).1.isSome, (lookX (g.forest t.start.toNat) t r.name r.key).1.getD [], [], [], nilP, nilP⟩ : Rep)) := by
   unfold Eng.work
   rw [if_pos hk]
   unfold Eng.look
   simp only; rw [if_pos hlk]
  rw [he]
  exact ⟨rfl, _, ((le24.trans le54).trans le89), (hM105.drop (.cons _ (List.Sublist.refl _)))⟩
  refine sA S27 (zero_72 _) fun n106 w107 S108 => ?_
  refine wl_nil (he_back (engS (i := 1) S108 (Le.refl _) rfl) ?_)
  refine he_next 11 (by kernel_rfl) rfl ?_
  refine stGives S108 rfl (fn4 (ent_89 _ _)) (lookOf_spec _ _ _ _ _ _ (g.forest t.start.toNat) t r.name r.key (b := true) (S108).sat (r14.mono le24) ⟨_, _, _, _, rfl, (r0.mono le24), (r1.mono le24)⟩ (q0.mono le24) (q1.mono le24) hfo htok hq4.1 hq4.2.1 hlk) ?_
  intro v114 w109 F111 S110 le112 R113
  obtain ⟨_, rfl, R115⟩ := R113
  obtain ⟨a116, c117, rfl, r118⟩ := R115
  have r118 : Bs _ (.slice a116 ((lookX (g.forest t.start.toNat) t r.name r.key).1.getD []).length c117) ((lookX (g.forest t.start.toNat) t r.name r.key).1.getD []) := r118
  refine wl_nil (he_back (engS (i := 1) S110 le112 rfl) ?_)
  refine he_take 12 rfl (by kernel_rfl) (v := (.tuple #[(.agg #[(.bool (lookX (g.forest t.start.toNat) t r.name r.key).1.isSome), (.slice a116 ((lookX (g.forest t.start.toNat) t r.name r.key).1.getD []).length c117)]), bT, (iI 0)])) (fun _ _ _ h => h) (engS (i := 1) S110 le112 rfl) rfl (fun w119 hs120 => ex_move _) ?_
  simp only [pq]
  refine he_take 13 rfl (by kernel_rfl) (v := (.agg #[(.bool (lookX (g.forest t.start.toNat) t r.name r.key).1.isSome), (.slice a116 ((lookX (g.forest t.start.toNat) t r.name r.key).1.getD []).length c117)])) (fun _ _ _ h => h) (engS (i := 1) S110 le112 rfl) rfl (fun w121 hs122 => ex_extract rfl rfl) ?_
  simp only [pq]
  refine he_take 14 rfl (by kernel_rfl) (v := bT) (fun _ _ _ h => h) (engS (i := 1) S110 le112 rfl) rfl (fun w123 hs124 => ex_extract rfl rfl) ?_
  simp only [pq]
  refine he_take 15 rfl (by kernel_rfl) (v := (iI 0)) (fun _ _ _ h => h) (engS (i := 1) S110 le112 rfl) rfl (fun w125 hs126 => ex_extract rfl rfl) ?_
  simp only [pq]
  refine he_next 17 (by kernel_rfl) rfl ?_
  refine sW 0 S110 (size_72) fun w127 S128 => ?_
  refine wl_nil (he_back (engS (i := 1) S128 le112 rfl) ?_)
  refine he_take 18 rfl (by kernel_rfl) (v := bT) (fun _ _ _ h => h) (engS (i := 1) S128 le112 rfl) rfl (fun w129 hs130 => ex_assign _) ?_
  simp only [pq]
  refine he_take 19 rfl (by kernel_rfl) (v := (iI 0)) (fun _ _ _ h => h) (engS (i := 1) S128 le112 rfl) rfl (fun w131 hs132 => ex_assign _) ?_
  simp only [pq]
  refine he_done (by kernel_rfl) ?_
  refine hK22 _ _ ?_
  refine wp_seq_k (fun K133 hK133 => ?_)
  refine sk fun K134 hK134 => ?_
  refine dx ?_
  refine dt ?_
  refine dx ?_
  simp only [pq]
  iterate 3 refine nO ?_
  simp only [pq]
  iterate 3 refine nO ?_
  simp only [pq]
  refine dp ?_
  refine wn hK134 ?_
  refine wp_cond_false rfl ?_
  refine wp_skip ?_
  refine hK133 _ _ ?_
  refine region_gw F111 14 [] (by kernel_rfl) (by kernel_rfl) ?_
  simp only [List.take_succ_cons, List.take_zero]
  iterate 2 refine gm ?_
  simp only [pq]
  refine gm ?_
  refine gi ?_
  refine gf (fa_112_0 _ _) ?_
  simp only [pq]
  refine gv _ (fun _ C135 => ex_load rfl (load1 (nagg_110 _) (St.cell (St.tells S128 C135) (i := 1) rfl ((engC_txn hs8).trans (congrArg some hp))))) ?_
  refine gi ?_
  refine gf (fa_141_0 _ _) ?_
  simp only [pq]
  refine gv _ (fun _ C135 => ex_load rfl (load1 (nagg_3 _) (St.fz (St.tells S128 C135) (Le.cell (le24.trans le112) b0)))) ?_
  refine gf (fa_72_0 _ _) ?_
  refine gl nagg_4 S128 0 ?_
  simp only [pq]
  refine gf (fa_72_1 _ _) ?_
  refine gl nagg_25 S128 0 ?_
  refine gv (.agg #[(nI s), (iI 0), (.int .i64 t.start), (.bool (lookX (g.forest t.start.toNat) t r.name r.key).1.isSome), (.slice a116 ((lookX (g.forest t.start.toNat) t r.name r.key).1.getD []).length c117), Zn, Zn, bF, Zn, Zn, Zn, bF, Zn, Zn, Zn]) (fun _ _ => ex_build (ps := #[(0, (nI s)), (2, (.int .i64 t.start)), (3, (.bool (lookX (g.forest t.start.toNat) t r.name r.key).1.isSome)), (4, (.slice a116 ((lookX (g.forest t.start.toNat) t r.name r.key).1.getD []).length c117))]) (bmap4 rfl rfl rfl rfl) (by kernel_rfl)) ?_
  simp only [pq]
  refine gw_nil ?_
  intro w136 hC138 hF139
  clear hF139
  have S137 := St.tells S128 hC138
  simp only [List.drop_succ_cons, List.drop_zero]
  have S140 := St.perm S137 (List.perm_middle (l₁ := [_]))
  have hM141 : EngM _ _ _ _ n g _ := ⟨_, _, _, _, _, _, _, _, _, _, _, S140, (hd.mono (le24.trans le112)), (TxB_mono ht (le24.trans le112))⟩
  refine doC rfl (ex_fn (vs := #[(pP n 0), (.agg #[(nI s), (iI 0), (.int .i64 t.start), (.bool (lookX (g.forest t.start.toNat) t r.name r.key).1.isSome), (.slice a116 ((lookX (g.forest t.start.toNat) t r.name r.key).1.getD []).length c117), Zn, Zn, bF, Zn, Zn, Zn, bF, Zn, Zn, Zn])]) (map2 rfl rfl) rfl (ent_79 _ _)) (reply_eng _ _ _ _ _ _ _ _ (⟨s, 0, t.start, (lookX (g.forest t.start.toNat) t r.name r.key).1.isSome, (lookX (g.forest t.start.toNat) t r.name r.key).1.getD [], [], [], nilP, nilP⟩ : Rep) hM141 ⟨_, _, _, _, _, _, _, _, _, rfl, r118, Sl.nil _ _ _, Bs.nil _, Sl.nil _ _ _, Bs.nil _, Bs.nil _, Sl.nil _ _ _, Bs.nil _, Bs.nil _⟩ hq) ?_
  rintro _ w142 ⟨rfl, F143, le144, hM145⟩
  refine ⟨_, rfl, ?_⟩
  obtain ⟨ad146, cd147, ac148, cc149, af150, cf151, aw152, cw153, ar154, cr155, pv156, S157, hd158, ht159⟩ := hM145
  simp only [pq]
  refine wl_nil ?_
  (try simp only [Exit.then, Exit.inBlock, ↓reduceIte, Nat.reduceEqDiff])
  refine bE (res_ rfl) ?_
  have hM160 : EngM _ _ _ _ n (g.reply (⟨s, 0, t.start, (lookX (g.forest t.start.toNat) t r.name r.key).1.isSome, (lookX (g.forest t.start.toNat) t r.name r.key).1.getD [], [], [], nilP, nilP⟩ : Rep)) _ := ⟨_, _, _, _, _, _, _, _, _, _, _, S157, hd158, ht159⟩
  have he : g.work s t k r = (g.reply (⟨s, 0, t.start, (lookX (g.forest t.start.toNat) t r.name r.key).1.isSome, (lookX (g.forest t.start.toNat) t r.name r.key).1.getD [], [], [], nilP, nilP⟩ : Rep)) := by
   unfold Eng.work
   rw [if_pos hk]
   unfold Eng.look
   simp only; rw [if_pos hlk]
  rw [he]
  exact ⟨rfl, _, ((le24.trans le112).trans le144), (hM160.drop (.cons _ (List.Sublist.refl _)))⟩
 | false =>
  refine region_he (i := 0) S23 rfl (by kernel_rfl) (fun w162 S161 => ?_)
  refine he_take 0 rfl (by kernel_rfl) (v := (.slice xa11 (g.forest t.start.toNat).length xc12)) (fun _ _ _ h => h) (engS (i := 0) S161 (Le.refl _) rfl) rfl (fun w163 hs164 => ex_move _) ?_
  simp only [pq]
  refine he_take 1 rfl (by kernel_rfl) (v := (pP n (6 + s * 2))) (fun _ _ _ h => h) (engS (i := 0) S161 (Le.refl _) rfl) rfl (fun w165 hs166 => ex_move _) ?_
  simp only [pq]
  refine he_take 2 rfl (by kernel_rfl) (v := (pP n (6 + s * 2))) (fun _ _ _ h => h) (engS (i := 0) S161 (Le.refl _) rfl) rfl (fun w167 hs168 => ex_nil rfl) ?_
  simp only [pq]
  refine he_take 3 rfl (by kernel_rfl) (v := (pP n (6 + s * 2))) (fun _ _ _ h => h) (engS (i := 0) S161 (Le.refl _) rfl) rfl (fun w169 hs170 => ef (fa_112_0 _ _)) ?_
  simp only [pq]
  refine he_take 4 rfl (by kernel_rfl) (v := (pP b 0)) (fun _ _ _ h => h) (engS (i := 0) S161 (Le.refl _) rfl) rfl (fun w171 hs172 => ex_load rfl (load1 (nagg_110 _) (cellB hs172.2 ((engC_txn hs8).trans (congrArg some hp))))) ?_
  simp only [pq]
  refine he_take 5 rfl (by kernel_rfl) (v := (pP b 0)) (fun _ _ _ h => h) (engS (i := 0) S161 (Le.refl _) rfl) rfl (fun w173 hs174 => ex_nil rfl) ?_
  simp only [pq]
  refine he_take 6 rfl (by kernel_rfl) (v := (.agg #[(.int .i64 t.start), (.slice x0 t.reads.length y0), (.slice x1 t.writes.length y1)])) (fun _ _ _ h => h) (engS (i := 0) S161 (Le.refl _) rfl) rfl (fun w175 hs176 => ex_load rfl (loadN (cs := [(.int .i64 t.start), (.slice x0 t.reads.length y0), (.slice x1 t.writes.length y1)]) Tryz.underlying141 rfl (size_141) (range3 (St.fz (St.start hs176.1) (Le.cell le24 b0)) (St.fz (St.start hs176.1) (Le.cell le24 b1)) (St.fz (St.start hs176.1) (Le.cell le24 b2))))) ?_
  simp only [pq]
  refine he_take 7 rfl (by kernel_rfl) (v := (pP n5 1)) (fun _ _ _ h => h) (engS (i := 0) S161 (Le.refl _) rfl) rfl (fun w177 hs178 => ef (fa_27_1 _ _)) ?_
  simp only [pq]
  refine he_take 8 rfl (by kernel_rfl) (v := (.slice a0 r.name.length c0)) (fun _ _ _ h => h) (engS (i := 0) S161 (Le.refl _) rfl) rfl (fun w179 hs180 => ex_load rfl (load1 (nagg_25 _) (St.fz (St.start hs180.1) (hc25 1 _ rfl)))) ?_
  simp only [pq]
  refine he_take 9 rfl (by kernel_rfl) (v := (pP n5 2)) (fun _ _ _ h => h) (engS (i := 0) S161 (Le.refl _) rfl) rfl (fun w181 hs182 => ef (fa_27_2 _ _)) ?_
  simp only [pq]
  refine he_take 10 rfl (by kernel_rfl) (v := (.slice a1 r.key.length c1)) (fun _ _ _ h => h) (engS (i := 0) S161 (Le.refl _) rfl) rfl (fun w183 hs184 => ex_load rfl (load1 (nagg_25 _) (St.fz (St.start hs184.1) (hc25 2 _ rfl)))) ?_
  simp only [pq]
  refine he_two 11 16 (by kernel_rfl) rfl rfl ?_ ?_
  refine stGives S161 rfl (fn4 (ent_89 _ _)) (lookOf_spec _ _ _ _ _ _ (g.forest t.start.toNat) t r.name r.key (b := false) (S161).sat (r14.mono le24) ⟨_, _, _, _, rfl, (r0.mono le24), (r1.mono le24)⟩ (q0.mono le24) (q1.mono le24) hfo htok hq4.1 hq4.2.1 hlk) ?_
  intro v190 w185 F187 S186 le188 R189
  obtain ⟨_, rfl, R191⟩ := R189
  obtain ⟨a192, c193, rfl, r194⟩ := R191
  have r194 : Bs _ (.slice a192 ((lookX (g.forest t.start.toNat) t r.name r.key).1.getD []).length c193) ((lookX (g.forest t.start.toNat) t r.name r.key).1.getD []) := r194
  refine wl_nil (he_back (engS (i := 0) S186 le188 rfl) ?_)
  refine he_take 12 rfl (by kernel_rfl) (v := (.tuple #[(.agg #[(.bool (lookX (g.forest t.start.toNat) t r.name r.key).1.isSome), (.slice a192 ((lookX (g.forest t.start.toNat) t r.name r.key).1.getD []).length c193)]), bF, (iI 0)])) (fun _ _ _ h => h) (engS (i := 0) S186 le188 rfl) rfl (fun w195 hs196 => ex_move _) ?_
  simp only [pq]
  refine he_take 13 rfl (by kernel_rfl) (v := (.agg #[(.bool (lookX (g.forest t.start.toNat) t r.name r.key).1.isSome), (.slice a192 ((lookX (g.forest t.start.toNat) t r.name r.key).1.getD []).length c193)])) (fun _ _ _ h => h) (engS (i := 0) S186 le188 rfl) rfl (fun w197 hs198 => ex_extract rfl rfl) ?_
  simp only [pq]
  refine he_take 14 rfl (by kernel_rfl) (v := bF) (fun _ _ _ h => h) (engS (i := 0) S186 le188 rfl) rfl (fun w199 hs200 => ex_extract rfl rfl) ?_
  simp only [pq]
  refine he_take 15 rfl (by kernel_rfl) (v := (iI 0)) (fun _ _ _ h => h) (engS (i := 0) S186 le188 rfl) rfl (fun w201 hs202 => ex_extract rfl rfl) ?_
  simp only [pq]
  refine he_next 16 (by kernel_rfl) rfl ?_
  refine sA S186 (zero_72 _) fun n203 w204 S205 => ?_
  refine wl_nil (he_back (engS (i := 1) S205 le188 rfl) ?_)
  refine he_next 17 (by kernel_rfl) rfl ?_
  refine sW 0 S205 (size_72) fun w206 S207 => ?_
  refine wl_nil (he_back (engS (i := 1) S207 le188 rfl) ?_)
  refine he_take 18 rfl (by kernel_rfl) (v := bF) (fun _ _ _ h => h) (engS (i := 1) S207 le188 rfl) rfl (fun w208 hs209 => ex_assign _) ?_
  simp only [pq]
  refine he_take 19 rfl (by kernel_rfl) (v := (iI 0)) (fun _ _ _ h => h) (engS (i := 1) S207 le188 rfl) rfl (fun w210 hs211 => ex_assign _) ?_
  simp only [pq]
  refine he_done (by kernel_rfl) ?_
  refine hK22 _ _ ?_
  refine wp_seq_k (fun K212 hK212 => ?_)
  refine sk fun K213 hK213 => ?_
  refine dx ?_
  refine dt ?_
  refine dx ?_
  simp only [pq]
  iterate 3 refine dx ?_
  simp only [pq]
  refine dr _ (ex_load rfl (loadM Tryz.underlying27 rfl (size_27) (rangeF (c := [(nI k), (.slice a0 r.name.length c0), (.slice a1 r.key.length c1), (.slice a2 r.last.length c2), (.slice a3 r.value.length c3)]) S207.sat (Le.cells le188 hc25)))) ?_
  simp only [pq]
  have S214 := St.perm S207 (List.perm_middle (l₁ := [_]))
  have hM215 : EngM _ _ _ _ n g _ := ⟨_, _, _, _, _, _, _, _, _, _, _, S214, (hd.mono (le24.trans le188)), (TxB_mono ht (le24.trans le188))⟩
  refine doC rfl (fn4 (ent_90 _ _)) (note_eng _ _ _ _ _ _ _ s hs8 _ k r false t hM215 hh ⟨_, _, _, _, rfl, (q0.mono (le24.trans le188)), (q1.mono (le24.trans le188)), (q2.mono (le24.trans le188)), (q3.mono (le24.trans le188))⟩ ok (.inl ⟨hk, rfl⟩) hts htok hq) ?_
  rintro _ w216 ⟨F217, le218, h219⟩
  cases hn : noteX t ⟨r.name, r.key, false, r.last⟩ with
  | none =>
   rw [hn] at h219
   obtain ⟨rfl, hM220⟩ := h219
   refine ⟨_, rfl, ?_⟩
   obtain ⟨ad221, cd222, ac223, cc224, af225, cf226, aw227, cw228, ar229, cr230, pv231, S232, hd233, ht234⟩ := hM220
   refine dt ?_
   refine dp ?_
   refine wn hK213 ?_
   refine wp_cond_true rfl ?_
   refine wp_ret ?_
   (try simp only [Exit.then, Exit.inBlock, ↓reduceIte, Nat.reduceEqDiff])
   refine bR (res_ rfl) ?_
   have hM235 : EngM _ _ _ _ n (g.reply (repC s 11)) _ := ⟨_, _, _, _, _, _, _, _, _, _, _, S232, hd233, ht234⟩
   have he : g.work s t k r = (g.reply (repC s 11)) := by
    unfold Eng.work
    rw [if_pos hk]
    unfold Eng.look
    simp only; rw [if_neg (by rw [hlk]; decide)]; unfold Eng.note; rw [hn]
   rw [he]
   exact ⟨rfl, _, ((le24.trans le188).trans le218), (hM235.drop (.cons _ (List.Sublist.refl _)))⟩
  | some nx =>
   rw [hn] at h219
   obtain ⟨rfl, hM236⟩ := h219
   refine ⟨_, rfl, ?_⟩
   obtain ⟨ad237, cd238, ac239, cc240, af241, cf242, aw243, cw244, ar245, cr246, pv247, S248, hd249, ht250⟩ := hM236
   simp only [pq]
   have hb251 := ht250 s hs8
   rw [show (g.setTxn s (some nx)).txn s = some nx from updN_same _ _ _] at hb251
   obtain ⟨b252, x253, y254, x255, y256, hp257, c258, c259, c260, r261, r262⟩ := hb251
   refine dt ?_
   refine dp ?_
   refine wn hK213 ?_
   refine wp_cond_false rfl ?_
   refine wp_skip ?_
   refine hK212 _ _ ?_
   refine region_gw F217 14 [] (by kernel_rfl) (by kernel_rfl) ?_
   simp only [List.take_succ_cons, List.take_zero]
   refine gm ?_
   simp only [pq]
   iterate 2 refine gm ?_
   refine gi ?_
   simp only [pq]
   refine gf (fa_112_0 _ _) ?_
   refine gv _ (fun _ C263 => ex_load rfl (load1 (nagg_110 _) (St.cell (St.tells S248 C263) (i := 0) rfl ((engC_txn hs8).trans (congrArg some hp257))))) ?_
   refine gi ?_
   simp only [pq]
   refine gf (fa_141_0 _ _) ?_
   simp only [pq]
   refine gw_pure rfl rfl (.int .i64 t.start) (fun w263 C263 => pureAt_of (ex_load rfl (load1 (nagg_3 _) (St.fz (St.tells S248 C263) (by rw [← (noteX_len hn).2.2]; exact c258))))) ?_
   refine gf (fa_72_0 _ _) ?_
   refine gl nagg_4 S248 1 ?_
   refine gf (fa_72_1 _ _) ?_
   simp only [pq]
   refine gl nagg_25 S248 1 ?_
   refine gv (.agg #[(nI s), (iI 0), (.int .i64 t.start), (.bool (lookX (g.forest t.start.toNat) t r.name r.key).1.isSome), (.slice a192 ((lookX (g.forest t.start.toNat) t r.name r.key).1.getD []).length c193), Zn, Zn, bF, Zn, Zn, Zn, bF, Zn, Zn, Zn]) (fun _ _ => ex_build (ps := #[(0, (nI s)), (2, (.int .i64 t.start)), (3, (.bool (lookX (g.forest t.start.toNat) t r.name r.key).1.isSome)), (4, (.slice a192 ((lookX (g.forest t.start.toNat) t r.name r.key).1.getD []).length c193))]) (bmap4 rfl rfl rfl rfl) (by kernel_rfl)) ?_
   refine gw_nil ?_
   intro w264 hC266 hF267
   clear hF267
   have S265 := St.tells S248 hC266
   simp only [List.drop_succ_cons, List.drop_zero]
   have hM268 : EngM _ _ _ _ n (g.setTxn s (some nx)) _ := ⟨_, _, _, _, _, _, _, _, _, _, _, S265, hd249, ht250⟩
   refine doC rfl (ex_fn (vs := #[(pP n 0), (.agg #[(nI s), (iI 0), (.int .i64 t.start), (.bool (lookX (g.forest t.start.toNat) t r.name r.key).1.isSome), (.slice a192 ((lookX (g.forest t.start.toNat) t r.name r.key).1.getD []).length c193), Zn, Zn, bF, Zn, Zn, Zn, bF, Zn, Zn, Zn])]) (map2 rfl rfl) rfl (ent_79 _ _)) (reply_eng _ _ _ _ _ _ _ _ (⟨s, 0, t.start, (lookX (g.forest t.start.toNat) t r.name r.key).1.isSome, (lookX (g.forest t.start.toNat) t r.name r.key).1.getD [], [], [], nilP, nilP⟩ : Rep) hM268 ⟨_, _, _, _, _, _, _, _, _, rfl, (r194.mono le218), Sl.nil _ _ _, Bs.nil _, Sl.nil _ _ _, Bs.nil _, Bs.nil _, Sl.nil _ _ _, Bs.nil _, Bs.nil _⟩ hq) ?_
   rintro _ w269 ⟨rfl, F270, le271, hM272⟩
   refine ⟨_, rfl, ?_⟩
   obtain ⟨ad273, cd274, ac275, cc276, af277, cf278, aw279, cw280, ar281, cr282, pv283, S284, hd285, ht286⟩ := hM272
   simp only [pq]
   refine wl_nil ?_
   (try simp only [Exit.then, Exit.inBlock, ↓reduceIte, Nat.reduceEqDiff])
   refine bE (res_ rfl) ?_
   have hM287 : EngM _ _ _ _ n ((g.setTxn s (some nx)).reply (⟨s, 0, t.start, (lookX (g.forest t.start.toNat) t r.name r.key).1.isSome, (lookX (g.forest t.start.toNat) t r.name r.key).1.getD [], [], [], nilP, nilP⟩ : Rep)) _ := ⟨_, _, _, _, _, _, _, _, _, _, _, S284, hd285, ht286⟩
   have he : g.work s t k r = ((g.setTxn s (some nx)).reply (⟨s, 0, t.start, (lookX (g.forest t.start.toNat) t r.name r.key).1.isSome, (lookX (g.forest t.start.toNat) t r.name r.key).1.getD [], [], [], nilP, nilP⟩ : Rep)) := by
    unfold Eng.work
    rw [if_pos hk]
    unfold Eng.look
    simp only; rw [if_neg (by rw [hlk]; decide)]; unfold Eng.note; rw [hn]
   rw [he]
   exact ⟨rfl, _, (((le24.trans le188).trans le218).trans le271), (hM287.drop (.cons _ (List.Sublist.refl _)))⟩
  refine sA S161 (zero_72 _) fun n288 w289 S290 => ?_
  refine wl_nil (he_back (engS (i := 1) S290 (Le.refl _) rfl) ?_)
  refine he_next 11 (by kernel_rfl) rfl ?_
  refine stGives S290 rfl (fn4 (ent_89 _ _)) (lookOf_spec _ _ _ _ _ _ (g.forest t.start.toNat) t r.name r.key (b := false) (S290).sat (r14.mono le24) ⟨_, _, _, _, rfl, (r0.mono le24), (r1.mono le24)⟩ (q0.mono le24) (q1.mono le24) hfo htok hq4.1 hq4.2.1 hlk) ?_
  intro v296 w291 F293 S292 le294 R295
  obtain ⟨_, rfl, R297⟩ := R295
  obtain ⟨a298, c299, rfl, r300⟩ := R297
  have r300 : Bs _ (.slice a298 ((lookX (g.forest t.start.toNat) t r.name r.key).1.getD []).length c299) ((lookX (g.forest t.start.toNat) t r.name r.key).1.getD []) := r300
  refine wl_nil (he_back (engS (i := 1) S292 le294 rfl) ?_)
  refine he_take 12 rfl (by kernel_rfl) (v := (.tuple #[(.agg #[(.bool (lookX (g.forest t.start.toNat) t r.name r.key).1.isSome), (.slice a298 ((lookX (g.forest t.start.toNat) t r.name r.key).1.getD []).length c299)]), bF, (iI 0)])) (fun _ _ _ h => h) (engS (i := 1) S292 le294 rfl) rfl (fun w301 hs302 => ex_move _) ?_
  simp only [pq]
  refine he_take 13 rfl (by kernel_rfl) (v := (.agg #[(.bool (lookX (g.forest t.start.toNat) t r.name r.key).1.isSome), (.slice a298 ((lookX (g.forest t.start.toNat) t r.name r.key).1.getD []).length c299)])) (fun _ _ _ h => h) (engS (i := 1) S292 le294 rfl) rfl (fun w303 hs304 => ex_extract rfl rfl) ?_
  simp only [pq]
  refine he_take 14 rfl (by kernel_rfl) (v := bF) (fun _ _ _ h => h) (engS (i := 1) S292 le294 rfl) rfl (fun w305 hs306 => ex_extract rfl rfl) ?_
  simp only [pq]
  refine he_take 15 rfl (by kernel_rfl) (v := (iI 0)) (fun _ _ _ h => h) (engS (i := 1) S292 le294 rfl) rfl (fun w307 hs308 => ex_extract rfl rfl) ?_
  simp only [pq]
  refine he_next 17 (by kernel_rfl) rfl ?_
  refine sW 0 S292 (size_72) fun w309 S310 => ?_
  refine wl_nil (he_back (engS (i := 1) S310 le294 rfl) ?_)
  refine he_take 18 rfl (by kernel_rfl) (v := bF) (fun _ _ _ h => h) (engS (i := 1) S310 le294 rfl) rfl (fun w311 hs312 => ex_assign _) ?_
  simp only [pq]
  refine he_take 19 rfl (by kernel_rfl) (v := (iI 0)) (fun _ _ _ h => h) (engS (i := 1) S310 le294 rfl) rfl (fun w313 hs314 => ex_assign _) ?_
  simp only [pq]
  refine he_done (by kernel_rfl) ?_
  refine hK22 _ _ ?_
  refine wp_seq_k (fun K315 hK315 => ?_)
  refine sk fun K316 hK316 => ?_
  refine dx ?_
  refine dt ?_
  refine dx ?_
  simp only [pq]
  iterate 3 refine dx ?_
  simp only [pq]
  refine dr _ (ex_load rfl (loadM Tryz.underlying27 rfl (size_27) (rangeF (c := [(nI k), (.slice a0 r.name.length c0), (.slice a1 r.key.length c1), (.slice a2 r.last.length c2), (.slice a3 r.value.length c3)]) S310.sat (Le.cells le294 hc25)))) ?_
  simp only [pq]
  have S317 := St.perm S310 (List.perm_middle (l₁ := [_]))
  have hM318 : EngM _ _ _ _ n g _ := ⟨_, _, _, _, _, _, _, _, _, _, _, S317, (hd.mono (le24.trans le294)), (TxB_mono ht (le24.trans le294))⟩
  refine doC rfl (fn4 (ent_90 _ _)) (note_eng _ _ _ _ _ _ _ s hs8 _ k r false t hM318 hh ⟨_, _, _, _, rfl, (q0.mono (le24.trans le294)), (q1.mono (le24.trans le294)), (q2.mono (le24.trans le294)), (q3.mono (le24.trans le294))⟩ ok (.inl ⟨hk, rfl⟩) hts htok hq) ?_
  rintro _ w319 ⟨F320, le321, h322⟩
  cases hn : noteX t ⟨r.name, r.key, false, r.last⟩ with
  | none =>
   rw [hn] at h322
   obtain ⟨rfl, hM323⟩ := h322
   refine ⟨_, rfl, ?_⟩
   obtain ⟨ad324, cd325, ac326, cc327, af328, cf329, aw330, cw331, ar332, cr333, pv334, S335, hd336, ht337⟩ := hM323
   refine dt ?_
   refine dp ?_
   refine wn hK316 ?_
   refine wp_cond_true rfl ?_
   refine wp_ret ?_
   (try simp only [Exit.then, Exit.inBlock, ↓reduceIte, Nat.reduceEqDiff])
   refine bR (res_ rfl) ?_
   have hM338 : EngM _ _ _ _ n (g.reply (repC s 11)) _ := ⟨_, _, _, _, _, _, _, _, _, _, _, S335, hd336, ht337⟩
   have he : g.work s t k r = (g.reply (repC s 11)) := by
    unfold Eng.work
    rw [if_pos hk]
    unfold Eng.look
    simp only; rw [if_neg (by rw [hlk]; decide)]; unfold Eng.note; rw [hn]
   rw [he]
   exact ⟨rfl, _, ((le24.trans le294).trans le321), (hM338.drop (.cons _ (List.Sublist.refl _)))⟩
  | some nx =>
   rw [hn] at h322
   obtain ⟨rfl, hM339⟩ := h322
   refine ⟨_, rfl, ?_⟩
   obtain ⟨ad340, cd341, ac342, cc343, af344, cf345, aw346, cw347, ar348, cr349, pv350, S351, hd352, ht353⟩ := hM339
   simp only [pq]
   have hb354 := ht353 s hs8
   rw [show (g.setTxn s (some nx)).txn s = some nx from updN_same _ _ _] at hb354
   obtain ⟨b355, x356, y357, x358, y359, hp360, c361, c362, c363, r364, r365⟩ := hb354
   refine dt ?_
   refine dp ?_
   refine wn hK316 ?_
   refine wp_cond_false rfl ?_
   refine wp_skip ?_
   refine hK315 _ _ ?_
   refine region_gw F320 14 [] (by kernel_rfl) (by kernel_rfl) ?_
   simp only [List.take_succ_cons, List.take_zero]
   refine gm ?_
   simp only [pq]
   iterate 2 refine gm ?_
   refine gi ?_
   simp only [pq]
   refine gf (fa_112_0 _ _) ?_
   refine gv _ (fun _ C366 => ex_load rfl (load1 (nagg_110 _) (St.cell (St.tells S351 C366) (i := 0) rfl ((engC_txn hs8).trans (congrArg some hp360))))) ?_
   refine gi ?_
   simp only [pq]
   refine gf (fa_141_0 _ _) ?_
   simp only [pq]
   refine gw_pure rfl rfl (.int .i64 t.start) (fun w366 C366 => pureAt_of (ex_load rfl (load1 (nagg_3 _) (St.fz (St.tells S351 C366) (by rw [← (noteX_len hn).2.2]; exact c361))))) ?_
   refine gf (fa_72_0 _ _) ?_
   refine gl nagg_4 S351 1 ?_
   refine gf (fa_72_1 _ _) ?_
   simp only [pq]
   refine gl nagg_25 S351 1 ?_
   refine gv (.agg #[(nI s), (iI 0), (.int .i64 t.start), (.bool (lookX (g.forest t.start.toNat) t r.name r.key).1.isSome), (.slice a298 ((lookX (g.forest t.start.toNat) t r.name r.key).1.getD []).length c299), Zn, Zn, bF, Zn, Zn, Zn, bF, Zn, Zn, Zn]) (fun _ _ => ex_build (ps := #[(0, (nI s)), (2, (.int .i64 t.start)), (3, (.bool (lookX (g.forest t.start.toNat) t r.name r.key).1.isSome)), (4, (.slice a298 ((lookX (g.forest t.start.toNat) t r.name r.key).1.getD []).length c299))]) (bmap4 rfl rfl rfl rfl) (by kernel_rfl)) ?_
   refine gw_nil ?_
   intro w367 hC369 hF370
   clear hF370
   have S368 := St.tells S351 hC369
   simp only [List.drop_succ_cons, List.drop_zero]
   have hM371 : EngM _ _ _ _ n (g.setTxn s (some nx)) _ := ⟨_, _, _, _, _, _, _, _, _, _, _, S368, hd352, ht353⟩
   refine doC rfl (ex_fn (vs := #[(pP n 0), (.agg #[(nI s), (iI 0), (.int .i64 t.start), (.bool (lookX (g.forest t.start.toNat) t r.name r.key).1.isSome), (.slice a298 ((lookX (g.forest t.start.toNat) t r.name r.key).1.getD []).length c299), Zn, Zn, bF, Zn, Zn, Zn, bF, Zn, Zn, Zn])]) (map2 rfl rfl) rfl (ent_79 _ _)) (reply_eng _ _ _ _ _ _ _ _ (⟨s, 0, t.start, (lookX (g.forest t.start.toNat) t r.name r.key).1.isSome, (lookX (g.forest t.start.toNat) t r.name r.key).1.getD [], [], [], nilP, nilP⟩ : Rep) hM371 ⟨_, _, _, _, _, _, _, _, _, rfl, (r300.mono le321), Sl.nil _ _ _, Bs.nil _, Sl.nil _ _ _, Bs.nil _, Bs.nil _, Sl.nil _ _ _, Bs.nil _, Bs.nil _⟩ hq) ?_
   rintro _ w372 ⟨rfl, F373, le374, hM375⟩
   refine ⟨_, rfl, ?_⟩
   obtain ⟨ad376, cd377, ac378, cc379, af380, cf381, aw382, cw383, ar384, cr385, pv386, S387, hd388, ht389⟩ := hM375
   simp only [pq]
   refine wl_nil ?_
   (try simp only [Exit.then, Exit.inBlock, ↓reduceIte, Nat.reduceEqDiff])
   refine bE (res_ rfl) ?_
   have hM390 : EngM _ _ _ _ n ((g.setTxn s (some nx)).reply (⟨s, 0, t.start, (lookX (g.forest t.start.toNat) t r.name r.key).1.isSome, (lookX (g.forest t.start.toNat) t r.name r.key).1.getD [], [], [], nilP, nilP⟩ : Rep)) _ := ⟨_, _, _, _, _, _, _, _, _, _, _, S387, hd388, ht389⟩
   have he : g.work s t k r = ((g.setTxn s (some nx)).reply (⟨s, 0, t.start, (lookX (g.forest t.start.toNat) t r.name r.key).1.isSome, (lookX (g.forest t.start.toNat) t r.name r.key).1.getD [], [], [], nilP, nilP⟩ : Rep)) := by
    unfold Eng.work
    rw [if_pos hk]
    unfold Eng.look
    simp only; rw [if_neg (by rw [hlk]; decide)]; unfold Eng.note; rw [hn]
   rw [he]
   exact ⟨rfl, _, (((le24.trans le294).trans le321).trans le374), (hM390.drop (.cons _ (List.Sublist.refl _)))⟩
 have hq4 := rqk_ok ok hk
 refine region_wl ?_
 refine eqlF ?_
 refine dy ?_
 refine wl_nil (hK21 _ _ ?_)
 refine wp_cond_false rfl ?_
 refine sk fun K391 hK391 => ?_
 refine eqlT ?_
 refine dy ?_
 simp only [pq]
 refine wn hK391 ?_
 refine wp_cond_true rfl ?_
 refine wp_seq_k (fun K392 hK392 => ?_)
 cases hsc : (scanX (g.forest t.start.toNat) t r.name r.key r.last) with
 | none =>
  refine region_gw F 18 [(13, .made (fun F' u => PrsE [] 11 F' u)), (15, .made (fun F' u => Prs F' u [])), (16, .is (iI 11))] (by kernel_rfl) (by kernel_rfl) ?_
  simp only [List.take_succ_cons, List.take_zero]
  iterate 2 refine gm ?_
  refine gi ?_
  simp only [pq]
  refine gf (fa_112_0 _ _) ?_
  refine gv _ (fun _ C393 => ex_load rfl (load1 (nagg_110 _) (St.cell (St.tells S17 C393) (i := 1) rfl ((engC_txn hs8).trans (congrArg some hp))))) ?_
  refine gi ?_
  simp only [pq]
  refine gv _ (fun _ C393 => ex_load rfl (loadM Tryz.underlying141 rfl (size_141) (range3 (St.fz (St.tells S17 C393) b0) (St.fz (St.tells S17 C393) b1) (St.fz (St.tells S17 C393) b2)))) ?_
  refine gf (fa_27_1 _ _) ?_
  refine gl nagg_25 S17 0 ?_
  simp only [pq]
  refine gf (fa_27_2 _ _) ?_
  refine gl nagg_25 S17 0 ?_
  refine gf (fa_27_3 _ _) ?_
  simp only [pq]
  refine gl nagg_25 S17 0 ?_
  simp only [pq]
  refine gw_rel rfl rfl (fun w393 C393 hF => does_call (ex_fn (vs := #[(.slice xa11 (g.forest t.start.toNat).length xc12), (.agg #[(.int .i64 t.start), (.slice x0 t.reads.length y0), (.slice x1 t.writes.length y1)]), (.slice a0 r.name.length c0), (.slice a1 r.key.length c1), (.slice a2 r.last.length c2)]) (map5 rfl rfl rfl rfl rfl) rfl (ent_91 _ _)) (call_made S17.sat C393 (scanOf_spec _ _ _ _ _ _ _ (g.forest t.start.toNat) t r.name r.key r.last ((St.tells S17 C393)).sat r14 ⟨_, _, _, _, rfl, r0, r1⟩ q0 q1 q2 hfo htok hq4.1 hq4.2.1 (hq4.2.2 rfl) hsc))) (fun v394 => ?_)
  refine gm ?_
  simp only [pq]
  refine gw_rel rfl rfl (fun w393 C393 hF_ => ?_) (fun v399 => ?_)
  obtain ⟨F395, g396, _, rfl, hx398⟩ := hF_.get 13 (by kernel_rfl) rfl rfl
  exact does_val (ex_extract rfl rfl) ⟨F395, g396, hx398⟩ (Below.refl _ _)
  simp only [pq]
  refine gw_const rfl rfl (v := (iI 11)) (fun w393 C393 hF_ => ?_) ?_
  obtain ⟨F400, g401, _, rfl, hx403⟩ := hF_.get 13 (by kernel_rfl) rfl rfl
  exact does_is (ex_extract rfl rfl)
  refine ga ?_
  refine gw_nil ?_
  intro w404 hC406 hF407
  obtain ⟨F408, g409, R410⟩ := hF407.get 15 rfl rfl
  have S405 := St.gives S17 g409
  have le412 : Le _ _ := g409.le S17.sat
  have R413 := R410
  generalize F408 = F411 at *
  obtain ⟨a414, c415, rfl, h416, h417⟩ := Sl.shape R413
  have R413 : Prs _ (.slice a414 ([] : List Pr).length c415) ([] : List Pr) := R413
  clear hF407
  simp only [List.drop_succ_cons, List.drop_zero]
  refine dy ?_
  simp only [pq]
  refine wl_nil (hK392 _ _ ?_)
  refine wp_seq_k (fun K418 hK418 => ?_)
  refine sk fun K419 hK419 => ?_
  refine dx ?_
  refine dr bT (ex_neq (b := true) rfl rfl (by decide)) ?_
  refine wn hK419 ?_
  refine wp_cond_true rfl ?_
  refine sk fun K420 hK420 => ?_
  iterate 3 refine dx ?_
  simp only [pq]
  have S421 := St.perm S405 (List.perm_middle (l₁ := [_]))
  have hM422 : EngM _ _ _ _ n g _ := ⟨_, _, _, _, _, _, _, _, _, _, _, S421, (hd.mono le412), (TxB_mono ht le412)⟩
  refine doC rfl (fn3 (ent_76 _ _)) (told_eng _ _ _ _ _ _ _ s 11 hM422 hq) ?_
  rintro _ w423 ⟨rfl, F424, le425, hM426⟩
  refine ⟨_, rfl, ?_⟩
  obtain ⟨ad427, cd428, ac429, cc430, af431, cf432, aw433, cw434, ar435, cr436, pv437, S438, hd439, ht440⟩ := hM426
  refine wn hK420 ?_
  refine wp_ret ?_
  (try simp only [Exit.then, Exit.inBlock, ↓reduceIte, Nat.reduceEqDiff])
  refine bR (res_ rfl) ?_
  have hM441 : EngM _ _ _ _ n (g.reply (repC s 11)) _ := ⟨_, _, _, _, _, _, _, _, _, _, _, S438, hd439, ht440⟩
  have he : g.work s t k r = (g.reply (repC s 11)) := by
   unfold Eng.work
   rw [if_neg (by omega), if_pos hk]
   unfold Eng.scan
   rw [hsc]
  rw [he]
  exact ⟨rfl, _, (le412.trans le425), (hM441.drop (.cons _ (List.Sublist.refl _)))⟩
 | some R =>
  refine region_gw F 18 [(13, .made (fun F' u => PrsE R 0 F' u)), (15, .made (fun F' u => Prs F' u R)), (16, .is (iI 0))] (by kernel_rfl) (by kernel_rfl) ?_
  simp only [List.take_succ_cons, List.take_zero]
  iterate 2 refine gm ?_
  refine gi ?_
  simp only [pq]
  refine gf (fa_112_0 _ _) ?_
  refine gv _ (fun _ C442 => ex_load rfl (load1 (nagg_110 _) (St.cell (St.tells S17 C442) (i := 1) rfl ((engC_txn hs8).trans (congrArg some hp))))) ?_
  refine gi ?_
  simp only [pq]
  refine gv _ (fun _ C442 => ex_load rfl (loadM Tryz.underlying141 rfl (size_141) (range3 (St.fz (St.tells S17 C442) b0) (St.fz (St.tells S17 C442) b1) (St.fz (St.tells S17 C442) b2)))) ?_
  refine gf (fa_27_1 _ _) ?_
  refine gl nagg_25 S17 0 ?_
  simp only [pq]
  refine gf (fa_27_2 _ _) ?_
  refine gl nagg_25 S17 0 ?_
  refine gf (fa_27_3 _ _) ?_
  simp only [pq]
  refine gl nagg_25 S17 0 ?_
  simp only [pq]
  refine gw_rel rfl rfl (fun w442 C442 hF => does_call (ex_fn (vs := #[(.slice xa11 (g.forest t.start.toNat).length xc12), (.agg #[(.int .i64 t.start), (.slice x0 t.reads.length y0), (.slice x1 t.writes.length y1)]), (.slice a0 r.name.length c0), (.slice a1 r.key.length c1), (.slice a2 r.last.length c2)]) (map5 rfl rfl rfl rfl rfl) rfl (ent_91 _ _)) (call_made S17.sat C442 (scanOf_spec _ _ _ _ _ _ _ (g.forest t.start.toNat) t r.name r.key r.last ((St.tells S17 C442)).sat r14 ⟨_, _, _, _, rfl, r0, r1⟩ q0 q1 q2 hfo htok hq4.1 hq4.2.1 (hq4.2.2 rfl) hsc))) (fun v443 => ?_)
  refine gm ?_
  simp only [pq]
  refine gw_rel rfl rfl (fun w442 C442 hF_ => ?_) (fun v448 => ?_)
  obtain ⟨F444, g445, _, rfl, hx447⟩ := hF_.get 13 (by kernel_rfl) rfl rfl
  exact does_val (ex_extract rfl rfl) ⟨F444, g445, hx447⟩ (Below.refl _ _)
  simp only [pq]
  refine gw_const rfl rfl (v := (iI 0)) (fun w442 C442 hF_ => ?_) ?_
  obtain ⟨F449, g450, _, rfl, hx452⟩ := hF_.get 13 (by kernel_rfl) rfl rfl
  exact does_is (ex_extract rfl rfl)
  refine ga ?_
  refine gw_nil ?_
  intro w453 hC455 hF456
  obtain ⟨F457, g458, R459⟩ := hF456.get 15 rfl rfl
  have S454 := St.gives S17 g458
  have le461 : Le _ _ := g458.le S17.sat
  have R462 := R459
  generalize F457 = F460 at *
  obtain ⟨a463, c464, rfl, h465, h466⟩ := Sl.shape R462
  have R462 : Prs _ (.slice a463 R.length c464) R := R462
  clear hF456
  simp only [List.drop_succ_cons, List.drop_zero]
  refine dy ?_
  simp only [pq]
  refine wl_nil (hK392 _ _ ?_)
  refine wp_seq_k (fun K467 hK467 => ?_)
  refine sk fun K468 hK468 => ?_
  refine dx ?_
  refine dr bF (ex_neq (b := false) rfl rfl (by decide)) ?_
  refine wn hK468 ?_
  refine wp_cond_false rfl ?_
  refine wp_skip ?_
  refine hK467 _ _ ?_
  refine wp_seq_k (fun K469 hK469 => ?_)
  refine sk fun K470 hK470 => ?_
  iterate 3 refine dx ?_
  simp only [pq]
  refine dR S454 0 Tryz.underlying27 (size_27) ?_
  simp only [pq]
  have S471 := St.perm S454 (List.perm_middle (l₁ := [_]))
  have hM472 : EngM _ _ _ _ n g _ := ⟨_, _, _, _, _, _, _, _, _, _, _, S471, (hd.mono le461), (TxB_mono ht le461)⟩
  refine doC rfl (fn4 (ent_90 _ _)) (note_eng _ _ _ _ _ _ _ s hs8 _ k r true t hM472 hh ⟨_, _, _, _, rfl, (q0.mono le461), (q1.mono le461), (q2.mono le461), (q3.mono le461)⟩ ok (.inr ⟨hk, rfl⟩) hts htok hq) ?_
  rintro _ w473 ⟨F474, le475, h476⟩
  cases hn : noteX t ⟨r.name, r.key, true, r.last⟩ with
  | none =>
   rw [hn] at h476
   obtain ⟨rfl, hM477⟩ := h476
   refine ⟨_, rfl, ?_⟩
   obtain ⟨ad478, cd479, ac480, cc481, af482, cf483, aw484, cw485, ar486, cr487, pv488, S489, hd490, ht491⟩ := hM477
   refine dt ?_
   refine wn hK470 ?_
   refine wp_cond_true rfl ?_
   refine wp_ret ?_
   (try simp only [Exit.then, Exit.inBlock, ↓reduceIte, Nat.reduceEqDiff])
   refine bR (res_ rfl) ?_
   have hM492 : EngM _ _ _ _ n (g.reply (repC s 11)) _ := ⟨_, _, _, _, _, _, _, _, _, _, _, S489, hd490, ht491⟩
   have he : g.work s t k r = (g.reply (repC s 11)) := by
    unfold Eng.work
    rw [if_neg (by omega), if_pos hk]
    unfold Eng.scan
    rw [hsc]; simp only; unfold Eng.note; rw [hn]
   rw [he]
   exact ⟨rfl, _, (le461.trans le475), (hM492.drop (.cons _ (List.Sublist.refl _)))⟩
  | some nx =>
   rw [hn] at h476
   obtain ⟨rfl, hM493⟩ := h476
   refine ⟨_, rfl, ?_⟩
   obtain ⟨ad494, cd495, ac496, cc497, af498, cf499, aw500, cw501, ar502, cr503, pv504, S505, hd506, ht507⟩ := hM493
   simp only [pq]
   have hb508 := ht507 s hs8
   rw [show (g.setTxn s (some nx)).txn s = some nx from updN_same _ _ _] at hb508
   obtain ⟨b509, x510, y511, x512, y513, hp514, c515, c516, c517, r518, r519⟩ := hb508
   refine dt ?_
   refine wn hK470 ?_
   refine wp_cond_false rfl ?_
   refine wp_skip ?_
   refine hK469 _ _ ?_
   refine region_wl ?_
   iterate 3 refine dx ?_
   simp only [pq]
   refine di ?_
   refine df (fa_112_0 _ _) ?_
   refine dr _ (ex_load rfl (load1 (nagg_110 _) (St.cell S505 (i := 0) rfl ((engC_txn hs8).trans (congrArg some hp514))))) ?_
   simp only [pq]
   refine di ?_
   refine df (fa_141_0 _ _) ?_
   refine dr (.int .i64 t.start) (ex_load rfl (load1 (nagg_3 _) (St.fz S505 (by rw [← (noteX_len hn).2.2]; exact c515)))) ?_
   simp only [pq]
   refine dx ?_
   refine dr (.agg #[(nI s), (iI 0), (.int .i64 t.start), bF, Zn, (.slice a463 R.length c464), Zn, bF, Zn, Zn, Zn, bF, Zn, Zn, Zn]) (ex_build (bmap3 rfl rfl rfl) (by kernel_rfl)) ?_
   simp only [pq]
   have hM520 : EngM _ _ _ _ n (g.setTxn s (some nx)) _ := ⟨_, _, _, _, _, _, _, _, _, _, _, S505, hd506, ht507⟩
   refine doC rfl (fn2 (ent_79 _ _)) (reply_eng _ _ _ _ _ _ _ _ (⟨s, 0, t.start, false, [], R, [], nilP, nilP⟩ : Rep) hM520 ⟨_, _, _, _, _, _, _, _, _, rfl, Bs.nil _, (R462.mono le475), Bs.nil _, Sl.nil _ _ _, Bs.nil _, Bs.nil _, Sl.nil _ _ _, Bs.nil _, Bs.nil _⟩ hq) ?_
   rintro _ w521 ⟨rfl, F522, le523, hM524⟩
   refine ⟨_, rfl, ?_⟩
   obtain ⟨ad525, cd526, ac527, cc528, af529, cf530, aw531, cw532, ar533, cr534, pv535, S536, hd537, ht538⟩ := hM524
   refine wl_nil ?_
   (try simp only [Exit.then, Exit.inBlock, ↓reduceIte, Nat.reduceEqDiff])
   refine bE (res_ rfl) ?_
   have hM539 : EngM _ _ _ _ n ((g.setTxn s (some nx)).reply (⟨s, 0, t.start, false, [], R, [], nilP, nilP⟩ : Rep)) _ := ⟨_, _, _, _, _, _, _, _, _, _, _, S536, hd537, ht538⟩
   have he : g.work s t k r = ((g.setTxn s (some nx)).reply (⟨s, 0, t.start, false, [], R, [], nilP, nilP⟩ : Rep)) := by
    unfold Eng.work
    rw [if_neg (by omega), if_pos hk]
    unfold Eng.scan
    rw [hsc]; simp only; unfold Eng.note; rw [hn]
   rw [he]
   exact ⟨rfl, _, ((le461.trans le475).trans le523), (hM539.drop (.cons _ (List.Sublist.refl _)))⟩
 refine region_wl ?_
 refine eqlF ?_
 refine dy ?_
 refine wl_nil (hK21 _ _ ?_)
 refine wp_cond_false rfl ?_
 refine sk fun K540 hK540 => ?_
 refine eqlF ?_
 refine dy ?_
 simp only [pq]
 refine wn hK540 ?_
 refine wp_cond_false rfl ?_
 refine sk fun K541 hK541 => ?_
 refine eqlT ?_
 refine dy ?_
 refine wn hK541 ?_
 refine wp_cond_true rfl ?_
 refine region_wl ?_
 iterate 3 refine dx ?_
 simp only [pq]
 have S542 := St.perm S17 (List.perm_middle (l₁ := [_]))
 have hM543 : EngM _ _ _ _ n g _ := ⟨_, _, _, _, _, _, _, _, _, _, _, S542, hd, ht⟩
 refine doC rfl (fn3 (ent_92 _ _)) (commit_eng _ _ _ _ _ _ _ s hs8 t hM543 hT hg hm hts hq) ?_
 rintro _ w544 ⟨rfl, F545, le546, hM547⟩
 refine ⟨_, rfl, ?_⟩
 obtain ⟨ad548, cd549, ac550, cc551, af552, cf553, aw554, cw555, ar556, cr557, pv558, S559, hd560, ht561⟩ := hM547
 refine wl_nil ?_
 (try simp only [Exit.then, Exit.inBlock, ↓reduceIte, Nat.reduceEqDiff])
 refine bE (res_ rfl) ?_
 have hM562 : EngM _ _ _ _ n (g.commit s t) _ := ⟨_, _, _, _, _, _, _, _, _, _, _, S559, hd560, ht561⟩
 have he : g.work s t k r = (g.commit s t) := by
  unfold Eng.work
  rw [if_neg (by omega), if_neg (by omega), if_pos hk]
 rw [he]
 exact ⟨rfl, _, le546, (hM562.drop (.cons _ (List.Sublist.refl _)))⟩
 have hk45 : (k = 4 ∧ (k == 5) = false) ∨ (k = 5 ∧ (k == 5) = true) := by rcases hk with rfl | rfl <;> simp
 have hwo : WrOk (⟨r.name, r.key, k == 5, r.value⟩ : Wr) := wr_of ok hk45
 refine region_wl ?_
 refine eqlF ?_
 refine dy ?_
 refine wl_nil (hK21 _ _ ?_)
 refine wp_cond_false rfl ?_
 refine sk fun K563 hK563 => ?_
 refine eqlF ?_
 refine dy ?_
 simp only [pq]
 refine wn hK563 ?_
 refine wp_cond_false rfl ?_
 refine sk fun K564 hK564 => ?_
 refine eqlF ?_
 refine dy ?_
 refine wn hK564 ?_
 refine wp_cond_false rfl ?_
 refine sk fun K565 hK565 => ?_
 refine dR S17 0 Tryz.underlying27 (size_27) ?_
 simp only [pq]
 refine stGives S17 rfl (fn1 (ent_93 _ _)) (wireWrite_yes _ _ _ k r (b := k == 5) (S17).sat (hh.below S17.gr.below) ⟨_, _, _, _, rfl, q0, q1, q2, q3⟩ ok hk45) ?_
 intro v571 w566 F568 S567 le569 R570
 obtain ⟨_, rfl, R581⟩ := R570
 obtain ⟨xa572, xc573, xa574, xc575, xa576, xc577, rfl, r578, r579, r580⟩ := R581
 refine dx ?_
 iterate 2 refine de ?_
 simp only [pq]
 refine sA S567 (zero_39 _) fun n582 w583 S584 => ?_
 refine sW 0 S584 (size_39) fun w585 S586 => ?_
 refine dy ?_
 simp only [pq]
 refine wn hK565 ?_
 refine wp_seq_k (fun K587 hK587 => ?_)
 cases hwx : writeX t (⟨r.name, r.key, k == 5, r.value⟩ : Wr) with
 | none =>
  refine region_late F568 [0, 1, 2, 3, 4, 5, 6, 7, 8, 9, 11] 10 12 [13] [(7, .made (fun F' u => TxE F' u nilX 11)), (9, .made (fun F' u => TxV F' u nilX)), (11, .rel (NewAt w585 [(iI 0), Zn, Zn] 141) (NewAt.stable _ _ _)), (10, .is (iI 11))] (by kernel_rfl) (by kernel_rfl) rfl rfl rfl rfl ?_
  simp only [opsAt, List.getElem?_cons_succ, List.getElem?_cons_zero, List.map_cons, List.map_nil]
  refine gp_pure rfl rfl (pP n (6 + s * 2)) (fun w588 C588 => pureAt_of (ex_move _)) ?_
  simp only [pq]
  refine gp_pure rfl rfl (pP n (6 + s * 2)) (fun w588 C588 => pureAt_of (ex_nil rfl)) ?_
  simp only [pq]
  refine gp_pure rfl rfl (pP n (6 + s * 2)) (fun w588 C588 => pureAt_of (ef (fa_112_0 _ _))) ?_
  simp only [pq]
  refine gp_pure rfl rfl (pP b 0) (fun w588 C588 => pureAt_of (ex_load rfl (load1 (nagg_110 _) (St.cell (St.tells S586 C588) (i := 2) rfl ((engC_txn hs8).trans (congrArg some hp)))))) ?_
  simp only [pq]
  refine gp_pure rfl rfl (pP b 0) (fun w588 C588 => pureAt_of (ex_nil rfl)) ?_
  simp only [pq]
  refine gp_pure rfl rfl (.agg #[(.int .i64 t.start), (.slice x0 t.reads.length y0), (.slice x1 t.writes.length y1)]) (fun w588 C588 => pureAt_of (ex_load rfl (loadN (cs := [(.int .i64 t.start), (.slice x0 t.reads.length y0), (.slice x1 t.writes.length y1)]) Tryz.underlying141 rfl (size_141) (range3 (St.fz (St.tells S586 C588) (Le.cell le569 b0)) (St.fz (St.tells S586 C588) (Le.cell le569 b1)) (St.fz (St.tells S586 C588) (Le.cell le569 b2)))))) ?_
  simp only [pq]
  refine gp_pure rfl rfl (.agg #[(.slice xa572 r.name.length xc573), (.slice xa574 r.key.length xc575), (.bool (k == 5)), (.slice xa576 r.value.length xc577)]) (fun w588 C588 => pureAt_of (ex_load rfl (loadN (cs := [(.slice xa572 r.name.length xc573), (.slice xa574 r.key.length xc575), (.bool (k == 5)), (.slice xa576 r.value.length xc577)]) Tryz.underlying39 rfl (size_39) (St.range (St.tells S586 C588) (i := 0) rfl 0 [(.slice xa572 r.name.length xc573), (.slice xa574 r.key.length xc575), (.bool (k == 5)), (.slice xa576 r.value.length xc577)] (sub_range 0 rfl))))) ?_
  simp only [pq]
  refine gp_rel rfl rfl (fun w588 C588 hF => does_call (ex_fn (vs := #[(.agg #[(.int .i64 t.start), (.slice x0 t.reads.length y0), (.slice x1 t.writes.length y1)]), (.agg #[(.slice xa572 r.name.length xc573), (.slice xa574 r.key.length xc575), (.bool (k == 5)), (.slice xa576 r.value.length xc577)])]) (map2 rfl rfl) rfl (ent_94 _ _)) (call_made S586.sat C588 (txnWriteNo_spec _ _ _ _ t (⟨r.name, r.key, k == 5, r.value⟩ : Wr) ((St.tells S586 C588)).sat ⟨_, _, _, _, rfl, (r0.mono le569), (r1.mono le569)⟩ ⟨_, _, _, _, _, _, rfl, r578, r579, r580⟩ htok hwo hwx))) (fun v589 => ?_)
  simp only [pq]
  refine gp_pure rfl rfl v589 (fun w588 C588 => pureAt_of (ex_move _)) ?_
  simp only [pq]
  refine gp_rel rfl rfl (fun w588 C588 hF_ => ?_) (fun v594 => ?_)
  obtain ⟨F590, g591, _, rfl, hx593⟩ := hF_.get 7 (by kernel_rfl) rfl rfl
  exact does_val (ex_extract rfl rfl) ⟨F590, g591, hx593⟩ (Below.refl _ _)
  simp only [pq]
  refine gp_rel rfl rfl (fun w588 C588 _ => does_alloc (cs := [(iI 0), Zn, Zn]) (zero_141 _) rfl C588) (fun v595 => ?_)
  simp only [pq]
  refine gp_nil (late_ rfl rfl (v := (iI 11)) (fun w588 C588 hF_ => ?_) ?_)
  obtain ⟨F596, g597, _, rfl, hx598⟩ := hF_.get 7 (by kernel_rfl) rfl rfl
  exact fun w1 => pureAt_of (ex_extract rfl rfl)
  intro w599 hC601 hF602
  obtain ⟨n603, rfl, hn604, hb605⟩ := hF602.getR 11 rfl rfl
  have hnbn603 : ∀ u ∈ [(.int .i64 0), (.slice none 0 0), (.slice none 0 0)], ∀ x, u ≠ bv x := by intro u hu x; simp only [List.mem_cons, List.not_mem_nil, or_false] at hu; rcases hu with rfl | rfl | rfl <;> (unfold bv; simp)
  obtain ⟨F606, g607, R608⟩ := hF602.get 9 rfl rfl
  have g609 := g607.dropF S586.sat hn604
  have R610 := TxV.dropT g607.sat hb605 hnbn603 R608
  have S600 := St.addBlk (cs := [(.int .i64 0), (.slice none 0 0), (.slice none 0 0)]) S586 g609 hn604 (dropF_at _ _) hb605
  have le612 : Le _ _ := g609.le S586.sat
  have R613 := R610
  generalize (dropF F606 n603) = F611 at *
  obtain ⟨xa614, xc615, xa616, xc617, rfl, r618, r619⟩ := R613
  clear hF602
  refine stLate (i := 0) (v := (.agg #[(.int .i64 nilX.start), (.slice xa614 nilX.reads.length xc615), (.slice xa616 nilX.writes.length xc617)])) S600 rfl rfl rfl (size_141) (allc3 rfl rfl rfl) (Nat.le_of_ble_eq_true rfl) (fun w620 S621 => ?_)
  refine dy ?_
  simp only [pq]
  refine wl_nil (hK587 _ _ ?_)
  refine wp_seq_k (fun K622 hK622 => ?_)
  refine sk fun K623 hK623 => ?_
  refine dx ?_
  refine dr bF (ex_eql (b := false) rfl rfl (by decide)) ?_
  refine wn hK623 ?_
  refine wp_cond_false rfl ?_
  refine wp_skip ?_
  refine hK622 _ _ ?_
  refine region_wl ?_
  iterate 3 refine dx ?_
  simp only [pq]
  have S624 := St.perm S621 (List.perm_middle (l₁ := [_, _, _]))
  have hM625 : EngM _ _ _ _ n g _ := ⟨_, _, _, _, _, _, _, _, _, _, _, S624, (hd.mono (le569.trans le612)), (TxB_mono ht (le569.trans le612))⟩
  refine doC rfl (fn3 (ent_76 _ _)) (told_eng _ _ _ _ _ _ _ s 11 hM625 hq) ?_
  rintro _ w626 ⟨rfl, F627, le628, hM629⟩
  refine ⟨_, rfl, ?_⟩
  obtain ⟨ad630, cd631, ac632, cc633, af634, cf635, aw636, cw637, ar638, cr639, pv640, S641, hd642, ht643⟩ := hM629
  refine wl_nil ?_
  (try simp only [Exit.then, Exit.inBlock, ↓reduceIte, Nat.reduceEqDiff])
  refine bE (res_ rfl) ?_
  have hM644 : EngM _ _ _ _ n (g.reply (repC s 11)) _ := ⟨_, _, _, _, _, _, _, _, _, _, _, S641, hd642, ht643⟩
  have he : g.work s t k r = (g.reply (repC s 11)) := by
   unfold Eng.work
   rw [if_neg (by omega), if_neg (by omega), if_neg (by omega)]
   unfold Eng.put
   rw [hwx]
  rw [he]
  exact ⟨rfl, _, ((le569.trans le612).trans le628), (hM644.drop (.cons _ (.cons _ (.cons _ (List.Sublist.refl _)))))⟩
 | some nx =>
  refine region_late F568 [0, 1, 2, 3, 4, 5, 6, 7, 8, 9, 11] 10 12 [13] [(7, .made (fun F' u => TxE F' u nx 0)), (9, .made (fun F' u => TxV F' u nx)), (11, .rel (NewAt w585 [(iI 0), Zn, Zn] 141) (NewAt.stable _ _ _)), (10, .is (iI 0))] (by kernel_rfl) (by kernel_rfl) rfl rfl rfl rfl ?_
  simp only [opsAt, List.getElem?_cons_succ, List.getElem?_cons_zero, List.map_cons, List.map_nil]
  refine gp_pure rfl rfl (pP n (6 + s * 2)) (fun w645 C645 => pureAt_of (ex_move _)) ?_
  simp only [pq]
  refine gp_pure rfl rfl (pP n (6 + s * 2)) (fun w645 C645 => pureAt_of (ex_nil rfl)) ?_
  simp only [pq]
  refine gp_pure rfl rfl (pP n (6 + s * 2)) (fun w645 C645 => pureAt_of (ef (fa_112_0 _ _))) ?_
  simp only [pq]
  refine gp_pure rfl rfl (pP b 0) (fun w645 C645 => pureAt_of (ex_load rfl (load1 (nagg_110 _) (St.cell (St.tells S586 C645) (i := 2) rfl ((engC_txn hs8).trans (congrArg some hp)))))) ?_
  simp only [pq]
  refine gp_pure rfl rfl (pP b 0) (fun w645 C645 => pureAt_of (ex_nil rfl)) ?_
  simp only [pq]
  refine gp_pure rfl rfl (.agg #[(.int .i64 t.start), (.slice x0 t.reads.length y0), (.slice x1 t.writes.length y1)]) (fun w645 C645 => pureAt_of (ex_load rfl (loadN (cs := [(.int .i64 t.start), (.slice x0 t.reads.length y0), (.slice x1 t.writes.length y1)]) Tryz.underlying141 rfl (size_141) (range3 (St.fz (St.tells S586 C645) (Le.cell le569 b0)) (St.fz (St.tells S586 C645) (Le.cell le569 b1)) (St.fz (St.tells S586 C645) (Le.cell le569 b2)))))) ?_
  simp only [pq]
  refine gp_pure rfl rfl (.agg #[(.slice xa572 r.name.length xc573), (.slice xa574 r.key.length xc575), (.bool (k == 5)), (.slice xa576 r.value.length xc577)]) (fun w645 C645 => pureAt_of (ex_load rfl (loadN (cs := [(.slice xa572 r.name.length xc573), (.slice xa574 r.key.length xc575), (.bool (k == 5)), (.slice xa576 r.value.length xc577)]) Tryz.underlying39 rfl (size_39) (St.range (St.tells S586 C645) (i := 0) rfl 0 [(.slice xa572 r.name.length xc573), (.slice xa574 r.key.length xc575), (.bool (k == 5)), (.slice xa576 r.value.length xc577)] (sub_range 0 rfl))))) ?_
  simp only [pq]
  refine gp_rel rfl rfl (fun w645 C645 hF => does_call (ex_fn (vs := #[(.agg #[(.int .i64 t.start), (.slice x0 t.reads.length y0), (.slice x1 t.writes.length y1)]), (.agg #[(.slice xa572 r.name.length xc573), (.slice xa574 r.key.length xc575), (.bool (k == 5)), (.slice xa576 r.value.length xc577)])]) (map2 rfl rfl) rfl (ent_94 _ _)) (call_made S586.sat C645 (txnWriteIs_spec _ _ _ _ t (⟨r.name, r.key, k == 5, r.value⟩ : Wr) nx ((St.tells S586 C645)).sat ⟨_, _, _, _, rfl, (r0.mono le569), (r1.mono le569)⟩ ⟨_, _, _, _, _, _, rfl, r578, r579, r580⟩ htok hwo hwx))) (fun v646 => ?_)
  simp only [pq]
  refine gp_pure rfl rfl v646 (fun w645 C645 => pureAt_of (ex_move _)) ?_
  simp only [pq]
  refine gp_rel rfl rfl (fun w645 C645 hF_ => ?_) (fun v651 => ?_)
  obtain ⟨F647, g648, _, rfl, hx650⟩ := hF_.get 7 (by kernel_rfl) rfl rfl
  exact does_val (ex_extract rfl rfl) ⟨F647, g648, hx650⟩ (Below.refl _ _)
  simp only [pq]
  refine gp_rel rfl rfl (fun w645 C645 _ => does_alloc (cs := [(iI 0), Zn, Zn]) (zero_141 _) rfl C645) (fun v652 => ?_)
  simp only [pq]
  refine gp_nil (late_ rfl rfl (v := (iI 0)) (fun w645 C645 hF_ => ?_) ?_)
  obtain ⟨F653, g654, _, rfl, hx655⟩ := hF_.get 7 (by kernel_rfl) rfl rfl
  exact fun w1 => pureAt_of (ex_extract rfl rfl)
  intro w656 hC658 hF659
  obtain ⟨n660, rfl, hn661, hb662⟩ := hF659.getR 11 rfl rfl
  have hnbn660 : ∀ u ∈ [(.int .i64 0), (.slice none 0 0), (.slice none 0 0)], ∀ x, u ≠ bv x := by intro u hu x; simp only [List.mem_cons, List.not_mem_nil, or_false] at hu; rcases hu with rfl | rfl | rfl <;> (unfold bv; simp)
  obtain ⟨F663, g664, R665⟩ := hF659.get 9 rfl rfl
  have g666 := g664.dropF S586.sat hn661
  have R667 := TxV.dropT g664.sat hb662 hnbn660 R665
  have S657 := St.addBlk (cs := [(.int .i64 0), (.slice none 0 0), (.slice none 0 0)]) S586 g666 hn661 (dropF_at _ _) hb662
  have le669 : Le _ _ := g666.le S586.sat
  have R670 := R667
  generalize (dropF F663 n660) = F668 at *
  obtain ⟨xa671, xc672, xa673, xc674, rfl, r675, r676⟩ := R670
  clear hF659
  refine stLate (i := 0) (v := (.agg #[(.int .i64 nx.start), (.slice xa671 nx.reads.length xc672), (.slice xa673 nx.writes.length xc674)])) S657 rfl rfl rfl (size_141) (allc3 rfl rfl rfl) (Nat.le_of_ble_eq_true rfl) (fun w677 S678 => ?_)
  have S678 : St w0 F0 w677 F668 (⟨n660, [(.int .i64 nx.start), (.slice xa671 nx.reads.length xc672), (.slice xa673 nx.writes.length xc674)], 141⟩ :: ⟨n582, [(.slice xa572 r.name.length xc573), (.slice xa574 r.key.length xc575), (.bool (k == 5)), (.slice xa576 r.value.length xc577)], 39⟩ :: ⟨n5, [(nI k), (.slice a0 r.name.length c0), (.slice a1 r.key.length c1), (.slice a2 r.last.length c2), (.slice a3 r.value.length c3)], 27⟩ :: ⟨n, engC g.up (.slice ad g.tape.data.length cd) g.tape.synced (.slice ac g.commits.length cc) (.slice af g.forests.length cf) g.synced pv g.waits (.slice aw g.waiting.length cw) (.slice ar g.replies.length cr), 115⟩ :: L) (engR w0.heap.size (.slice ac g.commits.length cc) g.commits (.slice af g.forests.length cf) g.forests (.slice aw g.waiting.length cw) g.waiting (.slice ar g.replies.length cr) g.replies) := S678
  refine dy ?_
  simp only [pq]
  refine wl_nil (hK587 _ _ ?_)
  refine wp_seq_k (fun K679 hK679 => ?_)
  refine sk fun K680 hK680 => ?_
  refine dx ?_
  refine dr bT (ex_eql (b := true) rfl rfl (by decide)) ?_
  refine wn hK680 ?_
  refine wp_cond_true rfl ?_
  refine region_wl ?_
  refine dx ?_
  refine di ?_
  refine df (fa_112_0 _ _) ?_
  simp only [pq]
  refine stStore (i := 3) (v := (pP n660 0)) S678 rfl rfl rfl rfl (size_110) (allc1 rfl) (by rw [engC_len]; simp only [Value.cells]; exact Nat.le_of_lt_succ (by simp only [List.size_toArray, List.length_cons, List.length_nil]; omega)) (fun w681 S682 => ?_)
  simp only [pq]
  have S682 : St w0 F0 w681 F668 (⟨n660, [(.int .i64 nx.start), (.slice xa671 nx.reads.length xc672), (.slice xa673 nx.writes.length xc674)], 141⟩ :: ⟨n582, [(.slice xa572 r.name.length xc573), (.slice xa574 r.key.length xc575), (.bool (k == 5)), (.slice xa576 r.value.length xc577)], 39⟩ :: ⟨n5, [(nI k), (.slice a0 r.name.length c0), (.slice a1 r.key.length c1), (.slice a2 r.last.length c2), (.slice a3 r.value.length c3)], 27⟩ :: ⟨n, splice (engC g.up (.slice ad g.tape.data.length cd) g.tape.synced (.slice ac g.commits.length cc) (.slice af g.forests.length cf) g.synced pv g.waits (.slice aw g.waiting.length cw) (.slice ar g.replies.length cr)) (6 + s * 2) [(pP n660 0)], 115⟩ :: L) (engR w0.heap.size (.slice ac g.commits.length cc) g.commits (.slice af g.forests.length cf) g.forests (.slice aw g.waiting.length cw) g.waiting (.slice ar g.replies.length cr) g.replies) := S682
  rw [setTxn_c hs8] at S682
  refine wl_nil (hK679 _ _ ?_)
  obtain ⟨S683, le684, hc685⟩ := St.freezeBlk S682 (i := 0) rfl
  generalize addF F668 w681 n660 = F686 at *
  have ht687 := TxB_upd (x := .pointer (some ⟨n660, 0, none⟩)) (t := some nx) (TxB_mono ht ((le569.trans le669).trans le684)) ⟨_, _, _, _, _, rfl, hc685 0 _ rfl, hc685 1 _ rfl, hc685 2 _ rfl, (r675.mono le684), (r676.mono le684)⟩ s
  refine region_wl ?_
  iterate 3 refine dx ?_
  simp only [pq]
  have S688 := St.perm S683 (List.perm_middle (l₁ := [_, _]))
  have hM689 : EngM _ _ _ _ n (g.setTxn s (some nx)) _ := ⟨_, _, _, _, _, _, _, _, _, _, _, S688, (hd.mono ((le569.trans le669).trans le684)), ht687⟩
  refine doC rfl (fn3 (ent_76 _ _)) (told_eng _ _ _ _ _ _ _ s 0 hM689 hq) ?_
  rintro _ w690 ⟨rfl, F691, le692, hM693⟩
  refine ⟨_, rfl, ?_⟩
  obtain ⟨ad694, cd695, ac696, cc697, af698, cf699, aw700, cw701, ar702, cr703, pv704, S705, hd706, ht707⟩ := hM693
  refine wl_nil ?_
  (try simp only [Exit.then, Exit.inBlock, ↓reduceIte, Nat.reduceEqDiff])
  refine bE (res_ rfl) ?_
  have hM708 : EngM _ _ _ _ n ((g.setTxn s (some nx)).reply (repC s 0)) _ := ⟨_, _, _, _, _, _, _, _, _, _, _, S705, hd706, ht707⟩
  have he : g.work s t k r = ((g.setTxn s (some nx)).reply (repC s 0)) := by
   unfold Eng.work
   rw [if_neg (by omega), if_neg (by omega), if_neg (by omega)]
   unfold Eng.put
   rw [hwx]
  rw [he]
  exact ⟨rfl, _, (((le569.trans le669).trans le684).trans le692), (hM708.drop (.cons _ (.cons _ (List.Sublist.refl _))))⟩
theorem kept_spec (w : World) (n : Nat) (t : Int) (h1 : n ≤ 1000000) (h2 : 0 ≤ t) (h3 : t ≤ 1048576) {b : Bool} (h : Eng.keptB n t = b) : Calls Tryz.prog 80 #[.int .i64 ((n : Nat) : Int), .int .i64 t] w (Tells w (.bool b)) := by
 subst h
 by_cases hk : 0 ≤ t ∧ t ≤ n ∧ (n : Int) - t < 6
 ·have e : Eng.keptB n t = true := by unfold Eng.keptB; simp [hk]
  rw [e]
  exact (kept_yes n t w hk.1 hk.2.1 hk.2.2 (by omega)).mono fun e w' ⟨h, h'⟩ => by subst h'; exact ⟨h, Below.refl _ _⟩
 ·have e : Eng.keptB n t = false := by
   unfold Eng.keptB
   rw [← Bool.not_eq_true]
   simp only [Bool.and_eq_true, decide_eq_true_eq]
   intro h; exact hk ⟨h.1.1, h.1.2, h.2⟩
  rw [e]
  exact (kept_no n t w (by omega) (by omega) (by omega) (by omega) (by omega)).mono fun e w' ⟨h, h'⟩ => by subst h'; exact ⟨h, Below.refl _ _⟩
/-- The walk of prove, as it is asked for. -/
def ProveS : Prop := ∀ (w0 : World) (F0 : Fz) (w : World) (F : Fz) (n : Nat) (g : Eng) (L : List Blk) {m : Nat} (s : Nat) (u : Value) (r : Rq), EngM w0 F0 w F n g L → Tabs w0 → EngOk m g → ReqV F u (8 : Nat) r.name r.key r.last r.value → RqOk 8 r → g.replies.length ≤ 100000 →
    Calls Tryz.prog 78 #[.pointer (some ⟨n, 0, none⟩), .int .i64 ((s : Nat) : Int), u] w (EngP w0 F0 F n (g.prove s r) L)
theorem ask_eng (w0 : World) (F0 : Fz) (w : World) (F : Fz) (n : Nat) (g : Eng) (L : List Blk) {m : Nat} (s : Nat) (hs8 : s < 8) (u : Value) (b : By) (hM : EngM w0 F0 w F n g L) (hh : Has w0) (hT : Tabs w0) (hg : EngOk m g) (hm : m ≤ 149) (hu : Bs F u b) (hP : wdE b = 0 → (wdR b).1 = 8 → ProveS) (hq : g.replies.length ≤ 100000) :
    Calls Tryz.prog 68 #[.pointer (some ⟨n, 0, none⟩), .int .i64 ((s : Nat) : Int), u] w (EngP w0 F0 F n (g.ask s b) L) := by
 obtain ⟨da, dc, rfl, _⟩ := hu.shape
 have hd0 := hu
 obtain ⟨ad, cd, ac, cc, af, cf, aw, cw, ar, cr, pv, S, hd, ht⟩ := hM
 obtain ⟨⟨k, r⟩, hkr⟩ : ∃ p : Nat × Rq, wdR b = p := ⟨_, rfl⟩
 have hsy := hg.sync
 have hmy := hg.many
 go_enter Tryz.func68, Tryz.ntmps68
 refine wp_seq_k (fun K4 hK4 => ?_)
 refine sk fun K5 hK5 => ?_
 refine dx ?_
 refine di ?_
 refine df (fa_115_0 _ _) ?_
 simp only [pq]
 refine dl (nagg_4 _) S 0 ?_
 refine dr (.bool (!g.up)) (ex_not rfl rfl) ?_
 refine wn hK5 ?_
 refine wp_cond_split rfl (fun hc6 => ?_) (fun hc6 => ?_)
 refine sk fun K7 hK7 => ?_
 iterate 2 refine dx ?_
 simp only [pq]
 have hM8 : EngM _ _ _ _ n g _ := ⟨_, _, _, _, _, _, _, _, _, _, _, S, hd, ht⟩
 refine doC rfl (fn3 (ent_76 _ _)) (told_eng _ _ _ _ _ _ _ s 13 hM8 hq) ?_
 rintro _ w9 ⟨rfl, F10, le11, hM12⟩
 refine ⟨_, rfl, ?_⟩
 obtain ⟨ad13, cd14, ac15, cc16, af17, cf18, aw19, cw20, ar21, cr22, pv23, S24, hd25, ht26⟩ := hM12
 refine wn hK7 ?_
 refine wp_ret ?_
 (try simp only [Exit.then, Exit.inBlock, ↓reduceIte, Nat.reduceEqDiff])
 refine bR (res_ rfl) ?_
 have hM27 : EngM _ _ _ _ n (g.reply (repC s 13)) _ := ⟨_, _, _, _, _, _, _, _, _, _, _, S24, hd25, ht26⟩
 have he : g.ask s b = (g.reply (repC s 13)) := by
  unfold Eng.ask
  rw [if_neg (by simpa using hc6)]
 rw [he]
 exact ⟨rfl, _, le11, hM27⟩
 refine wp_skip ?_
 refine hK4 _ _ ?_
 refine sk fun K28 hK28 => ?_
 refine dx ?_
 refine stGives S rfl (fn1 (ent_77 _ _)) (wireDecIs_spec _ _ _ b (S).sat (hh.below S.gr.below) hd0 rfl hkr) ?_
 intro v34 w29 F31 S30 le32 R33
 obtain ⟨x35, rfl, R36⟩ := R33
 obtain ⟨a37, a38, a39, a40, rfl, r41, r42, r43, r44⟩ := R36
 obtain ⟨a45, c46, rfl, _⟩ := r41.shape
 obtain ⟨a47, c48, rfl, _⟩ := r42.shape
 obtain ⟨a49, c50, rfl, _⟩ := r43.shape
 obtain ⟨a51, c52, rfl, _⟩ := r44.shape
 simp only [pq]
 refine dx ?_
 iterate 2 refine de ?_
 simp only [pq]
 refine sA S30 (zero_27 _) fun n53 w54 S55 => ?_
 refine sW 0 S55 (size_27) fun w56 S57 => ?_
 refine dy ?_
 simp only [pq]
 refine wn hK28 ?_
 refine wp_seq_k (fun K58 hK58 => ?_)
 refine sk fun K59 hK59 => ?_
 refine dx ?_
 simp only [pq]
 by_cases hc23 : (wdE b) = (0 : Int)
 refine neqF ?_
 refine wn hK59 ?_
 refine wp_cond_false rfl ?_
 refine wp_skip ?_
 refine hK58 _ _ ?_
 refine wp_seq_k (fun K60 hK60 => ?_)
 have ok : RqOk k r := by have := (wd_fixed hc23).1; rwa [hkr] at this
 have hkk := ok.kind
 refine region_wl ?_
 iterate 2 refine dx ?_
 refine di ?_
 simp only [pq]
 refine df (fa_115_5 _ _) ?_
 refine dr (pP n (6 + s * 2)) (ex_atS (i := s) Tryz.underlying113 (sizeof_112 _) rfl rfl (hs8)) ?_
 refine dy ?_
 simp only [pq]
 refine wl_nil (hK60 _ _ ?_)
 refine wp_block ?_
 refine sk fun K61 hK61 => ?_
 refine df (fa_27_0 _ _) ?_
 refine dl (nagg_3 _) S57 0 ?_
 simp only [pq]
 by_cases hc41 : k = 8
 refine eqlT ?_
 refine dy ?_
 refine wn hK61 ?_
 refine wp_cond_true rfl ?_
 refine region_wl ?_
 iterate 2 refine dx ?_
 refine dR S57 0 Tryz.underlying27 (size_27) ?_
 simp only [pq]
 have S62 := St.perm S57 (List.perm_middle (l₁ := [_]))
 have hM63 : EngM _ _ _ _ n g _ := ⟨_, _, _, _, _, _, _, _, _, _, _, S62, (hd.mono le32), (TxB_mono ht le32)⟩
 refine doC rfl (ex_fn (vs := #[(pP n 0), (nI s), (.agg #[(nI k), (.slice a45 r.name.length c46), (.slice a47 r.key.length c48), (.slice a49 r.last.length c50), (.slice a51 r.value.length c52)])]) (map3 rfl rfl rfl) rfl (ent_78 _ _)) ((hP hc23 (by rw [hkr]; exact hc41)) _ _ _ _ _ _ _ s _ r hM63 hT hg ⟨_, _, _, _, (by rw [hc41]), r41, r42, r43, r44⟩ (hc41 ▸ ok) hq) ?_
 rintro _ w64 ⟨rfl, F65, le66, hM67⟩
 refine ⟨_, rfl, ?_⟩
 obtain ⟨ad68, cd69, ac70, cc71, af72, cf73, aw74, cw75, ar76, cr77, pv78, S79, hd80, ht81⟩ := hM67
 refine wl_nil ?_
 (try simp only [Exit.then, Exit.inBlock, ↓reduceIte, Nat.reduceEqDiff])
 refine bE (res_ rfl) ?_
 have hM82 : EngM _ _ _ _ n (g.prove s r) _ := ⟨_, _, _, _, _, _, _, _, _, _, _, S79, hd80, ht81⟩
 have he : g.ask s b = (g.prove s r) := by
  unfold Eng.ask
  rw [if_pos (by simpa using hc6)]
  rw [if_pos hc23, hkr]
  simp only
  unfold Eng.req
  rw [if_pos hc41]
 rw [he]
 exact ⟨rfl, _, (le32.trans le66), (hM82.drop (.cons _ (List.Sublist.refl _)))⟩
 refine eqlF ?_
 refine dy ?_
 refine wn hK61 ?_
 refine wp_cond_false rfl ?_
 refine wp_seq_k (fun K83 hK83 => ?_)
 cases hws : g.waits s with
 | true =>
  refine region_gw F31 13 [] (by kernel_rfl) (by kernel_rfl) ?_
  simp only [List.take_succ_cons, List.take_zero]
  refine gm ?_
  simp only [pq]
  refine gi ?_
  refine gf (fa_112_1 _ _) ?_
  refine gv _ (fun _ C84 => ex_load rfl (load1 (nagg_4 _) (St.cell (St.tells S57 C84) (i := 1) rfl ((engC_waits hs8).trans (congrArg some (congrArg Value.bool hws)))))) ?_
  simp only [pq]
  refine gm ?_
  simp only [pq]
  refine gw_skip (wanted_no rfl rfl rfl (c := true) rfl (by decide)) ?_
  simp only [pq]
  refine gw_skip (wanted_no rfl rfl rfl (c := true) rfl (by decide)) ?_
  simp only [pq]
  refine gw_skip (wanted_no rfl rfl rfl (c := true) rfl (by decide)) ?_
  simp only [pq]
  refine gw_skip (wanted_no rfl rfl rfl (c := true) rfl (by decide)) ?_
  simp only [pq]
  refine gw_skip (wanted_no rfl rfl rfl (c := true) rfl (by decide)) ?_
  simp only [pq]
  refine gw_skip (wanted_no rfl rfl rfl (c := true) rfl (by decide)) ?_
  simp only [pq]
  refine gw_skip (wanted_no rfl rfl rfl (c := true) rfl (by decide)) ?_
  simp only [pq]
  refine gw_skip (wanted_no rfl rfl rfl (c := true) rfl (by decide)) ?_
  refine gw_nil ?_
  intro w85 hC87 hF88
  clear hF88
  have S86 := St.tells S57 hC87
  simp only [List.drop_succ_cons, List.drop_zero]
  refine nO ?_
  simp only [pq]
  refine dp ?_
  refine dy ?_
  refine wl_nil (hK83 _ _ ?_)
  refine wp_cond_true rfl ?_
  refine region_wl ?_
  iterate 2 refine dx ?_
  simp only [pq]
  have S89 := St.perm S86 (List.perm_middle (l₁ := [_]))
  have hM90 : EngM _ _ _ _ n g _ := ⟨_, _, _, _, _, _, _, _, _, _, _, S89, (hd.mono le32), (TxB_mono ht le32)⟩
  refine doC rfl (fn3 (ent_76 _ _)) (told_eng _ _ _ _ _ _ _ s 6 hM90 hq) ?_
  rintro _ w91 ⟨rfl, F92, le93, hM94⟩
  refine ⟨_, rfl, ?_⟩
  obtain ⟨ad95, cd96, ac97, cc98, af99, cf100, aw101, cw102, ar103, cr104, pv105, S106, hd107, ht108⟩ := hM94
  refine wl_nil ?_
  (try simp only [Exit.then, Exit.inBlock, ↓reduceIte, Nat.reduceEqDiff])
  refine bE (res_ rfl) ?_
  have hM109 : EngM _ _ _ _ n (g.reply (repC s 6)) _ := ⟨_, _, _, _, _, _, _, _, _, _, _, S106, hd107, ht108⟩
  have he : g.ask s b = (g.reply (repC s 6)) := by
   unfold Eng.ask
   rw [if_pos (by simpa using hc6)]
   rw [if_pos hc23, hkr]
   simp only
   unfold Eng.req
   rw [if_neg hc41, if_pos hws]
  rw [he]
  exact ⟨rfl, _, (le32.trans le93), (hM109.drop (.cons _ (List.Sublist.refl _)))⟩
 | false =>
  cases hts : g.txn s with
  | none =>
   have hp : pv s = .pointer none := by have := ht s hs8; rw [hts] at this; exact this
   by_cases h1 : k = 1
   refine region_gw F31 13 [] (by kernel_rfl) (by kernel_rfl) ?_
   simp only [List.take_succ_cons, List.take_zero]
   refine gm ?_
   refine gi ?_
   refine gf (fa_112_1 _ _) ?_
   simp only [pq]
   refine gv _ (fun _ C110 => ex_load rfl (load1 (nagg_4 _) (St.cell (St.tells S57 C110) (i := 1) rfl ((engC_waits hs8).trans (congrArg some (congrArg Value.bool hws)))))) ?_
   iterate 2 refine gm ?_
   simp only [pq]
   refine gi ?_
   refine gf (fa_112_0 _ _) ?_
   refine gv _ (fun _ C110 => ex_load rfl (load1 (nagg_110 _) (St.cell (St.tells S57 C110) (i := 1) rfl ((engC_txn hs8).trans (congrArg some hp))))) ?_
   simp only [pq]
   refine gv bF (fun _ _ => ex_neqP (p := none) Tryz.underlying110 rfl rfl) ?_
   refine gf (fa_27_0 _ _) ?_
   refine gl nagg_3 S57 0 ?_
   simp only [pq]
   refine gv bT (fun _ _ => ex_eql (m := ((k : Nat) : Int)) (n := (1 : Int)) (b := true) rfl rfl (beq_iff_eq.2 (by omega))) ?_
   refine gw_nil ?_
   intro w111 hC113 hF114
   clear hF114
   have S112 := St.tells S57 hC113
   simp only [List.drop_succ_cons, List.drop_zero]
   refine dr bF (ex_eqlB Tryz.underlying4 rfl rfl (rfl)) ?_
   refine dp ?_
   refine dy ?_
   simp only [pq]
   refine wl_nil (hK83 _ _ ?_)
   refine wp_cond_false rfl ?_
   refine sk fun K115 hK115 => ?_
   refine df (fa_27_0 _ _) ?_
   refine dl (nagg_3 _) S112 0 ?_
   refine eqlT ?_
   simp only [pq]
   refine dy ?_
   refine wn hK115 ?_
   refine wp_cond_true rfl ?_
   refine sk fun K116 hK116 => ?_
   iterate 2 refine dx ?_
   refine di ?_
   simp only [pq]
   refine df (fa_115_4 _ _) ?_
   refine dl (nagg_3 _) S112 1 ?_
   refine dr (.agg #[(nI g.synced), Zn, Zn]) (ex_build (bmap1 rfl) (by kernel_rfl)) ?_
   simp only [pq]
   refine stNew S112 (v := fun n => .pointer (aA n 0)) rfl (ex_box (v := (.agg #[(nI g.synced), Zn, Zn])) rfl) (fun n117 w118 S119 => ?_)
   simp only [pq]
   have S119 : St w0 F0 w118 F31 (⟨n117, [(nI g.synced), Zn, Zn], 141⟩ :: ⟨n53, [(nI k), (.slice a45 r.name.length c46), (.slice a47 r.key.length c48), (.slice a49 r.last.length c50), (.slice a51 r.value.length c52)], 27⟩ :: ⟨n, engC g.up (.slice ad g.tape.data.length cd) g.tape.synced (.slice ac g.commits.length cc) (.slice af g.forests.length cf) g.synced pv g.waits (.slice aw g.waiting.length cw) (.slice ar g.replies.length cr), 115⟩ :: L) (engR w0.heap.size (.slice ac g.commits.length cc) g.commits (.slice af g.forests.length cf) g.forests (.slice aw g.waiting.length cw) g.waiting (.slice ar g.replies.length cr) g.replies) := S119
   refine di ?_
   refine df (fa_112_0 _ _) ?_
   refine stStore (i := 2) (v := (pP n117 0)) S119 rfl rfl rfl rfl (size_110) (allc1 rfl) (by rw [engC_len]; simp only [Value.cells]; exact Nat.le_of_lt_succ (by simp only [List.size_toArray, List.length_cons, List.length_nil]; omega)) (fun w120 S121 => ?_)
   simp only [pq]
   have S121 : St w0 F0 w120 F31 (⟨n117, [(nI g.synced), Zn, Zn], 141⟩ :: ⟨n53, [(nI k), (.slice a45 r.name.length c46), (.slice a47 r.key.length c48), (.slice a49 r.last.length c50), (.slice a51 r.value.length c52)], 27⟩ :: ⟨n, splice (engC g.up (.slice ad g.tape.data.length cd) g.tape.synced (.slice ac g.commits.length cc) (.slice af g.forests.length cf) g.synced pv g.waits (.slice aw g.waiting.length cw) (.slice ar g.replies.length cr)) (6 + s * 2) [(pP n117 0)], 115⟩ :: L) (engR w0.heap.size (.slice ac g.commits.length cc) g.commits (.slice af g.forests.length cf) g.forests (.slice aw g.waiting.length cw) g.waiting (.slice ar g.replies.length cr) g.replies) := S121
   rw [setTxn_c hs8] at S121
   refine wn hK116 ?_
   obtain ⟨S122, le123, hc124⟩ := St.freezeBlk S121 (i := 0) rfl
   generalize addF F31 w120 n117 = F125 at *
   have ht126 := TxB_upd (x := .pointer (some ⟨n117, 0, none⟩)) (t := some (⟨g.synced, [], []⟩ : Tx)) (TxB_mono ht (le32.trans le123)) ⟨_, _, _, _, _, rfl, hc124 0 _ rfl, hc124 1 _ rfl, hc124 2 _ rfl, Sl.nil _ _ _, Sl.nil _ _ _⟩ s
   refine region_wl ?_
   iterate 3 refine dx ?_
   simp only [pq]
   refine di ?_
   refine df (fa_115_4 _ _) ?_
   refine dl (nagg_3 _) S122 1 ?_
   simp only [pq]
   refine dr (.agg #[(nI s), (iI 0), (nI g.synced), bF, Zn, Zn, Zn, bF, Zn, Zn, Zn, bF, Zn, Zn, Zn]) (ex_build (bmap2 rfl rfl) (by kernel_rfl)) ?_
   simp only [pq]
   have S127 := St.perm S122 (List.perm_middle (l₁ := [_]))
   have hM128 : EngM _ _ _ _ n (g.setTxn s (some (⟨g.synced, [], []⟩ : Tx))) _ := ⟨_, _, _, _, _, _, _, _, _, _, _, S127, (hd.mono (le32.trans le123)), ht126⟩
   refine doC rfl (fn2 (ent_79 _ _)) (reply_eng _ _ _ _ _ _ _ _ _ hM128 (RpV.turn _ s ((g.synced : Nat) : Int)) hq) ?_
   rintro _ w129 ⟨rfl, F130, le131, hM132⟩
   refine ⟨_, rfl, ?_⟩
   obtain ⟨ad133, cd134, ac135, cc136, af137, cf138, aw139, cw140, ar141, cr142, pv143, S144, hd145, ht146⟩ := hM132
   refine wl_nil ?_
   (try simp only [Exit.then, Exit.inBlock, ↓reduceIte, Nat.reduceEqDiff])
   refine bE (res_ rfl) ?_
   have hM147 : EngM _ _ _ _ n ((g.setTxn s (some (⟨g.synced, [], []⟩ : Tx))).reply (repT s g.synced)) _ := ⟨_, _, _, _, _, _, _, _, _, _, _, S144, hd145, ht146⟩
   have he : g.ask s b = ((g.setTxn s (some (⟨g.synced, [], []⟩ : Tx))).reply (repT s g.synced)) := by
    unfold Eng.ask
    rw [if_pos (by simpa using hc6)]
    rw [if_pos hc23, hkr]
    simp only
    unfold Eng.req
    rw [if_neg hc41, if_neg (by rw [hws]; decide), hts]
    simp only
    rw [if_pos h1]
   rw [he]
   exact ⟨rfl, _, ((le32.trans le123).trans le131), (hM147.drop (.cons _ (List.Sublist.refl _)))⟩
   refine region_gw F31 13 [] (by kernel_rfl) (by kernel_rfl) ?_
   simp only [List.take_succ_cons, List.take_zero]
   refine gm ?_
   refine gi ?_
   refine gf (fa_112_1 _ _) ?_
   simp only [pq]
   refine gv _ (fun _ C148 => ex_load rfl (load1 (nagg_4 _) (St.cell (St.tells S57 C148) (i := 1) rfl ((engC_waits hs8).trans (congrArg some (congrArg Value.bool hws)))))) ?_
   iterate 2 refine gm ?_
   simp only [pq]
   refine gi ?_
   refine gf (fa_112_0 _ _) ?_
   refine gv _ (fun _ C148 => ex_load rfl (load1 (nagg_110 _) (St.cell (St.tells S57 C148) (i := 1) rfl ((engC_txn hs8).trans (congrArg some hp))))) ?_
   simp only [pq]
   refine gv bF (fun _ _ => ex_neqP (p := none) Tryz.underlying110 rfl rfl) ?_
   refine gf (fa_27_0 _ _) ?_
   refine gl nagg_3 S57 0 ?_
   simp only [pq]
   refine gv bF (fun _ _ => ex_eql (m := ((k : Nat) : Int)) (n := (1 : Int)) (b := false) rfl rfl (beq_eq_false_iff_ne.2 (by omega))) ?_
   refine gw_nil ?_
   intro w149 hC151 hF152
   clear hF152
   have S150 := St.tells S57 hC151
   simp only [List.drop_succ_cons, List.drop_zero]
   refine dr bT (ex_eqlB Tryz.underlying4 rfl rfl (rfl)) ?_
   refine dp ?_
   refine dy ?_
   simp only [pq]
   refine wl_nil (hK83 _ _ ?_)
   refine wp_cond_true rfl ?_
   refine region_wl ?_
   iterate 2 refine dx ?_
   simp only [pq]
   have S153 := St.perm S150 (List.perm_middle (l₁ := [_]))
   have hM154 : EngM _ _ _ _ n g _ := ⟨_, _, _, _, _, _, _, _, _, _, _, S153, (hd.mono le32), (TxB_mono ht le32)⟩
   refine doC rfl (fn3 (ent_76 _ _)) (told_eng _ _ _ _ _ _ _ s 6 hM154 hq) ?_
   rintro _ w155 ⟨rfl, F156, le157, hM158⟩
   refine ⟨_, rfl, ?_⟩
   obtain ⟨ad159, cd160, ac161, cc162, af163, cf164, aw165, cw166, ar167, cr168, pv169, S170, hd171, ht172⟩ := hM158
   refine wl_nil ?_
   (try simp only [Exit.then, Exit.inBlock, ↓reduceIte, Nat.reduceEqDiff])
   refine bE (res_ rfl) ?_
   have hM173 : EngM _ _ _ _ n (g.reply (repC s 6)) _ := ⟨_, _, _, _, _, _, _, _, _, _, _, S170, hd171, ht172⟩
   have he : g.ask s b = (g.reply (repC s 6)) := by
    unfold Eng.ask
    rw [if_pos (by simpa using hc6)]
    rw [if_pos hc23, hkr]
    simp only
    unfold Eng.req
    rw [if_neg hc41, if_neg (by rw [hws]; decide), hts]
    simp only
    rw [if_neg h1]
   rw [he]
   exact ⟨rfl, _, (le32.trans le157), (hM173.drop (.cons _ (List.Sublist.refl _)))⟩
  | some t =>
   have hb185 := ht s hs8
   rw [hts] at hb185
   obtain ⟨b174, x175, y176, x177, y178, hp179, c180, c181, c182, r183, r184⟩ := hb185
   obtain ⟨htok, hlt⟩ := hg.txns s t hts
   by_cases h1 : k = 1
   refine region_gw F31 13 [] (by kernel_rfl) (by kernel_rfl) ?_
   simp only [List.take_succ_cons, List.take_zero]
   refine gm ?_
   refine gi ?_
   refine gf (fa_112_1 _ _) ?_
   simp only [pq]
   refine gv _ (fun _ C186 => ex_load rfl (load1 (nagg_4 _) (St.cell (St.tells S57 C186) (i := 1) rfl ((engC_waits hs8).trans (congrArg some (congrArg Value.bool hws)))))) ?_
   iterate 2 refine gm ?_
   simp only [pq]
   refine gi ?_
   refine gf (fa_112_0 _ _) ?_
   refine gv _ (fun _ C186 => ex_load rfl (load1 (nagg_110 _) (St.cell (St.tells S57 C186) (i := 1) rfl ((engC_txn hs8).trans (congrArg some hp179))))) ?_
   simp only [pq]
   refine gv bT (fun _ _ => ex_neqP (p := some ⟨b174, 0, none⟩) Tryz.underlying110 rfl rfl) ?_
   refine gf (fa_27_0 _ _) ?_
   refine gl nagg_3 S57 0 ?_
   simp only [pq]
   refine gv bT (fun _ _ => ex_eql (m := ((k : Nat) : Int)) (n := (1 : Int)) (b := true) rfl rfl (beq_iff_eq.2 (by omega))) ?_
   refine gw_nil ?_
   intro w187 hC189 hF190
   clear hF190
   have S188 := St.tells S57 hC189
   simp only [List.drop_succ_cons, List.drop_zero]
   refine dr bT (ex_eqlB Tryz.underlying4 rfl rfl (rfl)) ?_
   refine dp ?_
   refine dy ?_
   simp only [pq]
   refine wl_nil (hK83 _ _ ?_)
   refine wp_cond_true rfl ?_
   refine region_wl ?_
   iterate 2 refine dx ?_
   simp only [pq]
   have S191 := St.perm S188 (List.perm_middle (l₁ := [_]))
   have hM192 : EngM _ _ _ _ n g _ := ⟨_, _, _, _, _, _, _, _, _, _, _, S191, (hd.mono le32), (TxB_mono ht le32)⟩
   refine doC rfl (fn3 (ent_76 _ _)) (told_eng _ _ _ _ _ _ _ s 6 hM192 hq) ?_
   rintro _ w193 ⟨rfl, F194, le195, hM196⟩
   refine ⟨_, rfl, ?_⟩
   obtain ⟨ad197, cd198, ac199, cc200, af201, cf202, aw203, cw204, ar205, cr206, pv207, S208, hd209, ht210⟩ := hM196
   refine wl_nil ?_
   (try simp only [Exit.then, Exit.inBlock, ↓reduceIte, Nat.reduceEqDiff])
   refine bE (res_ rfl) ?_
   have hM211 : EngM _ _ _ _ n (g.reply (repC s 6)) _ := ⟨_, _, _, _, _, _, _, _, _, _, _, S208, hd209, ht210⟩
   have he : g.ask s b = (g.reply (repC s 6)) := by
    unfold Eng.ask
    rw [if_pos (by simpa using hc6)]
    rw [if_pos hc23, hkr]
    simp only
    unfold Eng.req
    rw [if_neg hc41, if_neg (by rw [hws]; decide), hts]
    simp only
    rw [if_pos h1]
   rw [he]
   exact ⟨rfl, _, (le32.trans le195), (hM211.drop (.cons _ (List.Sublist.refl _)))⟩
   refine region_gw F31 13 [] (by kernel_rfl) (by kernel_rfl) ?_
   simp only [List.take_succ_cons, List.take_zero]
   refine gm ?_
   refine gi ?_
   refine gf (fa_112_1 _ _) ?_
   simp only [pq]
   refine gv _ (fun _ C212 => ex_load rfl (load1 (nagg_4 _) (St.cell (St.tells S57 C212) (i := 1) rfl ((engC_waits hs8).trans (congrArg some (congrArg Value.bool hws)))))) ?_
   iterate 2 refine gm ?_
   simp only [pq]
   refine gi ?_
   refine gf (fa_112_0 _ _) ?_
   refine gv _ (fun _ C212 => ex_load rfl (load1 (nagg_110 _) (St.cell (St.tells S57 C212) (i := 1) rfl ((engC_txn hs8).trans (congrArg some hp179))))) ?_
   simp only [pq]
   refine gv bT (fun _ _ => ex_neqP (p := some ⟨b174, 0, none⟩) Tryz.underlying110 rfl rfl) ?_
   refine gf (fa_27_0 _ _) ?_
   refine gl nagg_3 S57 0 ?_
   simp only [pq]
   refine gv bF (fun _ _ => ex_eql (m := ((k : Nat) : Int)) (n := (1 : Int)) (b := false) rfl rfl (beq_eq_false_iff_ne.2 (by omega))) ?_
   refine gw_nil ?_
   intro w213 hC215 hF216
   clear hF216
   have S214 := St.tells S57 hC215
   simp only [List.drop_succ_cons, List.drop_zero]
   refine dr bF (ex_eqlB Tryz.underlying4 rfl rfl (rfl)) ?_
   refine dp ?_
   refine dy ?_
   simp only [pq]
   refine wl_nil (hK83 _ _ ?_)
   refine wp_cond_false rfl ?_
   refine sk fun K217 hK217 => ?_
   refine df (fa_27_0 _ _) ?_
   refine dl (nagg_3 _) S214 0 ?_
   refine eqlF ?_
   simp only [pq]
   refine dy ?_
   refine wn hK217 ?_
   refine wp_cond_false rfl ?_
   refine wp_seq_k (fun K218 hK218 => ?_)
   by_cases h7 : k = 7
   refine region_wl ?_
   refine df (fa_27_0 _ _) ?_
   refine dl (nagg_3 _) S214 0 ?_
   refine eqlT ?_
   simp only [pq]
   refine dy ?_
   refine wl_nil (hK218 _ _ ?_)
   refine wp_cond_true rfl ?_
   refine sk fun K219 hK219 => ?_
   refine dx ?_
   refine di ?_
   refine df (fa_112_0 _ _) ?_
   simp only [pq]
   refine stStore (i := 1) (v := (.pointer none)) S214 rfl rfl rfl rfl (size_110) (allc1 rfl) (by rw [engC_len]; simp only [Value.cells]; exact Nat.le_of_lt_succ (by simp only [List.size_toArray, List.length_cons, List.length_nil]; omega)) (fun w220 S221 => ?_)
   simp only [pq]
   have S221 : St w0 F0 w220 F31 (⟨n53, [(nI k), (.slice a45 r.name.length c46), (.slice a47 r.key.length c48), (.slice a49 r.last.length c50), (.slice a51 r.value.length c52)], 27⟩ :: ⟨n, splice (engC g.up (.slice ad g.tape.data.length cd) g.tape.synced (.slice ac g.commits.length cc) (.slice af g.forests.length cf) g.synced pv g.waits (.slice aw g.waiting.length cw) (.slice ar g.replies.length cr)) (6 + s * 2) [(.pointer none)], 115⟩ :: L) (engR w0.heap.size (.slice ac g.commits.length cc) g.commits (.slice af g.forests.length cf) g.forests (.slice aw g.waiting.length cw) g.waiting (.slice ar g.replies.length cr) g.replies) := S221
   rw [setTxn_c hs8] at S221
   refine wn hK219 ?_
   have ht222 := TxB_upd (x := .pointer none) (t := none) (TxB_mono ht le32) rfl s
   refine region_wl ?_
   iterate 2 refine dx ?_
   simp only [pq]
   have S223 := St.perm S221 (List.perm_middle (l₁ := [_]))
   have hM224 : EngM _ _ _ _ n (g.setTxn s none) _ := ⟨_, _, _, _, _, _, _, _, _, _, _, S223, (hd.mono le32), ht222⟩
   refine doC rfl (fn3 (ent_76 _ _)) (told_eng _ _ _ _ _ _ _ s 0 hM224 hq) ?_
   rintro _ w225 ⟨rfl, F226, le227, hM228⟩
   refine ⟨_, rfl, ?_⟩
   obtain ⟨ad229, cd230, ac231, cc232, af233, cf234, aw235, cw236, ar237, cr238, pv239, S240, hd241, ht242⟩ := hM228
   refine wl_nil ?_
   (try simp only [Exit.then, Exit.inBlock, ↓reduceIte, Nat.reduceEqDiff])
   refine bE (res_ rfl) ?_
   have hM243 : EngM _ _ _ _ n ((g.setTxn s none).reply (repC s 0)) _ := ⟨_, _, _, _, _, _, _, _, _, _, _, S240, hd241, ht242⟩
   have he : g.ask s b = ((g.setTxn s none).reply (repC s 0)) := by
    unfold Eng.ask
    rw [if_pos (by simpa using hc6)]
    rw [if_pos hc23, hkr]
    simp only
    unfold Eng.req
    rw [if_neg hc41, if_neg (by rw [hws]; decide), hts]
    simp only
    rw [if_neg h1, if_pos h7]
   rw [he]
   exact ⟨rfl, _, (le32.trans le227), (hM243.drop (.cons _ (List.Sublist.refl _)))⟩
   refine region_wl ?_
   refine df (fa_27_0 _ _) ?_
   refine dl (nagg_3 _) S214 0 ?_
   refine eqlF ?_
   simp only [pq]
   refine dy ?_
   refine wl_nil (hK218 _ _ ?_)
   refine wp_cond_false rfl ?_
   refine wp_seq_k (fun K244 hK244 => ?_)
   cases hkp : Eng.keptB g.synced t.start with
   | true =>
    refine region_gw F31 11 [] (by kernel_rfl) (by kernel_rfl) ?_
    simp only [List.take_succ_cons, List.take_zero]
    refine gm ?_
    refine gi ?_
    simp only [pq]
    refine gf (fa_115_4 _ _) ?_
    refine gl nagg_3 S214 1 ?_
    refine gm ?_
    simp only [pq]
    refine gi ?_
    refine gf (fa_112_0 _ _) ?_
    refine gv _ (fun _ C245 => ex_load rfl (load1 (nagg_110 _) (St.cell (St.tells S214 C245) (i := 1) rfl ((engC_txn hs8).trans (congrArg some hp179))))) ?_
    simp only [pq]
    refine gi ?_
    refine gf (fa_141_0 _ _) ?_
    refine gv _ (fun _ C245 => ex_load rfl (load1 (nagg_3 _) (St.fz (St.tells S214 C245) (Le.cell le32 c180)))) ?_
    simp only [pq]
    refine gw_nil ?_
    intro w246 hC248 hF249
    clear hF249
    have S247 := St.tells S214 hC248
    simp only [List.drop_succ_cons, List.drop_zero]
    refine stTells (v := bT) S247 rfl (fn2 (ent_80 _ _)) (kept_spec _ g.synced t.start (by omega) htok.start.1 htok.start.2 hkp) (fun w250 S251 => ?_)
    simp only [pq]
    refine dt ?_
    refine dy ?_
    refine wl_nil (hK244 _ _ ?_)
    refine wp_cond_false rfl ?_
    refine region_wl ?_
    iterate 3 refine dx ?_
    simp only [pq]
    refine dR S251 0 Tryz.underlying27 (size_27) ?_
    simp only [pq]
    have S252 := St.perm S251 (List.perm_middle (l₁ := [_]))
    have hM253 : EngM _ _ _ _ n g _ := ⟨_, _, _, _, _, _, _, _, _, _, _, S252, (hd.mono le32), (TxB_mono ht le32)⟩
    refine doC rfl (fn4 (ent_81 _ _)) (work_eng _ _ _ _ _ _ _ s hs8 _ t k r hM253 hh hT hg hm hts ⟨_, _, _, _, rfl, r41, r42, r43, r44⟩ ok ⟨by omega, by omega, by omega⟩ hq) ?_
    rintro _ w254 ⟨rfl, F255, le256, hM257⟩
    refine ⟨_, rfl, ?_⟩
    obtain ⟨ad258, cd259, ac260, cc261, af262, cf263, aw264, cw265, ar266, cr267, pv268, S269, hd270, ht271⟩ := hM257
    refine wl_nil ?_
    (try simp only [Exit.then, Exit.inBlock, ↓reduceIte, Nat.reduceEqDiff])
    refine bE (res_ rfl) ?_
    have hM272 : EngM _ _ _ _ n (g.work s t k r) _ := ⟨_, _, _, _, _, _, _, _, _, _, _, S269, hd270, ht271⟩
    have he : g.ask s b = (g.work s t k r) := by
     unfold Eng.ask
     rw [if_pos (by simpa using hc6)]
     rw [if_pos hc23, hkr]
     simp only
     unfold Eng.req
     rw [if_neg hc41, if_neg (by rw [hws]; decide), hts]
     simp only
     rw [if_neg h1, if_neg h7, if_pos hkp]
    rw [he]
    exact ⟨rfl, _, (le32.trans le256), (hM272.drop (.cons _ (List.Sublist.refl _)))⟩
   | false =>
    refine region_gw F31 11 [] (by kernel_rfl) (by kernel_rfl) ?_
    simp only [List.take_succ_cons, List.take_zero]
    refine gm ?_
    refine gi ?_
    refine gf (fa_115_4 _ _) ?_
    simp only [pq]
    refine gl nagg_3 S214 1 ?_
    refine gm ?_
    refine gi ?_
    simp only [pq]
    refine gw_pure rfl rfl (pP n (6 + s * 2)) (fun w273 C273 => pureAt_of (ef (fa_112_0 _ _))) ?_
    refine gv _ (fun _ C273 => ex_load rfl (load1 (nagg_110 _) (St.cell (St.tells S214 C273) (i := 1) rfl ((engC_txn hs8).trans (congrArg some hp179))))) ?_
    refine gi ?_
    refine gf (fa_141_0 _ _) ?_
    simp only [pq]
    refine gv _ (fun _ C273 => ex_load rfl (load1 (nagg_3 _) (St.fz (St.tells S214 C273) (Le.cell le32 c180)))) ?_
    refine gw_nil ?_
    intro w274 hC276 hF277
    clear hF277
    have S275 := St.tells S214 hC276
    simp only [List.drop_succ_cons, List.drop_zero]
    refine stTells (v := bF) S275 rfl (fn2 (ent_80 _ _)) (kept_spec _ g.synced t.start (by omega) htok.start.1 htok.start.2 hkp) (fun w278 S279 => ?_)
    simp only [pq]
    refine dt ?_
    refine dy ?_
    refine wl_nil (hK244 _ _ ?_)
    refine wp_cond_true rfl ?_
    refine sk fun K280 hK280 => ?_
    refine dx ?_
    refine di ?_
    refine df (fa_112_0 _ _) ?_
    simp only [pq]
    refine stStore (i := 1) (v := (.pointer none)) S279 rfl rfl rfl rfl (size_110) (allc1 rfl) (by rw [engC_len]; simp only [Value.cells]; exact Nat.le_of_lt_succ (by simp only [List.size_toArray, List.length_cons, List.length_nil]; omega)) (fun w281 S282 => ?_)
    simp only [pq]
    have S282 : St w0 F0 w281 F31 (⟨n53, [(nI k), (.slice a45 r.name.length c46), (.slice a47 r.key.length c48), (.slice a49 r.last.length c50), (.slice a51 r.value.length c52)], 27⟩ :: ⟨n, splice (engC g.up (.slice ad g.tape.data.length cd) g.tape.synced (.slice ac g.commits.length cc) (.slice af g.forests.length cf) g.synced pv g.waits (.slice aw g.waiting.length cw) (.slice ar g.replies.length cr)) (6 + s * 2) [(.pointer none)], 115⟩ :: L) (engR w0.heap.size (.slice ac g.commits.length cc) g.commits (.slice af g.forests.length cf) g.forests (.slice aw g.waiting.length cw) g.waiting (.slice ar g.replies.length cr) g.replies) := S282
    rw [setTxn_c hs8] at S282
    refine wn hK280 ?_
    have ht283 := TxB_upd (x := .pointer none) (t := none) (TxB_mono ht le32) rfl s
    refine region_wl ?_
    iterate 2 refine dx ?_
    simp only [pq]
    have S284 := St.perm S282 (List.perm_middle (l₁ := [_]))
    have hM285 : EngM _ _ _ _ n (g.setTxn s none) _ := ⟨_, _, _, _, _, _, _, _, _, _, _, S284, (hd.mono le32), ht283⟩
    refine doC rfl (fn3 (ent_76 _ _)) (told_eng _ _ _ _ _ _ _ s 10 hM285 hq) ?_
    rintro _ w286 ⟨rfl, F287, le288, hM289⟩
    refine ⟨_, rfl, ?_⟩
    obtain ⟨ad290, cd291, ac292, cc293, af294, cf295, aw296, cw297, ar298, cr299, pv300, S301, hd302, ht303⟩ := hM289
    refine wl_nil ?_
    (try simp only [Exit.then, Exit.inBlock, ↓reduceIte, Nat.reduceEqDiff])
    refine bE (res_ rfl) ?_
    have hM304 : EngM _ _ _ _ n ((g.setTxn s none).reply (repC s 10)) _ := ⟨_, _, _, _, _, _, _, _, _, _, _, S301, hd302, ht303⟩
    have he : g.ask s b = ((g.setTxn s none).reply (repC s 10)) := by
     unfold Eng.ask
     rw [if_pos (by simpa using hc6)]
     rw [if_pos hc23, hkr]
     simp only
     unfold Eng.req
     rw [if_neg hc41, if_neg (by rw [hws]; decide), hts]
     simp only
     rw [if_neg h1, if_neg h7, if_neg (by rw [hkp]; decide)]
    rw [he]
    exact ⟨rfl, _, (le32.trans le288), (hM304.drop (.cons _ (List.Sublist.refl _)))⟩
 refine neqT ?_
 refine wn hK59 ?_
 refine wp_cond_true rfl ?_
 refine sk fun K305 hK305 => ?_
 iterate 3 refine dx ?_
 simp only [pq]
 have S306 := St.perm S57 (List.perm_middle (l₁ := [_]))
 have hM307 : EngM _ _ _ _ n g _ := ⟨_, _, _, _, _, _, _, _, _, _, _, S306, (hd.mono le32), (TxB_mono ht le32)⟩
 refine doC rfl (fn3 (ent_76 _ _)) (told_eng _ _ _ _ _ _ _ s (wdE b) hM307 hq) ?_
 rintro _ w308 ⟨rfl, F309, le310, hM311⟩
 refine ⟨_, rfl, ?_⟩
 obtain ⟨ad312, cd313, ac314, cc315, af316, cf317, aw318, cw319, ar320, cr321, pv322, S323, hd324, ht325⟩ := hM311
 refine wn hK305 ?_
 refine wp_ret ?_
 (try simp only [Exit.then, Exit.inBlock, ↓reduceIte, Nat.reduceEqDiff])
 refine bR (res_ rfl) ?_
 have hM326 : EngM _ _ _ _ n (g.reply (repC s (wdE b))) _ := ⟨_, _, _, _, _, _, _, _, _, _, _, S323, hd324, ht325⟩
 have he : g.ask s b = (g.reply (repC s (wdE b))) := by
  unfold Eng.ask
  rw [if_pos (by simpa using hc6)]
  rw [if_neg hc23]
 rw [he]
 exact ⟨rfl, _, (le32.trans le310), (hM326.drop (.cons _ (List.Sublist.refl _)))⟩
theorem St.permR {w0 w : World} {F0 F : Fz} {L : List Blk} {M M' : List RowP} (S : St w0 F0 w F L M) (h : M.Perm M') : St w0 F0 w F L M' := ⟨S.gr, S.blk, fun r hr => S.row r (h.mem_iff.2 hr), S.bb, fun r hr => S.rb r (h.mem_iff.2 hr), (h.pairwise_iff (fun hne g hs hr => hne g hr hs)).1 S.rr⟩
theorem St.nilW {w0 w : World} {F0 F : Fz} {L : List Blk} {b : Nat} {vc vf vw vr : Value} {cs : List Cm} {fs : List Forest} {ws : List Nat} {rs : List Rep} (S : St w0 F0 w F L (engR b vc cs vf fs vw ws vr rs)) : St w0 F0 w F L (engR b vc cs vf fs (.slice none 0 0) [] vr rs) := by
 have S1 := (S.dropRow (.cons_cons _ (.cons_cons _ (.cons _ (List.Sublist.refl _))))).addNil 1 NtC NtC.mono 3 b
 exact S1.permR ((List.perm_middle (l₁ := [_, _])).symm)
theorem told_snoc (l : List Nat) (s : Nat) (g : Eng) : Eng.told (l ++ [s]) g = { Eng.told l g with synced := (Eng.told l g).synced + 1, waits := updN (Eng.told l g).waits s false, replies := (Eng.told l g).replies ++ [repT s (((Eng.told l g).synced + 1 : Nat) : Int)] } := by
 induction l generalizing g with
 | nil => rfl
 | cons x l ih => rw [List.cons_append, Eng.told, ih]; rfl
theorem sync_eng (w0 : World) (F0 : Fz) (w : World) (F : Fz) (n : Nat) (g : Eng) (L : List Blk) {m : Nat} (hM : EngM w0 F0 w F n g L) (hg : EngOk m g) (hm : m ≤ 149) (hq : g.replies.length + g.waiting.length ≤ 100000) :
    Calls Tryz.prog 69 #[.pointer (some ⟨n, 0, none⟩)] w (EngP w0 F0 F n g.sync L) := by
 obtain ⟨ad, cd, ac, cc, af, cf, aw, cw, ar, cr, pv, S, hd, ht⟩ := hM
 have hsy := hg.sync
 have hmy := hg.many
 have htl : g.tape.data.length ≤ 90000 := by have := tapeB_len_le hg.hist.ok; rw [hg.data]; omega
 have hts2 := hg.syn
 go_enter Tryz.func69, Tryz.ntmps69
 refine wp_seq_k (fun K4 hK4 => ?_)
 refine sk fun K5 hK5 => ?_
 refine dx ?_
 refine di ?_
 refine df (fa_115_0 _ _) ?_
 simp only [pq]
 refine dl (nagg_4 _) S 0 ?_
 refine dr (.bool (!g.up)) (ex_not rfl rfl) ?_
 refine wn hK5 ?_
 refine wp_cond_split rfl (fun hc6 => ?_) (fun hc6 => ?_)
 refine wp_ret ?_
 (try simp only [Exit.then, Exit.inBlock, ↓reduceIte, Nat.reduceEqDiff])
 refine bR (res_ rfl) ?_
 have he : g.sync = g := by unfold Eng.sync; rw [if_neg (by simpa using hc6)]
 rw [he]
 exact ⟨rfl, _, Le.refl _, ⟨_, _, _, _, _, _, _, _, _, _, _, S, hd, ht⟩⟩
 refine wp_skip ?_
 refine hK4 _ _ ?_
 refine sk fun K7 hK7 => ?_
 iterate 2 refine dx ?_
 refine di ?_
 simp only [pq]
 refine df (fa_115_1 _ _) ?_
 refine dr _ (ex_load rfl (loadM Tryz.underlying108 rfl (size_108) (St.range S (i := 0) rfl 1 [(.slice ad g.tape.data.length cd), (nI g.tape.synced)] (sub_range 1 rfl)))) ?_
 refine stGives S rfl (fn1 (ent_82 _ _)) (sync_spec _ _ _ g.tape (S).sat ⟨_, _, rfl, hd⟩ ⟨by omega, hts2⟩) ?_
 intro v13 w8 F10 S9 le11 R12
 obtain ⟨_, rfl, R14⟩ := R12
 obtain ⟨a15, c16, rfl, r17⟩ := R14
 have r17 : Bs _ (.slice a15 g.tape.data.length c16) g.tape.data := r17
 refine dx ?_
 iterate 2 refine de ?_
 simp only [pq]
 refine di ?_
 refine df (fa_115_1 _ _) ?_
 refine sW 0 S9 (size_108) fun w18 S19 => ?_
 simp only [pq]
 refine wn hK7 ?_
 refine wp_seq_k (fun K20 hK20 => ?_)
 refine sk fun K21 hK21 => ?_
 refine dx ?_
 refine di ?_
 refine df (fa_115_6 _ _) ?_
 simp only [pq]
 refine dl (nagg_60 _) S19 0 ?_
 refine dn Tryz.underlying60 ?_
 refine dx ?_
 simp only [pq]
 refine wn hK21 ?_
 refine wp_block ?_
 refine wp_loop_g (fun mm aa w24 => ∃ (i : Nat) (sy : Nat) (wf : Nat → Bool) (ar2 : Option Addr) (cr2 : Nat) (rs : List Rep) (F22 : Fz) (u23 : Nat → Value), mm = g.waiting.length - i ∧ u23 = slots aa ∧ aa = ⟨#[(pP n 0), undef, undef, (u23 3), (pP n 0), (pP n 0), (pP n 0), (.bool g.up), (.bool (!g.up)), (.tuple #[(.agg #[(.slice a15 g.tape.data.length c16), (nI g.tape.data.length)]), (iI 0)]), (pP n 0), (pP n 0), (pP n 0), (pP n 1), (.agg #[(.slice ad g.tape.data.length cd), (nI g.tape.synced)]), (.tuple #[(.agg #[(.slice a15 g.tape.data.length c16), (nI g.tape.data.length)]), (iI 0)]), (.agg #[(.slice a15 g.tape.data.length c16), (nI g.tape.data.length)]), (iI 0), (pP n 0), (pP n 1), (pP n 0), (pP n 0), (pP n 22), (.slice aw g.waiting.length cw), (nI g.waiting.length), (nI i), (u23 26), (u23 27), (u23 28), (u23 29), (u23 30), (u23 31), (u23 32), (u23 33), (u23 34), (u23 35), (u23 36), (u23 37), (u23 38), (u23 39), (u23 40), (u23 41), (u23 42), (u23 43), (u23 44), (u23 45), (u23 46), (u23 47), (u23 48), (u23 49), (u23 50), undef, undef, undef], []⟩ ∧ St w0 F0 w24 F22 (⟨n, engC g.up (.slice a15 g.tape.data.length c16) g.tape.data.length (.slice ac g.commits.length cc) (.slice af g.forests.length cf) sy pv wf (.slice aw g.waiting.length cw) (.slice ar2 rs.length cr2), 115⟩ :: L) (engR w0.heap.size (.slice ac g.commits.length cc) g.commits (.slice af g.forests.length cf) g.forests (.slice aw g.waiting.length cw) g.waiting (.slice ar2 rs.length cr2) rs) ∧ Le F10 F22 ∧ (i ≤ g.waiting.length) ∧ (Eng.told (g.waiting.take i) ({ g with tape := ⟨g.tape.data, g.tape.data.length⟩ } : Eng) = { ({ g with tape := ⟨g.tape.data, g.tape.data.length⟩ } : Eng) with synced := sy, waits := wf, replies := rs }) ∧ (rs.length + g.waiting.length ≤ 100000 + i) ∧ (sy = g.synced + i)) _ ⟨0, g.synced, g.waits, ar, cr, g.replies, F10, _, rfl, rfl, rfl, S19, Le.refl _, (by omega), rfl, (by omega), (by omega)⟩ ?_
 rintro m25 a26 w27 ⟨i, sy, wf, ar2, cr2, rs, F22, u23, rfl, -, rfl, S28, le29, hi, hin, hrs, hse⟩ K30 hK30
 refine sk fun K31 hK31 => ?_
 by_cases hc26 : i < g.waiting.length
 refine lssT ?_
 refine wn hK31 ?_
 refine wp_seq_k (fun K32 hK32 => ?_)
 refine wp_cond_true rfl ?_
 refine wp_skip ?_
 refine hK32 _ _ ?_
 refine wp_seq_k (fun K33 hK33 => ?_)
 refine wp_block ?_
 refine wp_seq_k (fun K34 hK34 => ?_)
 obtain ⟨x, hx⟩ : ∃ x, g.waiting[i]? = some x := ⟨g.waiting[i], List.getElem?_eq_getElem hc26⟩
 have hx8 := hg.who x (List.mem_of_getElem? hx)
 obtain ⟨g35, ha36, c37⟩ := nt_at (S28.own (i := 2) rfl) hx
 refine region_wl ?_
 refine dr (pP g35 (0 + i * 1)) (ex_at (i := i) (sz := 1) Tryz.underlying60 (sizeof_3 _) rfl ha36 rfl (hc26) rfl) ?_
 refine dr _ (ex_load rfl (load1 (nagg_3 _) c37)) ?_
 refine dy ?_
 simp only [pq]
 refine wl_nil (hK34 _ _ ?_)
 refine sk fun K38 hK38 => ?_
 refine dx ?_
 refine di ?_
 refine df (fa_115_4 _ _) ?_
 simp only [pq]
 refine dl (nagg_3 _) S28 0 ?_
 refine dAdd (sy + 1) ?_
 refine di ?_
 simp only [pq]
 refine df (fa_115_4 _ _) ?_
 refine sW 0 S28 (size_3) fun w39 S40 => ?_
 simp only [pq]
 have S40 : St w0 F0 w39 F22 (⟨n, engC g.up (.slice a15 g.tape.data.length c16) g.tape.data.length (.slice ac g.commits.length cc) (.slice af g.forests.length cf) (sy + 1) pv wf (.slice aw g.waiting.length cw) (.slice ar2 rs.length cr2), 115⟩ :: L) (engR w0.heap.size (.slice ac g.commits.length cc) g.commits (.slice af g.forests.length cf) g.forests (.slice aw g.waiting.length cw) g.waiting (.slice ar2 rs.length cr2) rs) := S40
 refine wn hK38 ?_
 refine sk fun K41 hK41 => ?_
 iterate 2 refine dx ?_
 refine di ?_
 simp only [pq]
 refine df (fa_115_5 _ _) ?_
 refine dr (pP n (6 + x * 2)) (ex_atS (i := x) Tryz.underlying113 (sizeof_112 _) rfl rfl (hx8)) ?_
 refine df (fa_112_1 _ _) ?_
 simp only [pq]
 refine stStore (i := 0) (v := bF) S40 rfl rfl rfl rfl (size_4) (allc1 rfl) (by rw [engC_len]; simp only [Value.cells]; exact Nat.le_of_lt_succ (by simp only [List.size_toArray, List.length_cons, List.length_nil]; omega)) (fun w42 S43 => ?_)
 simp only [pq]
 have S43 : St w0 F0 w42 F22 (⟨n, splice (engC g.up (.slice a15 g.tape.data.length c16) g.tape.data.length (.slice ac g.commits.length cc) (.slice af g.forests.length cf) (sy + 1) pv wf (.slice aw g.waiting.length cw) (.slice ar2 rs.length cr2)) (6 + x * 2 + 1) [bF], 115⟩ :: L) (engR w0.heap.size (.slice ac g.commits.length cc) g.commits (.slice af g.forests.length cf) g.forests (.slice aw g.waiting.length cw) g.waiting (.slice ar2 rs.length cr2) rs) := S43
 rw [setWaits_c hx8] at S43
 refine wn hK41 ?_
 refine region_wl ?_
 iterate 3 refine dx ?_
 simp only [pq]
 refine di ?_
 refine df (fa_115_4 _ _) ?_
 refine dl (nagg_3 _) S43 0 ?_
 simp only [pq]
 refine dr (.agg #[(nI x), (iI 0), (nI (sy + 1)), bF, Zn, Zn, Zn, bF, Zn, Zn, Zn, bF, Zn, Zn, Zn]) (ex_build (bmap2 rfl rfl) (by kernel_rfl)) ?_
 refine doC rfl (fn2 (ent_79 _ _)) (reply_st _ _ _ _ _ _ _ _ _ _ _ _ _ _ _ _ _ _ _ _ _ _ (repT x ((sy + 1 : Nat) : Int)) S43 (RpV.turn _ x ((sy + 1 : Nat) : Int)) (by omega)) ?_
 rintro _ w44 ⟨rfl, F45, a47, c48, le46, S49⟩
 refine ⟨_, rfl, ?_⟩
 refine wl_nil (hK33 _ _ ?_)
 refine region_wl ?_
 refine dAdd (i + 1) ?_
 refine dx ?_
 simp only [pq]
 refine wl_nil ?_
 exact hK30 _ _ _ (by omega) ⟨(i + 1), (sy + 1), (updN wf x false), a47, c48, (rs ++ [repT x ((sy + 1 : Nat) : Int)]), F45, _, rfl, rfl, rfl, S49, (le29.trans le46), (by omega), (by rw [take_snoc hx, told_snoc, hin]), (by rw [List.length_append]; simp only [List.length_singleton]; omega), (by omega)⟩
 refine lssF ?_
 refine wn hK31 ?_
 refine wp_seq_k (fun K50 hK50 => ?_)
 refine wp_cond_false rfl ?_
 refine wp_exit ?_
 refine hK20 _ _ ?_
 have hall : g.waiting.take i = g.waiting := List.take_of_length_le (by omega)
 rw [hall] at hin
 refine region_wl ?_
 refine dx ?_
 refine di ?_
 refine df (fa_115_6 _ _) ?_
 simp only [pq]
 refine sW 0 S28 (size_60) fun w51 S52 => ?_
 refine wl_nil ?_
 (try simp only [Exit.then, Exit.inBlock, ↓reduceIte, Nat.reduceEqDiff])
 refine bE (res_ rfl) ?_
 have S53 := St.nilW S52
 have he : g.sync = { ({ g with tape := ⟨g.tape.data, g.tape.data.length⟩ } : Eng) with synced := sy, waits := wf, replies := rs, waiting := [] } := by
  unfold Eng.sync
  rw [if_pos (by simpa using hc6), hin]
 rw [he]
 exact ⟨rfl, _, (le11.trans le29), ⟨_, _, _, _, _, _, _, _, _, _, _, S53, (r17.mono le29), TxB_mono ht (le11.trans le29)⟩⟩
def Ac.kind : Ac → Nat
  | .ask _ _ => 1
  | .sync => 2
  | .crash _ => 3
  | .start => 4
def Ac.sess : Ac → Nat
  | .ask s _ => s
  | _ => 0
def Ac.keep : Ac → Nat
  | .crash k => k
  | _ => 0
def Ac.data : Ac → By
  | .ask _ b => b
  | _ => []
def isP : Ac → Bool
  | .ask _ b => wdE b == 0 && (wdR b).1 == 8
  | _ => false
def isK : Ac → Bool
  | .crash _ => true
  | _ => false
theorem actN_ok {a : Ac} (h : AcOk a) : actN (a.kind : Nat) (a.sess : Nat) (a.keep : Nat) a.data.length = 0 := by
 cases a with
 | ask s b =>
  obtain ⟨h1, h2⟩ := h
  simp only [Ac.kind, Ac.sess, Ac.keep, Ac.data]
  unfold actN
  rw [if_neg (by omega), if_neg (by omega), if_neg (by omega), if_neg (by omega)]
 | sync => rfl
 | crash k =>
  simp only [AcOk] at h
  simp only [Ac.kind, Ac.sess, Ac.keep, Ac.data]
  unfold actN
  rw [if_neg (by omega), if_neg (by omega), if_neg (by simp), if_neg (by simp)]
 | start => rfl
/-- How much is told, or waits to be told. -/
def Eng.room (g : Eng) : Nat := g.replies.length + g.waiting.length
theorem room_reply (g : Eng) (r : Rep) : (g.reply r).room = g.room + 1 := by unfold Eng.room Eng.reply; simp; omega
theorem room_setTxn (g : Eng) (s : Nat) (t : Option Tx) : (g.setTxn s t).room = g.room := rfl
theorem room_note (g : Eng) (s : Nat) (t : Tx) (r : Rd) (y : Rep) : (g.note s t r y).room = g.room + 1 := by
 unfold Eng.note; split
 ·exact room_reply _ _
 ·rw [room_reply, room_setTxn]
theorem tellsR_len : ∀ (l : List Nat) (n : Nat), (tellsR l n).length = l.length
  | [], _ => rfl
  | _ :: l, n => by simp [tellsR, tellsR_len l]
theorem room_req (g : Eng) (s k : Nat) (r : Rq) : (g.req s k r).room = g.room + 1 := by
 unfold Eng.req
 split
 ·exact room_reply _ _
 split
 ·exact room_reply _ _
 split
 ·split
  ·rw [room_reply, room_setTxn]
  ·exact room_reply _ _
 split
 ·exact room_reply _ _
 split
 ·rw [room_reply, room_setTxn]
 split
 ·unfold Eng.work
  split
  ·unfold Eng.look
   simp only
   split
   ·exact room_reply _ _
   ·exact room_note _ _ _ _ _
  split
  ·unfold Eng.scan
   split
   ·exact room_reply _ _
   ·exact room_note _ _ _ _ _
  split
  ·unfold Eng.commit
   split
   ·rw [room_reply, room_setTxn]
   split
   ·exact room_reply _ _
   split
   ·rw [room_reply, room_setTxn]
   split
   ·rw [room_reply, room_setTxn]
   ·unfold Eng.stand Eng.room; simp; omega
  ·unfold Eng.put
   split
   ·exact room_reply _ _
   ·rw [room_reply, room_setTxn]
 ·rw [room_reply, room_setTxn]
theorem room_act (g : Eng) (a : Ac) : (g.act a).room ≤ g.room + 1 := by
 cases a with
 | ask s b =>
  unfold Eng.act Eng.ask
  simp only
  split
  ·split
   ·exact Nat.le_of_eq (room_req _ _ _ _)
   ·exact Nat.le_of_eq (room_reply _ _)
  ·exact Nat.le_of_eq (room_reply _ _)
 | sync =>
  show g.sync.room ≤ _
  cases hu : g.up with
  | false => unfold Eng.sync; rw [hu]; simp
  | true => rw [sync_is hu]; unfold Eng.room; simp [tellsR_len]
 | crash k =>
  show (g.crash k).room ≤ _
  unfold Eng.crash
  split
  ·unfold Eng.room; simp; omega
  ·omega
 | start => exact Nat.le_succ _
theorem room_run : ∀ (l : List Ac) (g : Eng), (l.foldl Eng.act g).room ≤ g.room + l.length
  | [], g => by simp
  | a :: l, g => by
    rw [List.foldl_cons]
    have h1 := room_run l (g.act a)
    have h2 := room_act g a
    simp; omega
theorem run_room (l : List Ac) : (runE l).replies.length + (runE l).waiting.length ≤ l.length := by
 have h : (runE l).room ≤ 0 + l.length := room_run l eng0
 rw [Nat.zero_add] at h
 exact h
theorem countC_take (l : List Ac) (k : Nat) : countC (l.take k) ≤ countC l := by
 have e : countC l = countC (l.take k) + countC (l.drop k) := by unfold countC; rw [← List.sum_append, ← List.map_append, List.take_append_drop]
 omega
theorem runE_take {l : List Ac} {k : Nat} {a : Ac} (h : l[k]? = some a) : runE (l.take (k + 1)) = (runE (l.take k)).act a := by
 obtain ⟨hk, rfl⟩ := List.getElem?_eq_some_iff.1 h
 rw [List.take_succ_eq_append_getElem hk, runE_append]; rfl
theorem run_take_ok {l : List Ac} (hl : countC l ≤ 149) (ha : ∀ a ∈ l, AcOk a) (k : Nat) : EngOk (countC (l.take k)) (runE (l.take k)) ∧ countC (l.take k) ≤ 149 := by
 have := countC_take l k
 exact ⟨run_ok (by omega) (fun a h => ha a (List.mem_of_mem_take h)), by omega⟩
theorem run_take_room (l : List Ac) (k : Nat) (h : l.length ≤ 100000) : (runE (l.take k)).replies.length + (runE (l.take k)).waiting.length ≤ 100000 := by
 have := run_room (l.take k)
 rw [List.length_take] at this
 omega
end Go.Proofs.YtilgpdpooildcaaGreatDoor
