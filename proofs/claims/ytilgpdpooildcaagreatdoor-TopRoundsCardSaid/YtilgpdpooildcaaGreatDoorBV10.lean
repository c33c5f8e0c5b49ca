/- Rules, plain laws and walks: WQ4 B3 TD P15 SV1 SV2 C1 SV3 SV4 -/
import Derived.Test.YtilgpdpooildcaaGreatDoorBV9
import Derived.Test.YtilgpdpooildcaaGreatDoorBV2
import Derived.Test.YtilgpdpooildcaaGreatDoorBV6
import Derived.Test.YtilgpdpooildcaaGreatDoorBV1
import Derived.Test.YtilgpdpooildcaaGreatDoorBV7
import Derived.Test.YtilgpdpooildcaaGreatDoorBV8
import Derived.Test.YtilgpdpooildcaaGreatDoorBV4
import Derived.Test.YtilgpdpooildcaaGreatDoorBV5
import Derived.Laws.Pointers
namespace Go.Proofs.YtilgpdpooildcaaGreatDoor
set_option maxHeartbeats 8000000
open Go.RowKit
set_option maxRecDepth 100000
set_option linter.unusedVariables false
set_option linter.unusedSimpArgs false
theorem rq_of {k : Nat} {r : Rq} (ok : RqOk k r) (hk : k = 2 ∨ k = 3 ∨ k = 4 ∨ k = 5) : (1 ≤ r.name.length ∧ r.name.length ≤ 8) ∧ (1 ≤ r.key.length ∧ r.key.length ≤ 16) ∧ r.value.length ≤ 32 ∧ (k ≠ 3 → r.last = []) ∧ (k = 3 → 1 ≤ r.last.length ∧ r.last.length ≤ 16) ∧ (k ≠ 4 → r.value = []) := by
 obtain ⟨a1, a2, a3, a4, a5, a6, a7, a8⟩ := parts_ok (h := hasN k) ok.fits
 have e0 : ∀ {l : By}, l.length = 0 → l = [] := fun h => List.eq_nil_of_length_eq_zero h
 rcases hk with rfl | rfl | rfl | rfl
 ·exact ⟨a1 rfl, a2 rfl, a4, fun _ => e0 (a7 rfl), fun h => by omega, fun _ => e0 (a8 rfl)⟩
 ·exact ⟨a1 rfl, a2 rfl, a4, fun h => absurd rfl h, fun _ => a3 rfl, fun _ => e0 (a8 rfl)⟩
 ·exact ⟨a1 rfl, a2 rfl, a4, fun _ => e0 (a7 rfl), fun h => by omega, fun h => absurd rfl h⟩
 ·exact ⟨a1 rfl, a2 rfl, a4, fun _ => e0 (a7 rfl), fun h => by omega, fun _ => e0 (a8 rfl)⟩
theorem rd_of {k : Nat} {r : Rq} {b : Bool} (ok : RqOk k r) (hk : (k = 2 ∧ b = false) ∨ (k = 3 ∧ b = true)) : RdOk ⟨r.name, r.key, b, r.last⟩ := by
 obtain ⟨h1, h2, h3, h4, h5, h6⟩ := rq_of ok (by omega)
 rcases hk with ⟨hk, rfl⟩ | ⟨hk, rfl⟩
 ·exact ⟨h1, h2, h4 (by omega)⟩
 ·exact ⟨h1, h2, h5 hk⟩
theorem wr_of {k : Nat} {r : Rq} {b : Bool} (ok : RqOk k r) (hk : (k = 4 ∧ b = false) ∨ (k = 5 ∧ b = true)) : WrOk ⟨r.name, r.key, b, r.value⟩ := by
 obtain ⟨h1, h2, h3, h4, h5, h6⟩ := rq_of ok (by omega)
 rcases hk with ⟨hk, rfl⟩ | ⟨hk, rfl⟩
 ·exact ⟨h1, h2.1, h2.2, h3, fun h => by cases h⟩
 ·exact ⟨h1, h2.1, h2.2, h3, fun _ => h6 (by omega)⟩
theorem note_one (r : Rd) : noteX nilX r = some ⟨0, [r], []⟩ := by simp [noteX, nilX]
theorem write_one (w : Wr) : writeX nilX w = some ⟨0, [], [w]⟩ := by simp [writeX, nilX, idxW]
def RdR (p : Rd) (e : Int) (F : Fz) (u : Value) : Prop := ∃ x, u = .tuple #[x, .int .i64 e] ∧ RdV F x p
def WrR (p : Wr) (e : Int) (F : Fz) (u : Value) : Prop := ∃ x, u = .tuple #[x, .int .i64 e] ∧ WrV F x p
theorem wireRead_yes (F : Fz) (w : World) (v : Value) (k : Nat) (r : Rq) {b : Bool} (hs : Sat w F) (hh : Has w) (hv : ReqV F v k r.name r.key r.last r.value) (ok : RqOk k r) (hb : (k = 2 ∧ b = false) ∨ (k = 3 ∧ b = true)) :
    Calls Tryz.prog 105 #[v] w (Gives w F (RdR ⟨r.name, r.key, b, r.last⟩ 0)) := by
 have hk := ok.kind
 obtain ⟨_, _, _, _, rfl, h0, h1, h2, h3⟩ := hv
 obtain ⟨x0, y0, rfl, _⟩ := h0.shape
 obtain ⟨x1, y1, rfl, _⟩ := h1.shape
 obtain ⟨x2, y2, rfl, _⟩ := h2.shape
 obtain ⟨x3, y3, rfl, _⟩ := h3.shape
 have S := St.start hs
 go_enter Tryz.func105, Tryz.ntmps105
 refine sk fun K1 hK1 => ?_
 refine stNew S (v := fun n => .pointer (aA n 0)) rfl (ex_box (v := (.agg #[(nI k), (.slice x0 r.name.length y0), (.slice x1 r.key.length y1), (.slice x2 r.last.length y2), (.slice x3 r.value.length y3)])) rfl) (fun n2 w3 S4 => ?_)
 refine sA S4 (zero_179 _) fun n5 w6 S7 => ?_
 refine dy ?_
 refine wn hK1 ?_
 refine wp_seq_k (fun K8 hK8 => ?_)
 refine sk fun K9 hK9 => ?_
 refine dR S7 1 Tryz.underlying27 (size_27) ?_
 simp only [pq]
 refine stTells (v := (iI 0)) S7 rfl (fn1 (ent_41 _ _)) (wireCheckOk_spec _ _ _ k r (hh.below S7.gr.below) ⟨_, _, _, _, rfl, h0, h1, h2, h3⟩ ok) (fun w10 S11 => ?_)
 refine dy ?_
 refine wn hK9 ?_
 refine sk fun K12 hK12 => ?_
 refine dx ?_
 refine dr bF (ex_neq (m := (0 : Int)) (n := (0 : Int)) (b := false) rfl rfl (bne_eq_false_iff_eq.2 (rfl))) ?_
 simp only [pq]
 refine wn hK12 ?_
 refine wp_cond_false rfl ?_
 refine wp_skip ?_
 refine hK8 _ _ ?_
 refine wp_seq_k (fun K13 hK13 => ?_)
 refine sk fun K14 hK14 => ?_
 refine df (fa_27_0 _ _) ?_
 refine dl (nagg_3 _) S11 1 ?_
 refine wn hK14 ?_
 refine wp_block ?_
 refine wp_seq_k (fun K15 hK15 => ?_)
 refine wp_seq_k (fun K16 hK16 => ?_)
 rcases hb with ⟨hk, rfl⟩ | ⟨hk, rfl⟩
 refine region_wl ?_
 refine eqlT ?_
 refine dy ?_
 simp only [pq]
 refine wl_nil (hK16 _ _ ?_)
 refine wp_cond_true rfl ?_
 refine wp_skip ?_
 refine hK15 _ _ ?_
 refine wp_cond_true rfl ?_
 refine sk fun K17 hK17 => ?_
 refine dr (.agg #[(iI 0), Zn, Zn]) (ex_build (bmap0) (by kernel_rfl)) ?_
 refine df (fa_27_1 _ _) ?_
 refine dl (nagg_25 _) S11 1 ?_
 simp only [pq]
 refine df (fa_27_2 _ _) ?_
 refine dl (nagg_25 _) S11 1 ?_
 refine df (fa_27_0 _ _) ?_
 simp only [pq]
 refine dl (nagg_3 _) S11 1 ?_
 refine eqlF ?_
 refine df (fa_27_3 _ _) ?_
 simp only [pq]
 refine dl (nagg_25 _) S11 1 ?_
 refine dr (.agg #[(.slice x0 r.name.length y0), (.slice x1 r.key.length y1), bF, (.slice x2 r.last.length y2)]) (ex_build (bmap4 rfl rfl rfl rfl) (by kernel_rfl)) ?_
 refine stGives S11 rfl (fn2 (ent_106 _ _)) (txnNoteIs_spec _ _ _ _ nilX (⟨r.name, r.key, false, r.last⟩ : Rd) (⟨0, [(⟨r.name, r.key, false, r.last⟩ : Rd)], []⟩ : Tx) (S11).sat (TxV.nil _) ⟨_, _, _, _, _, _, rfl, h0, h1, h2⟩ nilX_ok (rd_of ok (Or.inl ⟨hk, rfl⟩)) (note_one _)) ?_
 intro v23 w18 F20 S19 le21 R22
 obtain ⟨_, rfl, R24⟩ := R22
 obtain ⟨xa25, xc26, xa27, xc28, rfl, r29, r30⟩ := R24
 refine dx ?_
 iterate 2 refine de ?_
 simp only [pq]
 refine sA S19 (zero_141 _) fun n31 w32 S33 => ?_
 refine sW 0 S33 (size_141) fun w34 S35 => ?_
 refine dy ?_
 simp only [pq]
 refine wn hK17 ?_
 refine wp_seq_k (fun K36 hK36 => ?_)
 refine sk fun K37 hK37 => ?_
 refine dx ?_
 refine dr bF (ex_neq (m := (0 : Int)) (n := (0 : Int)) (b := false) rfl rfl (bne_eq_false_iff_eq.2 (rfl))) ?_
 refine wn hK37 ?_
 refine wp_cond_false rfl ?_
 refine wp_skip ?_
 refine hK36 _ _ ?_
 refine wp_seq_k (fun K38 hK38 => ?_)
 have hp : ((⟨0, [(⟨r.name, r.key, false, r.last⟩ : Rd)], []⟩ : Tx).reads)[0]? = some (⟨r.name, r.key, false, r.last⟩ : Rd) := rfl
 obtain ⟨b39, o40, ha41, xa43, xc44, xa47, xc48, xa52, xc53, c42, c46, c50, c51, r45, r49, r54⟩ := Rds.get r29 hp
 refine region_wl ?_
 refine df (fa_141_1 _ _) ?_
 refine dl (nagg_139 _) S35 0 ?_
 refine dr (pP b39 (o40 + 0 * 4)) (ex_at (i := 0) (sz := 4) Tryz.underlying139 (sizeof_179 _) rfl ha41 rfl (by show 0 < 1; omega) rfl) ?_
 simp only [pq]
 refine dr _ (ex_load rfl (loadM Tryz.underlying179 rfl (size_179) (range4 (St.fz S35 c42) (St.fz S35 c46) (St.fz S35 c50) (St.fz S35 c51)))) ?_
 refine sW 1 S35 (size_179) fun w55 S56 => ?_
 refine dy ?_
 simp only [pq]
 refine wl_nil (hK38 _ _ ?_)
 refine wp_ret ?_
 (try simp only [Exit.then, Exit.inBlock, ↓reduceIte, Nat.reduceEqDiff])
 refine bR (res_ct rfl ⟨_, rfl, lR S56 1 Tryz.underlying179 (size_179)⟩ (gD rfl)) ?_
 exact ⟨_, _, rfl, S56.gr, _, rfl, _, _, _, _, _, _, rfl, r45, r49, r54⟩
 refine region_wl ?_
 refine eqlF ?_
 refine dy ?_
 refine wl_nil (hK16 _ _ ?_)
 refine wp_cond_false rfl ?_
 refine region_wl ?_
 refine eqlT ?_
 refine dy ?_
 simp only [pq]
 refine wl_nil (hK15 _ _ ?_)
 refine wp_cond_true rfl ?_
 refine sk fun K57 hK57 => ?_
 refine dr (.agg #[(iI 0), Zn, Zn]) (ex_build (bmap0) (by kernel_rfl)) ?_
 refine df (fa_27_1 _ _) ?_
 refine dl (nagg_25 _) S11 1 ?_
 simp only [pq]
 refine df (fa_27_2 _ _) ?_
 refine dl (nagg_25 _) S11 1 ?_
 refine df (fa_27_0 _ _) ?_
 simp only [pq]
 refine dl (nagg_3 _) S11 1 ?_
 refine eqlT ?_
 refine df (fa_27_3 _ _) ?_
 simp only [pq]
 refine dl (nagg_25 _) S11 1 ?_
 refine dr (.agg #[(.slice x0 r.name.length y0), (.slice x1 r.key.length y1), bT, (.slice x2 r.last.length y2)]) (ex_build (bmap4 rfl rfl rfl rfl) (by kernel_rfl)) ?_
 refine stGives S11 rfl (fn2 (ent_106 _ _)) (txnNoteIs_spec _ _ _ _ nilX (⟨r.name, r.key, true, r.last⟩ : Rd) (⟨0, [(⟨r.name, r.key, true, r.last⟩ : Rd)], []⟩ : Tx) (S11).sat (TxV.nil _) ⟨_, _, _, _, _, _, rfl, h0, h1, h2⟩ nilX_ok (rd_of ok (Or.inr ⟨hk, rfl⟩)) (note_one _)) ?_
 intro v63 w58 F60 S59 le61 R62
 obtain ⟨_, rfl, R64⟩ := R62
 obtain ⟨xa65, xc66, xa67, xc68, rfl, r69, r70⟩ := R64
 refine dx ?_
 iterate 2 refine de ?_
 simp only [pq]
 refine sA S59 (zero_141 _) fun n71 w72 S73 => ?_
 refine sW 0 S73 (size_141) fun w74 S75 => ?_
 refine dy ?_
 simp only [pq]
 refine wn hK57 ?_
 refine wp_seq_k (fun K76 hK76 => ?_)
 refine sk fun K77 hK77 => ?_
 refine dx ?_
 refine dr bF (ex_neq (m := (0 : Int)) (n := (0 : Int)) (b := false) rfl rfl (bne_eq_false_iff_eq.2 (rfl))) ?_
 refine wn hK77 ?_
 refine wp_cond_false rfl ?_
 refine wp_skip ?_
 refine hK76 _ _ ?_
 refine wp_seq_k (fun K78 hK78 => ?_)
 have hp : ((⟨0, [(⟨r.name, r.key, true, r.last⟩ : Rd)], []⟩ : Tx).reads)[0]? = some (⟨r.name, r.key, true, r.last⟩ : Rd) := rfl
 obtain ⟨b79, o80, ha81, xa83, xc84, xa87, xc88, xa92, xc93, c82, c86, c90, c91, r85, r89, r94⟩ := Rds.get r69 hp
 refine region_wl ?_
 refine df (fa_141_1 _ _) ?_
 refine dl (nagg_139 _) S75 0 ?_
 refine dr (pP b79 (o80 + 0 * 4)) (ex_at (i := 0) (sz := 4) Tryz.underlying139 (sizeof_179 _) rfl ha81 rfl (by show 0 < 1; omega) rfl) ?_
 simp only [pq]
 refine dr _ (ex_load rfl (loadM Tryz.underlying179 rfl (size_179) (range4 (St.fz S75 c82) (St.fz S75 c86) (St.fz S75 c90) (St.fz S75 c91)))) ?_
 refine sW 1 S75 (size_179) fun w95 S96 => ?_
 refine dy ?_
 simp only [pq]
 refine wl_nil (hK78 _ _ ?_)
 refine wp_ret ?_
 (try simp only [Exit.then, Exit.inBlock, ↓reduceIte, Nat.reduceEqDiff])
 refine bR (res_ct rfl ⟨_, rfl, lR S96 1 Tryz.underlying179 (size_179)⟩ (gD rfl)) ?_
 exact ⟨_, _, rfl, S96.gr, _, rfl, _, _, _, _, _, _, rfl, r85, r89, r94⟩
theorem wireWrite_yes (F : Fz) (w : World) (v : Value) (k : Nat) (r : Rq) {b : Bool} (hs : Sat w F) (hh : Has w) (hv : ReqV F v k r.name r.key r.last r.value) (ok : RqOk k r) (hb : (k = 4 ∧ b = false) ∨ (k = 5 ∧ b = true)) :
    Calls Tryz.prog 93 #[v] w (Gives w F (WrR ⟨r.name, r.key, b, r.value⟩ 0)) := by
 have hk := ok.kind
 obtain ⟨_, _, _, _, rfl, h0, h1, h2, h3⟩ := hv
 obtain ⟨x0, y0, rfl, _⟩ := h0.shape
 obtain ⟨x1, y1, rfl, _⟩ := h1.shape
 obtain ⟨x2, y2, rfl, _⟩ := h2.shape
 obtain ⟨x3, y3, rfl, _⟩ := h3.shape
 have S := St.start hs
 go_enter Tryz.func93, Tryz.ntmps93
 refine sk fun K1 hK1 => ?_
 refine stNew S (v := fun n => .pointer (aA n 0)) rfl (ex_box (v := (.agg #[(nI k), (.slice x0 r.name.length y0), (.slice x1 r.key.length y1), (.slice x2 r.last.length y2), (.slice x3 r.value.length y3)])) rfl) (fun n2 w3 S4 => ?_)
 refine sA S4 (zero_39 _) fun n5 w6 S7 => ?_
 refine dy ?_
 refine wn hK1 ?_
 refine wp_seq_k (fun K8 hK8 => ?_)
 refine sk fun K9 hK9 => ?_
 refine dR S7 1 Tryz.underlying27 (size_27) ?_
 simp only [pq]
 refine stTells (v := (iI 0)) S7 rfl (fn1 (ent_41 _ _)) (wireCheckOk_spec _ _ _ k r (hh.below S7.gr.below) ⟨_, _, _, _, rfl, h0, h1, h2, h3⟩ ok) (fun w10 S11 => ?_)
 refine dy ?_
 refine wn hK9 ?_
 refine sk fun K12 hK12 => ?_
 refine dx ?_
 refine dr bF (ex_neq (m := (0 : Int)) (n := (0 : Int)) (b := false) rfl rfl (bne_eq_false_iff_eq.2 (rfl))) ?_
 simp only [pq]
 refine wn hK12 ?_
 refine wp_cond_false rfl ?_
 refine wp_skip ?_
 refine hK8 _ _ ?_
 refine wp_seq_k (fun K13 hK13 => ?_)
 refine sk fun K14 hK14 => ?_
 refine df (fa_27_0 _ _) ?_
 refine dl (nagg_3 _) S11 1 ?_
 refine wn hK14 ?_
 refine wp_block ?_
 refine wp_seq_k (fun K15 hK15 => ?_)
 refine wp_seq_k (fun K16 hK16 => ?_)
 rcases hb with ⟨hk, rfl⟩ | ⟨hk, rfl⟩
 refine region_wl ?_
 refine eqlT ?_
 refine dy ?_
 simp only [pq]
 refine wl_nil (hK16 _ _ ?_)
 refine wp_cond_true rfl ?_
 refine wp_skip ?_
 refine hK15 _ _ ?_
 refine wp_cond_true rfl ?_
 refine sk fun K17 hK17 => ?_
 refine dr (.agg #[(iI 0), Zn, Zn]) (ex_build (bmap0) (by kernel_rfl)) ?_
 refine df (fa_27_1 _ _) ?_
 refine dl (nagg_25 _) S11 1 ?_
 simp only [pq]
 refine df (fa_27_2 _ _) ?_
 refine dl (nagg_25 _) S11 1 ?_
 refine df (fa_27_0 _ _) ?_
 simp only [pq]
 refine dl (nagg_3 _) S11 1 ?_
 refine eqlF ?_
 refine df (fa_27_4 _ _) ?_
 simp only [pq]
 refine dl (nagg_25 _) S11 1 ?_
 refine dr (.agg #[(.slice x0 r.name.length y0), (.slice x1 r.key.length y1), bF, (.slice x3 r.value.length y3)]) (ex_build (bmap4 rfl rfl rfl rfl) (by kernel_rfl)) ?_
 refine stGives S11 rfl (fn2 (ent_94 _ _)) (txnWriteIs_spec _ _ _ _ nilX (⟨r.name, r.key, false, r.value⟩ : Wr) (⟨0, [], [(⟨r.name, r.key, false, r.value⟩ : Wr)]⟩ : Tx) (S11).sat (TxV.nil _) ⟨_, _, _, _, _, _, rfl, h0, h1, h3⟩ nilX_ok (wr_of ok (Or.inl ⟨hk, rfl⟩)) (write_one _)) ?_
 intro v23 w18 F20 S19 le21 R22
 obtain ⟨_, rfl, R24⟩ := R22
 obtain ⟨xa25, xc26, xa27, xc28, rfl, r29, r30⟩ := R24
 refine dx ?_
 iterate 2 refine de ?_
 simp only [pq]
 refine sA S19 (zero_141 _) fun n31 w32 S33 => ?_
 refine sW 0 S33 (size_141) fun w34 S35 => ?_
 refine dy ?_
 simp only [pq]
 refine wn hK17 ?_
 refine wp_seq_k (fun K36 hK36 => ?_)
 refine sk fun K37 hK37 => ?_
 refine dx ?_
 refine dr bF (ex_neq (m := (0 : Int)) (n := (0 : Int)) (b := false) rfl rfl (bne_eq_false_iff_eq.2 (rfl))) ?_
 refine wn hK37 ?_
 refine wp_cond_false rfl ?_
 refine wp_skip ?_
 refine hK36 _ _ ?_
 refine wp_seq_k (fun K38 hK38 => ?_)
 have hp : ((⟨0, [], [(⟨r.name, r.key, false, r.value⟩ : Wr)]⟩ : Tx).writes)[0]? = some (⟨r.name, r.key, false, r.value⟩ : Wr) := rfl
 obtain ⟨b39, o40, ha41, xa43, xc44, xa47, xc48, xa52, xc53, c42, c46, c50, c51, r45, r49, r54⟩ := Wrs.get r30 hp
 refine region_wl ?_
 refine df (fa_141_2 _ _) ?_
 refine dl (nagg_40 _) S35 0 ?_
 refine dr (pP b39 (o40 + 0 * 4)) (ex_at (i := 0) (sz := 4) Tryz.underlying40 (sizeof_39 _) rfl ha41 rfl (by show 0 < 1; omega) rfl) ?_
 simp only [pq]
 refine dr _ (ex_load rfl (loadM Tryz.underlying39 rfl (size_39) (range4 (St.fz S35 c42) (St.fz S35 c46) (St.fz S35 c50) (St.fz S35 c51)))) ?_
 refine sW 1 S35 (size_39) fun w55 S56 => ?_
 refine dy ?_
 simp only [pq]
 refine wl_nil (hK38 _ _ ?_)
 refine wp_ret ?_
 (try simp only [Exit.then, Exit.inBlock, ↓reduceIte, Nat.reduceEqDiff])
 refine bR (res_ct rfl ⟨_, rfl, lR S56 1 Tryz.underlying39 (size_39)⟩ (gD rfl)) ?_
 exact ⟨_, _, rfl, S56.gr, _, rfl, _, _, _, _, _, _, rfl, r45, r49, r54⟩
 refine region_wl ?_
 refine eqlF ?_
 refine dy ?_
 refine wl_nil (hK16 _ _ ?_)
 refine wp_cond_false rfl ?_
 refine region_wl ?_
 refine eqlT ?_
 refine dy ?_
 simp only [pq]
 refine wl_nil (hK15 _ _ ?_)
 refine wp_cond_true rfl ?_
 refine sk fun K57 hK57 => ?_
 refine dr (.agg #[(iI 0), Zn, Zn]) (ex_build (bmap0) (by kernel_rfl)) ?_
 refine df (fa_27_1 _ _) ?_
 refine dl (nagg_25 _) S11 1 ?_
 simp only [pq]
 refine df (fa_27_2 _ _) ?_
 refine dl (nagg_25 _) S11 1 ?_
 refine df (fa_27_0 _ _) ?_
 simp only [pq]
 refine dl (nagg_3 _) S11 1 ?_
 refine eqlT ?_
 refine df (fa_27_4 _ _) ?_
 simp only [pq]
 refine dl (nagg_25 _) S11 1 ?_
 refine dr (.agg #[(.slice x0 r.name.length y0), (.slice x1 r.key.length y1), bT, (.slice x3 r.value.length y3)]) (ex_build (bmap4 rfl rfl rfl rfl) (by kernel_rfl)) ?_
 refine stGives S11 rfl (fn2 (ent_94 _ _)) (txnWriteIs_spec _ _ _ _ nilX (⟨r.name, r.key, true, r.value⟩ : Wr) (⟨0, [], [(⟨r.name, r.key, true, r.value⟩ : Wr)]⟩ : Tx) (S11).sat (TxV.nil _) ⟨_, _, _, _, _, _, rfl, h0, h1, h3⟩ nilX_ok (wr_of ok (Or.inr ⟨hk, rfl⟩)) (write_one _)) ?_
 intro v63 w58 F60 S59 le61 R62
 obtain ⟨_, rfl, R64⟩ := R62
 obtain ⟨xa65, xc66, xa67, xc68, rfl, r69, r70⟩ := R64
 refine dx ?_
 iterate 2 refine de ?_
 simp only [pq]
 refine sA S59 (zero_141 _) fun n71 w72 S73 => ?_
 refine sW 0 S73 (size_141) fun w74 S75 => ?_
 refine dy ?_
 simp only [pq]
 refine wn hK57 ?_
 refine wp_seq_k (fun K76 hK76 => ?_)
 refine sk fun K77 hK77 => ?_
 refine dx ?_
 refine dr bF (ex_neq (m := (0 : Int)) (n := (0 : Int)) (b := false) rfl rfl (bne_eq_false_iff_eq.2 (rfl))) ?_
 refine wn hK77 ?_
 refine wp_cond_false rfl ?_
 refine wp_skip ?_
 refine hK76 _ _ ?_
 refine wp_seq_k (fun K78 hK78 => ?_)
 have hp : ((⟨0, [], [(⟨r.name, r.key, true, r.value⟩ : Wr)]⟩ : Tx).writes)[0]? = some (⟨r.name, r.key, true, r.value⟩ : Wr) := rfl
 obtain ⟨b79, o80, ha81, xa83, xc84, xa87, xc88, xa92, xc93, c82, c86, c90, c91, r85, r89, r94⟩ := Wrs.get r70 hp
 refine region_wl ?_
 refine df (fa_141_2 _ _) ?_
 refine dl (nagg_40 _) S75 0 ?_
 refine dr (pP b79 (o80 + 0 * 4)) (ex_at (i := 0) (sz := 4) Tryz.underlying40 (sizeof_39 _) rfl ha81 rfl (by show 0 < 1; omega) rfl) ?_
 simp only [pq]
 refine dr _ (ex_load rfl (loadM Tryz.underlying39 rfl (size_39) (range4 (St.fz S75 c82) (St.fz S75 c86) (St.fz S75 c90) (St.fz S75 c91)))) ?_
 refine sW 1 S75 (size_39) fun w95 S96 => ?_
 refine dy ?_
 simp only [pq]
 refine wl_nil (hK78 _ _ ?_)
 refine wp_ret ?_
 (try simp only [Exit.then, Exit.inBlock, ↓reduceIte, Nat.reduceEqDiff])
 refine bR (res_ct rfl ⟨_, rfl, lR S96 1 Tryz.underlying39 (size_39)⟩ (gD rfl)) ?_
 exact ⟨_, _, rfl, S96.gr, _, rfl, _, _, _, _, _, _, rfl, r85, r89, r94⟩
theorem ret_int {k : IntKind} {a b : Int} (h : a = b) : Ending.returned (.int k a) = .returned (.int k b) := by rw [h]
/-- What lines.Check tells of an act. -/
def actN (kind sess keep : Int) (n : Nat) : Int :=
  if kind < 1 ∨ 4 < kind then 5 else if (kind = 1 ∧ (sess < 0 ∨ 8 ≤ sess)) ∨ (kind = 3 ∧ (keep < 0 ∨ 200000 < keep)) then 2
  else if 4000 < n then 1 else if (kind ≠ 1 ∧ (sess ≠ 0 ∨ 0 < n)) ∨ (kind ≠ 3 ∧ keep ≠ 0) then 4 else 0
theorem actCheck_spec (w : World) (kind sess keep : Int) (a : Option Addr) (n c : Nat) (hn : n ≤ 9223372036854775807) :
    Calls Tryz.prog 51 #[.agg #[.int .i64 kind, .int .i64 sess, .int .i64 keep, .slice a n c]] w (Tells w (.int .i64 (actN kind sess keep n))) := by
 have HA : Hid (actN kind sess keep n = if kind < 1 ∨ 4 < kind then 5 else if (kind = 1 ∧ (sess < 0 ∨ 8 ≤ sess)) ∨ (kind = 3 ∧ (keep < 0 ∨ 200000 < keep)) then 2
  else if 4000 < n then 1 else if (kind ≠ 1 ∧ (sess ≠ 0 ∨ 0 < n)) ∨ (kind ≠ 3 ∧ keep ≠ 0) then 4 else 0) := rfl
 generalize actN kind sess keep n = r at *
 go_enter Tryz.func51, Tryz.ntmps51
 go_wp2_with fail
 all_goals
  go_ret
  refine ⟨?_, (Below.refl _ _).alloc (Nat.le_refl _) _⟩
  have h := HA.out
  clear HA
  try simp only [bne_iff_ne, ne_eq, bne_eq_false_iff_eq] at *
  refine ret_int (Eq.symm (h.trans ?_))
  first | rw [if_pos (by omega)] | rw [if_neg (by omega), if_pos (by omega)] | rw [if_neg (by omega), if_neg (by omega), if_pos (by omega)] | rw [if_neg (by omega), if_neg (by omega), if_neg (by omega), if_pos (by omega)] | rw [if_neg (by omega), if_neg (by omega), if_neg (by omega), if_neg (by omega)]
open Go.ChangeShapes Go.WideShapes Go.ChangeAt Go.RowKit
def roundsZ : List Int := [1, 32898, 9223372036854808714, 9223372039002292224, 32907, 2147483649, 9223372039002292353, 9223372036854808585, 138, 136, 2147516425, 2147483658, 2147516555, 9223372036854775947, 9223372036854808713, 9223372036854808579, 9223372036854808578, 9223372036854775936, 32778, 9223372039002259466, 9223372039002292353, 9223372036854808704, 2147483649, 9223372039002292232]
theorem gRounds : Tryz.prog.globalNamed "canopy/digest.rounds" = some 4 := by kernel_rfl
theorem gRoundsType : (Tryz.prog.globals[(4 : Nat)]?).map (·.type) = some 218 := by kernel_rfl
theorem gRoundsCells : Tryz.prog.cellsOf 218 = 24 := by kernel_rfl
theorem gRoundsOne : Tryz.prog.cellsOf 215 = 1 := by kernel_rfl
def goesZ : List Int := [10, 7, 11, 17, 18, 3, 5, 16, 8, 21, 24, 4, 15, 23, 19, 13, 12, 2, 20, 14, 22, 9, 6, 1]
theorem gGoes : Tryz.prog.globalNamed "canopy/digest.goes" = some 2 := by kernel_rfl
theorem gGoesType : (Tryz.prog.globals[(2 : Nat)]?).map (·.type) = some 235 := by kernel_rfl
theorem gGoesCells : Tryz.prog.cellsOf 235 = 24 := by kernel_rfl
theorem gGoesOne : Tryz.prog.cellsOf 3 = 1 := by kernel_rfl
def turnsZ : List Int := [1, 3, 6, 10, 15, 21, 28, 36, 45, 55, 2, 14, 27, 41, 56, 8, 25, 43, 62, 18, 39, 61, 20, 44]
theorem gTurns : Tryz.prog.globalNamed "canopy/digest.turns" = some 3 := by kernel_rfl
theorem gTurnsType : (Tryz.prog.globals[(3 : Nat)]?).map (·.type) = some 235 := by kernel_rfl
theorem gTurnsCells : Tryz.prog.cellsOf 235 = 24 := by kernel_rfl
theorem gTurnsOne : Tryz.prog.cellsOf 3 = 1 := by kernel_rfl
theorem goes_are : ∀ i, i < 24 → goesZ.getD i 0 = (goesN i : Int) := by decide +kernel
theorem turns_are : ∀ i, i < 24 → turnsZ.getD i 0 = (turnsN i : Int) := by decide +kernel
theorem rounds_are : ∀ i, i < 24 → roundsZ.getD i 0 = lane (roundB i) := by unfold lane; decide +kernel
theorem tab_at {W : World} {name : String} {k : IntKind} {zs : List Int} {g : Nat} (h : Lib.TabIs Tryz.prog W name k zs) (hg : Tryz.prog.globalNamed name = some g) {n : Nat} (hn : zs.length = n) {i : Nat} (hi : i < n) : W.cell? ⟨g, i, none⟩ = some (.int k (zs.getD i 0)) := by
 have hi' : i < zs.length := by omega
 have := h.cell hg i hi'
 exact this.trans (by simp [List.getD, hi'])
def setCells (cs : Array Value) : Obj → Obj
  | .cells _ t frozen => .cells cs t frozen
  | o => o
noncomputable def digWorld (os : Os) : World :=
  { World.holding Tryz.prog os ⟨#[], #[], []⟩ with heap := (((World.holding Tryz.prog os ⟨#[], #[], []⟩).heap.modify 4 (setCells #[.int .u64 1, .int .u64 32898, .int .u64 9223372036854808714, .int .u64 9223372039002292224, .int .u64 32907, .int .u64 2147483649, .int .u64 9223372039002292353, .int .u64 9223372036854808585, .int .u64 138, .int .u64 136, .int .u64 2147516425, .int .u64 2147483658, .int .u64 2147516555, .int .u64 9223372036854775947, .int .u64 9223372036854808713, .int .u64 9223372036854808579, .int .u64 9223372036854808578, .int .u64 9223372036854775936, .int .u64 32778, .int .u64 9223372039002259466, .int .u64 9223372039002292353, .int .u64 9223372036854808704, .int .u64 2147483649, .int .u64 9223372039002292232])).modify 2 (setCells #[.int .i64 10, .int .i64 7, .int .i64 11, .int .i64 17, .int .i64 18, .int .i64 3, .int .i64 5, .int .i64 16, .int .i64 8, .int .i64 21, .int .i64 24, .int .i64 4, .int .i64 15, .int .i64 23, .int .i64 19, .int .i64 13, .int .i64 12, .int .i64 2, .int .i64 20, .int .i64 14, .int .i64 22, .int .i64 9, .int .i64 6, .int .i64 1])).modify 3 (setCells #[.int .i64 1, .int .i64 3, .int .i64 6, .int .i64 10, .int .i64 15, .int .i64 21, .int .i64 28, .int .i64 36, .int .i64 45, .int .i64 55, .int .i64 2, .int .i64 14, .int .i64 27, .int .i64 41, .int .i64 56, .int .i64 8, .int .i64 25, .int .i64 43, .int .i64 62, .int .i64 18, .int .i64 39, .int .i64 61, .int .i64 20, .int .i64 44]) }
/-- A reply. -/
structure Rep where
  s : Nat
  code : Int
  turn : Int
  found : Bool
  value : By
  pairs : List Pr
  root : By
  outer : Prf
  inner : Prf
def nilP : Prf := ⟨false, [], ([], [])⟩
def repC (s : Nat) (e : Int) : Rep := ⟨s, e, 0, false, [], [], [], nilP, nilP⟩
def repT (s : Nat) (t : Int) : Rep := ⟨s, 0, t, false, [], [], [], nilP, nilP⟩
structure Eng where
  up : Bool
  tape : Tp
  commits : List Cm
  forests : List Forest
  synced : Nat
  txn : Nat → Option Tx
  waits : Nat → Bool
  waiting : List Nat
  replies : List Rep
def updN {α : Type} (f : Nat → α) (s : Nat) (x : α) : Nat → α := fun i => if i = s then x else f i
theorem updN_same {α : Type} (f : Nat → α) (s : Nat) (x : α) : updN f s x s = x := by simp [updN]
theorem updN_other {α : Type} (f : Nat → α) {s i : Nat} (h : i ≠ s) (x : α) : updN f s x i = f i := by simp [updN, h]
namespace Eng
def reply (g : Eng) (r : Rep) : Eng := { g with replies := g.replies ++ [r] }
def setTxn (g : Eng) (s : Nat) (t : Option Tx) : Eng := { g with txn := updN g.txn s t }
def forest (g : Eng) (k : Nat) : Forest := g.forests.getD k []
def prove (g : Eng) (s : Nat) (r : Rq) : Eng :=
  let f := g.forest g.synced
  g.reply ⟨s, 0, g.synced, (getF f r.name r.key).isSome, (getF f r.name r.key).getD [], [], rootF f, proveT (rootsF f) r.name, proveT (treeF f r.name) r.key⟩
def note (g : Eng) (s : Nat) (t : Tx) (r : Rd) (y : Rep) : Eng := match noteX t r with
  | none => g.reply (repC s 11)
  | some u => (g.setTxn s (some u)).reply y
def put (g : Eng) (s : Nat) (t : Tx) (w : Wr) : Eng := match writeX t w with
  | none => g.reply (repC s 11)
  | some u => (g.setTxn s (some u)).reply (repC s 0)
def look (g : Eng) (s : Nat) (t : Tx) (r : Rq) : Eng :=
  let o := lookX (g.forest t.start.toNat) t r.name r.key
  let y : Rep := ⟨s, 0, t.start, o.1.isSome, o.1.getD [], [], [], nilP, nilP⟩
  if o.2 then g.reply y else g.note s t ⟨r.name, r.key, false, r.last⟩ y
def scan (g : Eng) (s : Nat) (t : Tx) (r : Rq) : Eng := match scanX (g.forest t.start.toNat) t r.name r.key r.last with
  | none => g.reply (repC s 11)
  | some l => g.note s t ⟨r.name, r.key, true, r.last⟩ ⟨s, 0, t.start, false, [], l, [], nilP, nilP⟩
def stand (g : Eng) (s : Nat) (t : Tx) (f : Forest) : Eng := { g with
  tape := ⟨g.tape.data ++ frameB ⟨g.commits.length + 1, t.writes⟩, g.tape.synced⟩
  commits := g.commits ++ [⟨g.commits.length + 1, t.writes⟩]
  forests := g.forests ++ [f]
  txn := updN g.txn s none
  waits := updN g.waits s true
  waiting := g.waiting ++ [s] }
def commit (g : Eng) (s : Nat) (t : Tx) : Eng :=
  if t.writes = [] then (g.setTxn s none).reply (repT s t.start)
  else if g.commits.length - g.synced = 6 ∨ g.commits.length = 300 then g.reply (repC s 11)
  else if clashX t.start t.reads g.commits then (g.setTxn s none).reply (repC s 9)
  else match applyF (g.forest g.commits.length) t.writes with
    | none => (g.setTxn s none).reply (repC s 11)
    | some f => g.stand s t f
def work (g : Eng) (s : Nat) (t : Tx) (k : Nat) (r : Rq) : Eng :=
  if k = 2 then g.look s t r else if k = 3 then g.scan s t r else if k = 6 then g.commit s t
  else g.put s t ⟨r.name, r.key, k == 5, r.value⟩
def keptB (n : Nat) (t : Int) : Bool := decide (0 ≤ t) && decide (t ≤ n) && decide (n - t < 6)
/-- A request that is one, of a server that is up. -/
def req (g : Eng) (s : Nat) (k : Nat) (r : Rq) : Eng :=
  if k = 8 then g.prove s r
  else if g.waits s then g.reply (repC s 6)
  else match g.txn s with
    | none => if k = 1 then (g.setTxn s (some ⟨g.synced, [], []⟩)).reply (repT s g.synced) else g.reply (repC s 6)
    | some t => if k = 1 then g.reply (repC s 6)
      else if k = 7 then (g.setTxn s none).reply (repC s 0)
      else if keptB g.synced t.start then g.work s t k r
      else (g.setTxn s none).reply (repC s 10)
def ask (g : Eng) (s : Nat) (b : By) : Eng :=
  if g.up then (if wdE b = 0 then g.req s (wdR b).1 (wdR b).2 else g.reply (repC s (wdE b))) else g.reply (repC s 13)
def told : List Nat → Eng → Eng
  | [], g => g
  | s :: l, g => told l { g with synced := g.synced + 1, waits := updN g.waits s false, replies := g.replies ++ [repT s (g.synced + 1 : Nat)] }
def sync (g : Eng) : Eng := if g.up then { told g.waiting { g with tape := ⟨g.tape.data, g.tape.data.length⟩ } with waiting := [] } else g
def crash (g : Eng) (k : Nat) : Eng := if g.up then
    let n := crashN g.tape k
    let x := recT (g.tape.data.take n)
    { g with up := false, tape := ⟨(g.tape.data.take n).take x.2, min n x.2⟩, commits := x.1, forests := g.forests.take (x.1.length + 1), synced := x.1.length, txn := fun _ => none, waits := fun _ => false, waiting := [] }
  else g
def start (g : Eng) : Eng := { g with up := true }
end Eng
inductive Ac where
  | ask (s : Nat) (b : By)
  | sync
  | crash (k : Nat)
  | start
def Eng.act (g : Eng) : Ac → Eng
  | .ask s b => g.ask s b
  | .sync => g.sync
  | .crash k => g.crash k
  | .start => g.start
def eng0 : Eng := ⟨true, ⟨[], 0⟩, [], [[]], 0, fun _ => none, fun _ => false, [], []⟩
def runE (l : List Ac) : Eng := l.foldl Eng.act eng0
theorem runE_append (a b : List Ac) : runE (a ++ b) = b.foldl Eng.act (runE a) := List.foldl_append
def AcOk : Ac → Prop
  | .ask s b => s < 8 ∧ b.length ≤ 4000
  | .crash k => k ≤ 100000
  | _ => True
/-- An act that may make a commit. -/
def isC : Ac → Bool
  | .ask _ b => wdE b == 0 && (wdR b).1 == 6
  | _ => false
/-- What holds of a server. -/
structure EngOk (m : Nat) (g : Eng) : Prop where
  hist : HistOk (sizeC g.commits) g.commits
  many : g.commits.length ≤ m
  states : g.forests.length = g.commits.length + 1
  state : ∀ k, k ≤ g.commits.length → g.forest k = stateC g.commits k
  ok : ∀ k, k ≤ g.commits.length → ForestOk 60 (stateC g.commits k)
  data : g.tape.data = tapeB g.commits
  safe : g.tape.synced = (tapeB (g.commits.take g.synced)).length
  sync : g.commits.length = g.synced + g.waiting.length
  six : g.waiting.length ≤ 6
  txns : ∀ s t, g.txn s = some t → TxOk t ∧ t.start ≤ g.synced
  who : ∀ s ∈ g.waiting, s < 8
theorem EngOk.mono {m n : Nat} {g : Eng} (h : EngOk m g) (hn : m ≤ n) : EngOk n g := { h with many := Nat.le_trans h.many hn }
theorem EngOk.reply {m : Nat} {g : Eng} (h : EngOk m g) (r : Rep) : EngOk m (g.reply r) := ⟨h.hist, h.many, h.states, h.state, h.ok, h.data, h.safe, h.sync, h.six, h.txns, h.who⟩
theorem EngOk.setTxn {m : Nat} {g : Eng} (h : EngOk m g) (s : Nat) {t : Option Tx} (ht : ∀ u, t = some u → TxOk u ∧ u.start ≤ g.synced) : EngOk m (g.setTxn s t) := by
 refine ⟨h.hist, h.many, h.states, h.state, h.ok, h.data, h.safe, h.sync, h.six, fun i u hu => ?_, h.who⟩
 by_cases e : i = s
 subst e
 simp only [Eng.setTxn, updN_same] at hu
 exact ht u hu
 simp only [Eng.setTxn, updN_other _ e] at hu
 exact h.txns i u hu
theorem EngOk.setNone {m : Nat} {g : Eng} (h : EngOk m g) (s : Nat) : EngOk m (g.setTxn s none) := h.setTxn s (fun u hu => by cases hu)
theorem EngOk.note {m : Nat} {g : Eng} (h : EngOk m g) {s : Nat} {t : Tx} (ht : TxOk t ∧ t.start ≤ g.synced) {r : Rd} (hr : RdOk r) (y : Rep) : EngOk m (g.note s t r y) := by
 unfold Eng.note
 cases e : noteX t r with
 | none => exact h.reply _
 | some u =>
  refine (h.setTxn s (fun v hv => ?_)).reply _
  cases hv
  exact ⟨noteX_ok ht.1 hr e, by rw [(noteX_len e).2.2]; exact ht.2⟩
theorem EngOk.put {m : Nat} {g : Eng} (h : EngOk m g) {s : Nat} {t : Tx} (ht : TxOk t ∧ t.start ≤ g.synced) {w : Wr} (hw : WrOk w) : EngOk m (g.put s t w) := by
 unfold Eng.put
 cases e : writeX t w with
 | none => exact h.reply _
 | some u =>
  refine (h.setTxn s (fun v hv => ?_)).reply _
  cases hv
  exact ⟨writeX_ok ht.1 hw e, by rw [(writeX_len e).2.2.1]; exact ht.2⟩
theorem wr_len {t : Tx} (ht : TxOk t) (h : t.writes ≠ []) : 1 ≤ t.writes.length := by
 cases e : t.writes with
 | nil => exact absurd e h
 | cons a l => simp
theorem EngOk.commit {m : Nat} {g : Eng} (h : EngOk m g) (hm : m ≤ 1000) {s : Nat} (hs : s < 8) {t : Tx} (ht : TxOk t ∧ t.start ≤ g.synced) : EngOk (m + 1) (g.commit s t) := by
 have h1 := h.mono (Nat.le_succ m)
 unfold Eng.commit
 split
 exact (h1.setNone s).reply _
 split
 exact h1.reply _
 split
 exact (h1.setNone s).reply _
 rename_i hw hq hc
 cases e : applyF (g.forest g.commits.length) t.writes with
 | none => exact (h1.setNone s).reply _
 | some f =>
  have hn := h.many
  have hy := h.sync
  simp only
  rw [h.state _ (Nat.le_refl _)] at e
  have hk := h.hist.snoc ht.1.writes (wr_len ht.1 hw) ht.1.nw (Nat.le_refl _) (by omega) e
  have hsz : sizeC (g.commits ++ [⟨g.commits.length + 1, t.writes⟩]) = sizeC g.commits + t.writes.length := by simp [sizeC_append, sizeC]
  have hof : ForestOk 60 f := by
   have := applyR_ok ht.1.writes (f := stateC g.commits g.commits.length)
   rw [e] at this
   have h2 := applyR_ok60 (h.ok _ (Nat.le_refl _)) (ws := t.writes) (by rw [this])
   rw [this] at h2
   exact h2
  have hst : ∀ k, k ≤ g.commits.length → stateC (g.commits ++ [⟨g.commits.length + 1, t.writes⟩]) k = stateC g.commits k := fun k hk => by
   unfold stateC; rw [List.take_append_of_le_length hk]
  unfold Eng.stand
  refine ⟨by rw [hsz]; exact hk.1, by simp; omega, by simp [h.states], fun k hk' => ?_, fun k hk' => ?_, ?_, ?_, ?_, ?_, fun i u hu => ?_, fun i hi => ?_⟩
  simp only [List.length_append, List.length_singleton] at hk'
  by_cases ek : k = g.commits.length + 1
  subst ek
  simp only [hk.2]
  unfold Eng.forest
  simp [List.getD, h.states]
  simp only [hst k (by omega)]
  rw [← h.state k (by omega)]
  unfold Eng.forest
  simp only [List.getD]
  rw [List.getElem?_append_left (by rw [h.states]; omega)]
  simp only [List.length_append, List.length_singleton] at hk'
  by_cases ek : k = g.commits.length + 1
  subst ek; simp only [hk.2]; exact hof
  simp only [hst k (by omega)]; exact h.ok k (by omega)
  simp only [tapeB_append, h.data]
  simp [tapeB]
  simp only
  rw [List.take_append_of_le_length (by omega)]
  exact h.safe
  simp; omega
  have := h.six
  simp only [not_or] at hq
  simp; omega
  simp only at hu
  by_cases ei : i = s
  subst ei; rw [updN_same] at hu; cases hu
  rw [updN_other _ ei] at hu; exact h.txns i u hu
  simp only [List.mem_append, List.mem_singleton] at hi
  rcases hi with hi | rfl
  exact h.who i hi
  exact hs
def tellsR : List Nat → Nat → List Rep
  | [], _ => []
  | s :: l, n => repT s ((n + 1 : Nat) : Int) :: tellsR l (n + 1)
theorem told_is : ∀ (l : List Nat) (g : Eng), Eng.told l g = { g with synced := g.synced + l.length, waits := fun i => if i ∈ l then false else g.waits i, replies := g.replies ++ tellsR l g.synced }
  | [], g => by simp [Eng.told, tellsR]
  | s :: l, g => by
    rw [Eng.told, told_is l]
    simp only [tellsR, List.length_cons, List.append_assoc, List.singleton_append, Eng.mk.injEq, true_and, and_true]
    refine ⟨by omega, ?_⟩
    funext i
    by_cases e : i = s
    · subst e; simp [updN]
    · simp [updN, e]
theorem sync_is {g : Eng} (h : g.up = true) : g.sync = { g with tape := ⟨g.tape.data, g.tape.data.length⟩, synced := g.synced + g.waiting.length, waits := fun i => if i ∈ g.waiting then false else g.waits i, waiting := [], replies := g.replies ++ tellsR g.waiting g.synced } := by
 unfold Eng.sync
 rw [if_pos h, told_is]
theorem EngOk.syncs {m : Nat} {g : Eng} (h : EngOk m g) : EngOk m g.sync := by
 cases hu : g.up with
 | false => unfold Eng.sync; rw [hu]; exact h
 | true =>
  rw [sync_is hu]
  have := h.sync
  exact ⟨h.hist, h.many, h.states, h.state, h.ok, h.data, by simp only; rw [h.data, List.take_of_length_le (by omega)], by simp; omega, by simp, fun s t ht => ⟨(h.txns s t ht).1, by have := (h.txns s t ht).2; simp only; omega⟩, by simp⟩
theorem HistOk.own {m : Nat} {cs : List Cm} (h : HistOk m cs) : HistOk (sizeC cs) cs := { h with size := Nat.le_refl _ }
theorem crashN_le {t : Tp} (h : t.synced ≤ t.data.length) (k : Nat) : t.synced ≤ crashN t k ∧ crashN t k ≤ t.data.length := by unfold crashN; omega
theorem take_wholeP {cs : List Cm} (hok : ∀ c ∈ cs, CmOk c) {n : Nat} (hn : n ≤ (tapeB cs).length) : ((tapeB cs).take n).take (tapeB (cs.take (wholeN cs n))).length = tapeB (cs.take (wholeN cs n)) := by
 obtain ⟨t, h1, _⟩ := take_tape cs n 0 hok hn
 rw [h1, List.take_left' rfl]
theorem EngOk.syn {m : Nat} {g : Eng} (h : EngOk m g) : g.tape.synced ≤ g.tape.data.length := by
 rw [h.safe, h.data]
 have e : tapeB g.commits = tapeB (g.commits.take g.synced) ++ tapeB (g.commits.drop g.synced) := by rw [← tapeB_append, List.take_append_drop]
 rw [e, List.length_append]; omega
/-- What is left behind a crash: so many commits. -/
def Eng.left (g : Eng) (k : Nat) : Nat := wholeN g.commits (crashN g.tape k)
theorem crash_is {m : Nat} {g : Eng} (h : EngOk m g) (hu : g.up = true) (k : Nat) : g.crash k = { g with up := false, tape := ⟨tapeB (g.commits.take (g.left k)), (tapeB (g.commits.take (g.left k))).length⟩, commits := g.commits.take (g.left k), forests := g.forests.take (g.left k + 1), synced := g.left k, txn := fun _ => none, waits := fun _ => false, waiting := [] } := by
 have hn := (crashN_le h.syn k).2
 have hr := rec_tape h.hist (n := crashN g.tape k) (by rw [← h.data]; exact hn)
 have ht := take_wholeP h.hist.ok (n := crashN g.tape k) (by rw [← h.data]; exact hn)
 have hw := whole_len g.commits (crashN g.tape k)
 have hl := wholeN_le g.commits (crashN g.tape k)
 unfold Eng.crash
 rw [if_pos hu]
 simp only
 rw [show g.tape.data.take (crashN g.tape k) = (tapeB g.commits).take (crashN g.tape k) from by rw [h.data], hr]
 simp only [ht]
 have e : (g.commits.take (wholeN g.commits (crashN g.tape k))).length = wholeN g.commits (crashN g.tape k) := by rw [List.length_take]; omega
 rw [e, Nat.min_eq_right hw]
 rfl
theorem EngOk.left_le {m : Nat} {g : Eng} (h : EngOk m g) (k : Nat) : g.synced ≤ g.left k ∧ g.left k ≤ g.commits.length := by
 refine ⟨whole_ge _ _ _ (by have := h.sync; omega) ?_, wholeN_le _ _⟩
 rw [← h.safe]; exact (crashN_le h.syn k).1
theorem EngOk.crashs {m : Nat} {g : Eng} (h : EngOk m g) (k : Nat) : EngOk m (g.crash k) := by
 cases hu : g.up with
 | false => unfold Eng.crash; rw [hu]; exact h
 | true =>
  rw [crash_is h hu]
  have hl := (h.left_le k).2
  have hn := h.many
  have hs := h.states
  have e : (g.commits.take (g.left k)).length = g.left k := by rw [List.length_take]; omega
  refine ⟨(h.hist.take _).own, by simp only; omega, by simp only; rw [e, List.length_take]; omega, fun j hj => ?_, fun j hj => ?_, rfl, by simp only; rw [List.take_take, Nat.min_self], by simp [e], by simp, fun s t ht => (by cases ht), by simp⟩
  simp only [e] at hj ⊢
  rw [state_take hj, ← h.state j (by omega)]
  unfold Eng.forest
  simp only [List.getD, List.getElem?_take]
  rw [if_pos (by omega)]
  simp only [e] at hj ⊢
  rw [state_take hj]; exact h.ok j (by omega)
theorem EngOk.starts {m : Nat} {g : Eng} (h : EngOk m g) : EngOk m g.start := ⟨h.hist, h.many, h.states, h.state, h.ok, h.data, h.safe, h.sync, h.six, h.txns, h.who⟩
theorem rqd_ok {k : Nat} {r : Rq} (ok : RqOk k r) (hk : k = 2 ∨ k = 3) : RdOk ⟨r.name, r.key, k == 3, r.last⟩ := by
 obtain ⟨a1, a2, a3, a4, a5, a6, a7, a8⟩ := parts_ok (h := hasN k) ok.fits
 rcases hk with rfl | rfl
 ·exact ⟨a1 rfl, a2 rfl, List.eq_nil_of_length_eq_zero (a7 rfl)⟩
 ·exact ⟨a1 rfl, a2 rfl, a3 rfl⟩
theorem rqw_ok {k : Nat} {r : Rq} (ok : RqOk k r) (hk : k = 4 ∨ k = 5) : WrOk ⟨r.name, r.key, k == 5, r.value⟩ := by
 obtain ⟨a1, a2, a3, a4, a5, a6, a7, a8⟩ := parts_ok (h := hasN k) ok.fits
 rcases hk with rfl | rfl
 ·exact ⟨a1 rfl, (a2 rfl).1, (a2 rfl).2, a4, fun h => by cases h⟩
 ·exact ⟨a1 rfl, (a2 rfl).1, (a2 rfl).2, a4, fun _ => List.eq_nil_of_length_eq_zero (a8 rfl)⟩
theorem EngOk.req {m : Nat} {g : Eng} (h : EngOk m g) (hm : m ≤ 1000) {s : Nat} (hs : s < 8) {k : Nat} {r : Rq} (ok : RqOk k r) : EngOk (m + if k = 6 then 1 else 0) (g.req s k r) := by
 obtain ⟨c, hc⟩ : ∃ c, c = if k = 6 then 1 else 0 := ⟨_, rfl⟩
 rw [← hc]
 have h1 := h.mono (Nat.le_add_right m c)
 have hk := ok.kind
 unfold Eng.req
 split
 exact h1.reply _
 split
 exact h1.reply _
 split
 split
 refine (h1.setTxn s (fun u hu => ?_)).reply _
 cases hu
 have hy := h.sync
 have hn := h.many
 exact ⟨⟨by simp; omega, by simp, by simp, by simp, by simp, by simp, by simp⟩, by simp⟩
 exact h1.reply _
 rename_i t ht
 have htx := h.txns s t ht
 split
 exact h1.reply _
 split
 exact (h1.setNone s).reply _
 split
 unfold Eng.work
 split
 rename_i e
 subst e
 unfold Eng.look
 simp only
 split
 exact h1.reply _
 exact h1.note htx (rqd_ok ok (.inl rfl)) _
 split
 rename_i e
 subst e
 unfold Eng.scan
 split
 exact h1.reply _
 exact h1.note htx (rqd_ok ok (.inr rfl)) _
 split
 rename_i e
 rw [hc, if_pos e]
 exact h.commit hm hs htx
 refine h1.put htx (rqw_ok ok (by omega))
 exact (h1.setNone s).reply _
theorem EngOk.act {m : Nat} {g : Eng} (h : EngOk m g) (hm : m ≤ 1000) {a : Ac} (ha : AcOk a) : EngOk (m + if isC a then 1 else 0) (g.act a) := by
 cases a with
 | ask s b =>
  obtain ⟨c, hc⟩ : ∃ c, c = if isC (.ask s b) then 1 else 0 := ⟨_, rfl⟩
  rw [← hc]
  unfold Eng.act Eng.ask
  simp only
  have h1 := h.mono (Nat.le_add_right m c)
  split
  split
  rename_i e
  have := h.req hm ha.1 (wd_fixed e).1
  refine this.mono ?_
  rw [hc]
  unfold isC
  simp only [e, beq_self_eq_true, Bool.true_and, beq_iff_eq]
  exact Nat.le_refl _
  exact h1.reply _
  exact h1.reply _
 | sync => exact h.syncs
 | crash k => exact h.crashs k
 | start => exact h.starts
theorem eng0_ok : EngOk 0 eng0 := by
 refine ⟨HistOk.nil _, by simp [eng0], by simp [eng0], fun k hk => ?_, fun k hk => ?_, rfl, rfl, rfl, by simp [eng0], fun s t h => (by cases h), by simp [eng0]⟩
 have : k = 0 := by simpa [eng0] using hk
 subst this; rfl
 have : k = 0 := by simpa [eng0] using hk
 subst this; exact ForestOk.nil _
def countC (l : List Ac) : Nat := (l.map fun a => if isC a then 1 else 0).sum
theorem EngOk.run : ∀ (l : List Ac) {m : Nat} {g : Eng}, EngOk m g → m + countC l ≤ 1000 → (∀ a ∈ l, AcOk a) → EngOk (m + countC l) (l.foldl Eng.act g)
  | [], m, g, h, _, _ => h
  | a :: l, m, g, h, hm, ha => by
    have e : countC (a :: l) = (if isC a then 1 else 0) + countC l := by simp [countC]
    rw [e] at hm ⊢
    rw [List.foldl_cons, ← Nat.add_assoc]
    exact EngOk.run l (h.act (by omega) (ha a (by simp))) (by omega) (fun x hx => ha x (by simp [hx]))
theorem run_ok {l : List Ac} (hl : countC l ≤ 1000) (ha : ∀ a ∈ l, AcOk a) : EngOk (countC l) (runE l) := by
 have := EngOk.run l eng0_ok (by omega) ha
 rwa [Nat.zero_add] at this
open Go.RowKit
set_option maxRecDepth 100000
set_option linter.unusedVariables false
set_option linter.unusedSimpArgs false
/-- A transaction in a box, or none. -/
def TxB (F : Fz) (v : Value) : Option Tx → Prop
  | none => v = .pointer none
  | some t => ∃ b x0 y0 x1 y1, v = .pointer (some ⟨b, 0, none⟩) ∧ cellF F b 0 = some (.int .i64 t.start) ∧ cellF F b 1 = some (.slice x0 t.reads.length y0) ∧ cellF F b 2 = some (.slice x1 t.writes.length y1) ∧ Rds F (.slice x0 t.reads.length y0) t.reads ∧ Wrs F (.slice x1 t.writes.length y1) t.writes
theorem TxB.mono {F F' : Fz} {v : Value} {t : Option Tx} (h : TxB F v t) (hl : Le F F') : TxB F' v t := by
 cases t with
 | none => exact h
 | some t =>
  obtain ⟨b, x0, y0, x1, y1, h0, h1, h2, h3, h4, h5⟩ := h
  exact ⟨b, x0, y0, x1, y1, h0, hl.cell h1, hl.cell h2, hl.cell h3, h4.mono hl, h5.mono hl⟩
theorem TxB.oneCell {F : Fz} {v : Value} {t : Option Tx} (h : TxB F v t) : v.oneCell' = true := by
 cases t with
 | none => rw [show v = .pointer none from h]; rfl
 | some t => obtain ⟨b, x0, y0, x1, y1, rfl, _⟩ := h; rfl
/-- A reply's cells. -/
def RpC (F : Fz) (cs : List Value) (r : Rep) : Prop := ∃ v p q a1 a2 a3 b1 b2 b3, cs = [.int .i64 ((r.s : Nat) : Int), .int .i64 r.code, .int .i64 r.turn, .bool r.found, v, p, q, .bool r.outer.empty, a1, a2, a3, .bool r.inner.empty, b1, b2, b3] ∧
  Bs F v r.value ∧ Prs F p r.pairs ∧ Bs F q r.root ∧ Stps F a1 r.outer.steps ∧ Bs F a2 r.outer.pair.1 ∧ Bs F a3 r.outer.pair.2 ∧ Stps F b1 r.inner.steps ∧ Bs F b2 r.inner.pair.1 ∧ Bs F b3 r.inner.pair.2
theorem RpC.mono (F F' : Fz) (x : List Value) (p : Rep) (hl : Le F F') (h : RpC F x p) : RpC F' x p := by
 obtain ⟨v, u, q, a1, a2, a3, b1, b2, b3, e, h1, h2, h3, h4, h5, h6, h7, h8, h9⟩ := h
 exact ⟨v, u, q, a1, a2, a3, b1, b2, b3, e, h1.mono hl, h2.mono hl, h3.mono hl, h4.mono hl, h5.mono hl, h6.mono hl, h7.mono hl, h8.mono hl, h9.mono hl⟩
theorem RpC.oneCell {F : Fz} {cs : List Value} {p : Rep} (h : RpC F cs p) : ∀ u ∈ cs, u.oneCell' = true := by
 obtain ⟨v, u, q, a1, a2, a3, b1, b2, b3, rfl, h1, h2, h3, h4, h5, h6, h7, h8, h9⟩ := h
 intro x hx
 simp only [List.mem_cons, List.not_mem_nil, or_false] at hx
 rcases hx with rfl | rfl | rfl | rfl | rfl | rfl | rfl | rfl | rfl | rfl | rfl | rfl | rfl | rfl | rfl
 all_goals first | rfl | exact h1.oneCell | exact h2.oneCell | exact h3.oneCell | exact h4.oneCell | exact h5.oneCell | exact h6.oneCell | exact h7.oneCell | exact h8.oneCell | exact h9.oneCell
theorem RpC.len {F : Fz} {cs : List Value} {p : Rep} (h : RpC F cs p) : cs.length = 15 := by
 obtain ⟨v, u, q, a1, a2, a3, b1, b2, b3, rfl, _⟩ := h; rfl
abbrev Rps (F : Fz) (v : Value) (l : List Rep) : Prop := Sl 15 RpC F v l
/-- A forest as an element. -/
def FoC (F : Fz) (cs : List Value) (f : Forest) : Prop := ∃ v, cs = [v] ∧ Tns F v f
theorem FoC.mono (F F' : Fz) (x : List Value) (p : Forest) (hl : Le F F') (h : FoC F x p) : FoC F' x p := by
 obtain ⟨v, e, h⟩ := h; exact ⟨v, e, Tns.mono h hl⟩
theorem FoC.oneCell {F : Fz} {cs : List Value} {p : Forest} (h : FoC F cs p) : ∀ u ∈ cs, u.oneCell' = true := by
 obtain ⟨v, rfl, h⟩ := h
 intro u hu; rw [List.mem_singleton.1 hu]; exact Tns.oneCell h
/-- A number as an element. -/
def NtC (F : Fz) (cs : List Value) (n : Nat) : Prop := cs = [.int .i64 ((n : Nat) : Int)]
theorem NtC.mono (F F' : Fz) (x : List Value) (p : Nat) (hl : Le F F') (h : NtC F x p) : NtC F' x p := h
theorem NtC.oneCell {F : Fz} {cs : List Value} {p : Nat} (h : NtC F cs p) : ∀ u ∈ cs, u.oneCell' = true := by
 rw [show cs = _ from h]; intro u hu; rw [List.mem_singleton.1 hu]; rfl
/-- The engine's cells. -/
def engC (up : Bool) (td : Value) (ts : Nat) (vc vf : Value) (sy : Nat) (pv : Nat → Value) (wv : Nat → Bool) (vw vr : Value) : List Value :=
  [.bool up, td, .int .i64 ((ts : Nat) : Int), vc, vf, .int .i64 ((sy : Nat) : Int), pv 0, .bool (wv 0), pv 1, .bool (wv 1), pv 2, .bool (wv 2), pv 3, .bool (wv 3), pv 4, .bool (wv 4), pv 5, .bool (wv 5), pv 6, .bool (wv 6), pv 7, .bool (wv 7), vw, vr]
section
variable {up : Bool} {td : Value} {ts : Nat} {vc vf : Value} {sy : Nat} {pv : Nat → Value} {wv : Nat → Bool} {vw vr : Value} {s : Nat}
theorem lt8 (hs : s < 8) : s = 0 ∨ s = 1 ∨ s = 2 ∨ s = 3 ∨ s = 4 ∨ s = 5 ∨ s = 6 ∨ s = 7 := by omega
theorem engC_txn (hs : s < 8) : (engC up td ts vc vf sy pv wv vw vr)[6 + s * 2]? = some (pv s) := by
 rcases lt8 hs with rfl | rfl | rfl | rfl | rfl | rfl | rfl | rfl <;> rfl
theorem engC_waits (hs : s < 8) : (engC up td ts vc vf sy pv wv vw vr)[6 + s * 2 + 1]? = some (.bool (wv s)) := by
 rcases lt8 hs with rfl | rfl | rfl | rfl | rfl | rfl | rfl | rfl <;> rfl
theorem engC_len : (engC up td ts vc vf sy pv wv vw vr).length = 24 := rfl
theorem setTxn_c (hs : s < 8) (x : Value) : splice (engC up td ts vc vf sy pv wv vw vr) (6 + s * 2) [x] = engC up td ts vc vf sy (updN pv s x) wv vw vr := by
 rcases lt8 hs with rfl | rfl | rfl | rfl | rfl | rfl | rfl | rfl <;> rfl
theorem setWaits_c (hs : s < 8) (b : Bool) : splice (engC up td ts vc vf sy pv wv vw vr) (6 + s * 2 + 1) [.bool b] = engC up td ts vc vf sy pv (updN wv s b) vw vr := by
 rcases lt8 hs with rfl | rfl | rfl | rfl | rfl | rfl | rfl | rfl <;> rfl
end
/-- .. and its rows. -/
abbrev engR (b : Nat) (vc : Value) (cs : List Cm) (vf : Value) (fs : List Forest) (vw : Value) (ws : List Nat) (vr : Value) (rs : List Rep) : List RowP :=
  [ownP 2 CmC CmC.mono 168 b vc cs, ownP 1 FoC FoC.mono 24 b vf fs, ownP 1 NtC NtC.mono 3 b vw ws, ownP 15 RpC RpC.mono 54 b vr rs]
/-- The engine, as it lies in the memory of a run. -/
def EngM (w0 : World) (F0 : Fz) (w : World) (F : Fz) (n : Nat) (g : Eng) (L : List Blk) : Prop := ∃ ad cd ac cc af cf aw cw ar cr pv,
  St w0 F0 w F (⟨n, engC g.up (.slice ad g.tape.data.length cd) g.tape.synced (.slice ac g.commits.length cc) (.slice af g.forests.length cf) g.synced pv g.waits (.slice aw g.waiting.length cw) (.slice ar g.replies.length cr), 115⟩ :: L) (engR w0.heap.size (.slice ac g.commits.length cc) g.commits (.slice af g.forests.length cf) g.forests (.slice aw g.waiting.length cw) g.waiting (.slice ar g.replies.length cr) g.replies) ∧
  Bs F (.slice ad g.tape.data.length cd) g.tape.data ∧ ∀ s, s < 8 → TxB F (pv s) (g.txn s)
section
variable {w0 w w' : World} {F0 F F' : Fz} {n : Nat} {g : Eng} {L L' : List Blk} {M : List RowP}
theorem EngM.drop (h : EngM w0 F0 w F n g L) (hs : L'.Sublist L) : EngM w0 F0 w F n g L' := by
 obtain ⟨ad, cd, ac, cc, af, cf, aw, cw, ar, cr, pv, S, h1, h2⟩ := h
 exact ⟨ad, cd, ac, cc, af, cf, aw, cw, ar, cr, pv, S.drop (hs.cons_cons _), h1, h2⟩
theorem EngM.gives (h : EngM w0 F0 w F n g L) (k : Gr w F w' F') : EngM w0 F0 w' F' n g L := by
 obtain ⟨ad, cd, ac, cc, af, cf, aw, cw, ar, cr, pv, S, h1, h2⟩ := h
 have hl := k.le' S.sat
 exact ⟨ad, cd, ac, cc, af, cf, aw, cw, ar, cr, pv, S.gives k, h1.mono hl, fun s hs => (h2 s hs).mono hl⟩
theorem EngM.sat (h : EngM w0 F0 w F n g L) : Sat w F := by obtain ⟨ad, cd, ac, cc, af, cf, aw, cw, ar, cr, pv, S, _⟩ := h; exact S.sat
theorem EngM.below (h : EngM w0 F0 w F n g L) : Below w0.heap.size w0 w := by obtain ⟨ad, cd, ac, cc, af, cf, aw, cw, ar, cr, pv, S, _⟩ := h; exact S.gr.below
theorem St.perm (S : St w0 F0 w F L M) (h : L.Perm L') : St w0 F0 w F L' M := ⟨S.gr, fun x hx => S.blk x (h.mem_iff.2 hx), S.row, (h.pairwise_iff (fun hne => Ne.symm hne)).1 S.bb, fun r hr x hx => S.rb r hr x (h.mem_iff.2 hx), S.rr⟩
end
/-- What a method of the engine leaves. -/
def EngP (w0 : World) (F0 F : Fz) (n : Nat) (g : Eng) (L : List Blk) (e : Ending) (w' : World) : Prop := e = .returned (.tuple #[]) ∧ ∃ F', Le F F' ∧ EngM w0 F0 w' F' n g L
theorem TxB_upd {F : Fz} {pv : Nat → Value} {tx : Nat → Option Tx} (h : ∀ i, i < 8 → TxB F (pv i) (tx i)) {x : Value} {t : Option Tx} (hx : TxB F x t) (s : Nat) : ∀ i, i < 8 → TxB F (updN pv s x i) (updN tx s t i) := by
 intro i hi
 by_cases e : i = s
 ·subst e; rw [updN_same, updN_same]; exact hx
 ·rw [updN_other _ e, updN_other _ e]; exact h i hi
theorem TxB_mono {F F' : Fz} {pv : Nat → Value} {tx : Nat → Option Tx} (h : ∀ i, i < 8 → TxB F (pv i) (tx i)) (hl : Le F F') : ∀ i, i < 8 → TxB F' (pv i) (tx i) := fun i hi => (h i hi).mono hl
theorem rangeF {w : World} {F : Fz} {n : Nat} {c : List Value} (hs : Sat w F) (h : ∀ (j : Nat) v, c[j]? = some v → cellF F n j = some v) : w.rangeAt n 0 c := fun k v hk => by rw [Nat.zero_add]; exact hs.cell (h k v hk)
theorem Le.cells {F F' : Fz} {n : Nat} {c : List Value} (hl : Le F F') (h : ∀ (j : Nat) v, c[j]? = some v → cellF F n j = some v) : ∀ (j : Nat) v, c[j]? = some v → cellF F' n j = some v := fun j v hv => hl.cell (h j v hv)
theorem ex_neqP {P : Program} {ρ : Operand → Value} {w : World} {d : Option Tmp} {t X Y e : TypeId} {pos : String} {after : Array Edge} {guard : Option (Nat × Bool)} {x y : Operand} {p : Option Addr} (hX : P.underlying X = some (.pointer e)) (hx : ρ x = .pointer p) (hy : ρ y = .pointer none) :
    (execOp ρ ⟨d, .binOp .neq X x y Y, t, pos, after, guard⟩).run P w = .ok (.value (.bool (!p.isNone))) w := by
 have hp : P.pointee X = e := by simp [Program.pointee, hX]
 have e1 := run_neq_pointer_nil (P := P) w X p (by rw [hp]; exact hX)
 have e2 : (eqGuard .neq X x y (.pointer p) (.pointer none)).run P w = .ok () w := rfl
 simp only [execOp, hx, hy, Sem.run_bind, e2, Result.andThen_ok, e1, Sem.run_pure]
theorem ex_atS {P : Program} {ρ : Operand → Value} {w : World} {d : Option Tmp} {t X E : TypeId} {n : Nat} {pos : String} {after : Array Edge} {guard : Option (Nat × Bool)} {x y : Operand} {b o i : Nat} (hX : P.underlying X = some (.array n E)) (hs : (sizeOf E).run P w = .ok 2 w) (hx : ρ x = .pointer (some ⟨b, o, none⟩)) (hy : ρ y = .int .i64 i) (hi : i < n) :
    (execOp ρ ⟨d, .indexAddr X x y, t, pos, after, guard⟩).run P w = .ok (.value (.pointer (some ⟨b, o + i * 2, none⟩))) w := by
 have hadd : (⟨b, o, none⟩ : Addr).add (i * 2) = ⟨b, o + i * 2, none⟩ := Addr.add_mid b o (i * 2)
 have hlt : (0 : Int) ≤ (i : Int) ∧ (i : Int) < (n : Int) := by omega
 simp [execOp, hx, hy, Instr.indexAt, Instr.sureAddr, asIntOf, Sem.run_bind, Sem.run_pure, Result.andThen_ok, run_underlying hX w, hs, hadd, hlt, hi]
theorem info_3 : (Tryz.prog.info? 3).map (fun i => (i.zero, i.size, i.bytes)) = some (some (.int .i64 0), 1, 8) := by kernel_rfl
theorem info_24 : (Tryz.prog.info? 24).map (fun i => (i.zero, i.size, i.bytes)) = some (some (.slice none 0 0), 1, 24) := by kernel_rfl
theorem fo_at {E base : Nat} {w : World} {F : Fz} {l : List Forest} {a : Option Addr} {n c : Nat} (h : Own 1 FoC E base w F (.slice a n c) l) {i : Nat} {f : Forest} (hp : l[i]? = some f) :
    ∃ g, a = some ⟨g, 0, none⟩ ∧ ∃ xa xc, w.cell? ⟨g, 0 + i * 1, none⟩ = some (.slice xa f.length xc) ∧ Tns F (.slice xa f.length xc) f := by
 obtain ⟨g, cs, e, _, ⟨x, rfl, r1⟩, hr⟩ := h.at hp
 obtain ⟨xa, xc, rfl, _⟩ := Sl.shape r1
 refine ⟨g, e, xa, xc, ?_, r1⟩
 have := hr 0 _ rfl; rw [Nat.zero_add]; simpa using this
theorem nt_at {E base : Nat} {w : World} {F : Fz} {l : List Nat} {a : Option Addr} {n c : Nat} (h : Own 1 NtC E base w F (.slice a n c) l) {i : Nat} {m : Nat} (hp : l[i]? = some m) :
    ∃ g, a = some ⟨g, 0, none⟩ ∧ w.cell? ⟨g, 0 + i * 1, none⟩ = some (.int .i64 ((m : Nat) : Int)) := by
 obtain ⟨g, cs, e, _, r1, hr⟩ := h.at hp
 rw [show cs = _ from r1] at hr
 refine ⟨g, e, ?_⟩
 have := hr 0 _ rfl; rw [Nat.zero_add]; simpa using this
theorem does_is {P : Program} {o : Oper} {a : Act} {w : World} {v : Value} (h : (execOp a.eval o).run P w = .ok (.value v) w) : Does P o a w (IsPost v w) := by
 unfold Does
 rw [h]
 exact ⟨rfl, Below.refl _ _⟩
/-- A region that draws its order, while a block of the call's own is read in it. -/
abbrev EngS (F : Fz) (n : Nat) (c : List Value) (T : TypeId) (w : World) : Prop := Sat w F ∧ w.heap[n]? = some (.cells c.toArray T (0, 0))
theorem cellB {w : World} {n : Nat} {c : List Value} {T : TypeId} {fr : Nat × Nat} {j : Nat} {v : Value} (h : w.heap[n]? = some (.cells c.toArray T fr)) (hv : c[j]? = some v) : w.cell? ⟨n, j, none⟩ = some v := by simp [World.cell?, h, hv]
structure HE (P : Program) (ops : Array Oper) (Q : Exit → Act → World → Prop) (S : World → Prop) (fuel : Nat) (listed : Array Bool) (a : Act) (w : World) : Prop where
  out : Go.wpAnyH P .any ops Q S fuel listed a w
section
variable {P : Program} {ops : Array Oper} {Q : Exit → Act → World → Prop} {R : World → Prop} {fuel : Nat} {listed : Array Bool} {a : Act} {w w0 : World} {o : Oper} {F0 F F' : Fz} {L : List Blk} {M : List RowP} {i n : Nat} {c : List Value} {T : TypeId}
theorem engS (S : St w0 F0 w F' L M) (hl : Le F F') (hL : L[i]? = some ⟨n, c, T⟩) : EngS F n c T w := ⟨S.sat.le hl, (S.blk _ (St.mem hL)).1⟩
theorem region_he {id : Nat} {l : List Oper} (S : St w0 F0 w F L M) (hL : L[i]? = some ⟨n, c, T⟩) (hm : P.follows .mixedOrders = true) (h : ∀ w', St w0 F0 w' F L M → HE P l.toArray Q (EngS F n c T) l.length (Array.replicate l.length false) a w') : (Code.region id l.toArray true).wp P Q a w := by
 have := (h { w with drawn := w.drawn + 1 } (S.tells (Below.refl w.heap.size w).drew)).out
 refine wp_region_held (S := EngS F n c T) hm ?_
 simpa using this
theorem he_take {l : List Oper} (i : Nat) (hi : l[i]? = some o) (hc : canTake l.toArray listed i = true) {v : Value} (hQ : ∀ c a w, Q (.panic c) (a.put o.dst v) w → Q (.panic c) a w) (hS : R w) (hw : Region.wanted o (yielded l.toArray a.tmps) = true)
    (hr : ∀ w1, R w1 → (execOp a.eval o).run P w1 = .ok (.value v) w1) (h : HE P l.toArray Q R fuel (listed.setIfInBounds i true) (a.put o.dst v) w) : HE P l.toArray Q R (fuel + 1) listed a w := by
 simp only [canTake, Bool.and_eq_true] at hc
 exact ⟨Go.wpAnyH_take (by simpa using hi) hc.1.1 hc.1.2 hc.2 hQ (.inl ⟨hw, hr⟩) hS h.out⟩
theorem he_one {l : List Oper} (m : Nat) (hm : l[m]? = some o) (h : WL P l.toArray (Exit.then (fun a' w' => R w' ∧ Go.wpAnyH P .any l.toArray Q R fuel (listed.setIfInBounds m true) a' w') Q) [o] a w) : wpOp P l.toArray Q m (fun a' w' => R w' ∧ Go.wpAnyH P .any l.toArray Q R fuel (listed.setIfInBounds m true) a' w') a w := by
 have h1 := h.out
 unfold wpList at h1
 unfold wpOp
 have hi' : l.toArray[m]? = some o := by simpa using hm
 simp only [hi']
 split
 rename_i hw
 rw [if_pos hw] at h1
 rcases h1 with h1 | h1
 left
 refine Oper.wp_mono (fun a' w' hk => ?_) (Oper.wp_exit h1)
 exact hk
 exact .inr h1
 rename_i hw
 rw [if_neg hw] at h1
 exact h1
theorem he_next {l : List Oper} (i : Nat) (hr : Region.ready .any l.toArray listed = [i]) (hi : l[i]? = some o) (h : WL P l.toArray (Exit.then (fun a' w' => R w' ∧ Go.wpAnyH P .any l.toArray Q R fuel (listed.setIfInBounds i true) a' w') Q) [o] a w) : HE P l.toArray Q R (fuel + 1) listed a w := by
 refine ⟨Go.wpAnyH_all hr (by simp) fun j hj => ?_⟩
 obtain rfl : j = i := by simpa using hj
 exact he_one j hi h
theorem he_two {l : List Oper} {o1 o2 : Oper} (i j : Nat) (hr : Region.ready .any l.toArray listed = [i, j]) (hi : l[i]? = some o1) (hj : l[j]? = some o2)
    (h1 : WL P l.toArray (Exit.then (fun a' w' => R w' ∧ Go.wpAnyH P .any l.toArray Q R fuel (listed.setIfInBounds i true) a' w') Q) [o1] a w)
    (h2 : WL P l.toArray (Exit.then (fun a' w' => R w' ∧ Go.wpAnyH P .any l.toArray Q R fuel (listed.setIfInBounds j true) a' w') Q) [o2] a w) : HE P l.toArray Q R (fuel + 1) listed a w := by
 refine ⟨Go.wpAnyH_all hr (by simp) fun k hk => ?_⟩
 rcases (by simpa using hk : k = i ∨ k = j) with rfl | rfl
 exact he_one k hi h1
 exact he_one k hj h2
theorem he_back (hS : R w) (h : HE P ops Q R fuel listed a w) : Exit.then (fun a' w' => R w' ∧ Go.wpAnyH P .any ops Q R fuel listed a' w') Q .normal a w := ⟨hS, h.out⟩
theorem he_done (hr : Region.ready .any ops listed = []) (h : Q .normal a w) : HE P ops Q R fuel listed a w := ⟨Go.wpAnyH_done hr h _⟩
end
/-- A reply by value. -/
def RpV (F : Fz) (u : Value) (r : Rep) : Prop := ∃ v p q a1 a2 a3 b1 b2 b3, u = .agg #[.int .i64 ((r.s : Nat) : Int), .int .i64 r.code, .int .i64 r.turn, .bool r.found, v, p, q, .bool r.outer.empty, a1, a2, a3, .bool r.inner.empty, b1, b2, b3] ∧
  Bs F v r.value ∧ Prs F p r.pairs ∧ Bs F q r.root ∧ Stps F a1 r.outer.steps ∧ Bs F a2 r.outer.pair.1 ∧ Bs F a3 r.outer.pair.2 ∧ Stps F b1 r.inner.steps ∧ Bs F b2 r.inner.pair.1 ∧ Bs F b3 r.inner.pair.2
theorem RpV.code (F : Fz) (s : Nat) (e : Int) : RpV F (.agg #[.int .i64 ((s : Nat) : Int), .int .i64 e, .int .i64 0, .bool false, .slice none 0 0, .slice none 0 0, .slice none 0 0, .bool false, .slice none 0 0, .slice none 0 0, .slice none 0 0, .bool false, .slice none 0 0, .slice none 0 0, .slice none 0 0]) (repC s e) :=
  ⟨_, _, _, _, _, _, _, _, _, rfl, Bs.nil _, Sl.nil _ _ _, Bs.nil _, Sl.nil _ _ _, Bs.nil _, Bs.nil _, Sl.nil _ _ _, Bs.nil _, Bs.nil _⟩
theorem RpV.turn (F : Fz) (s : Nat) (t : Int) : RpV F (.agg #[.int .i64 ((s : Nat) : Int), .int .i64 0, .int .i64 t, .bool false, .slice none 0 0, .slice none 0 0, .slice none 0 0, .bool false, .slice none 0 0, .slice none 0 0, .slice none 0 0, .bool false, .slice none 0 0, .slice none 0 0, .slice none 0 0]) (repT s t) :=
  ⟨_, _, _, _, _, _, _, _, _, rfl, Bs.nil _, Sl.nil _ _ _, Bs.nil _, Sl.nil _ _ _, Bs.nil _, Bs.nil _, Sl.nil _ _ _, Bs.nil _, Bs.nil _⟩
open Go.RowKit
set_option maxRecDepth 100000
set_option linter.unusedVariables false
set_option linter.unusedSimpArgs false
theorem reply_st (w0 : World) (F0 : Fz) (w : World) (F : Fz) (n : Nat) (L : List Blk) (up : Bool) (td : Value) (ts : Nat) (vc vf : Value) (sy : Nat) (pv : Nat → Value) (wv : Nat → Bool) (vw : Value) (cs : List Cm) (fs : List Forest) (ws : List Nat) (ar : Option Addr) (cr : Nat) (rs : List Rep) (u : Value) (r : Rep) (S : St w0 F0 w F (⟨n, engC up td ts vc vf sy pv wv vw (.slice ar rs.length cr), 115⟩ :: L) (engR w0.heap.size vc cs vf fs vw ws (.slice ar rs.length cr) rs)) (hu : RpV F u r) (hq : rs.length ≤ 100000) :
    Calls Tryz.prog 79 #[.pointer (some ⟨n, 0, none⟩), u] w fun e w' => e = .returned (.tuple #[]) ∧ ∃ F' a c, Le F F' ∧ St w0 F0 w' F' (⟨n, engC up td ts vc vf sy pv wv vw (.slice a (rs ++ [r]).length c), 115⟩ :: L) (engR w0.heap.size vc cs vf fs vw ws (.slice a (rs ++ [r]).length c) (rs ++ [r])) := by
 obtain ⟨v, p, q, a1, a2, a3, b1, b2, b3, rfl, h0, h1, h2, h3, h4, h5, h6, h7, h8⟩ := hu
 obtain ⟨i54, hi54, hz54, hs54, hb54⟩ := info_parts info_54
 go_enter Tryz.func79, Tryz.ntmps79
 refine sk fun K1 hK1 => ?_
 refine stNew S (v := fun n => .pointer (aA n 0)) rfl (ex_box (v := (.agg #[(nI r.s), (.int .i64 r.code), (.int .i64 r.turn), (.bool r.found), v, p, q, (.bool r.outer.empty), a1, a2, a3, (.bool r.inner.empty), b1, b2, b3])) rfl) (fun n2 w3 S4 => ?_)
 refine wn hK1 ?_
 obtain ⟨S5, le6, hc7⟩ := St.freezeBlk S4 (i := 0) rfl
 generalize addF F w3 n2 = F8 at *
 refine region_hl S5 (by kernel_rfl) (fun w10 S9 => ?_)
 refine hl_take 0 rfl (by kernel_rfl) (v := (pP n 0)) (fun _ _ _ h => h) S9.sat rfl (fun w11 hs12 => ex_move _) ?_
 simp only [pq]
 refine hl_take 1 rfl (by kernel_rfl) (v := (pP n 0)) (fun _ _ _ h => h) S9.sat rfl (fun w13 hs14 => ex_move _) ?_
 simp only [pq]
 refine hl_take 2 rfl (by kernel_rfl) (v := (pP n 0)) (fun _ _ _ h => h) S9.sat rfl (fun w15 hs16 => ex_nil rfl) ?_
 simp only [pq]
 refine hl_take 3 rfl (by kernel_rfl) (v := (pP n 23)) (fun _ _ _ h => h) S9.sat rfl (fun w17 hs18 => ef (fa_115_7 _ _)) ?_
 simp only [pq]
 refine hl_take 5 rfl (by kernel_rfl) (v := (.agg #[(nI r.s), (.int .i64 r.code), (.int .i64 r.turn), (.bool r.found), v, p, q, (.bool r.outer.empty), a1, a2, a3, (.bool r.inner.empty), b1, b2, b3])) (fun _ _ _ h => h) S9.sat rfl (fun w19 hs20 => ex_load rfl (loadN (cs := [(nI r.s), (.int .i64 r.code), (.int .i64 r.turn), (.bool r.found), v, p, q, (.bool r.outer.empty), a1, a2, a3, (.bool r.inner.empty), b1, b2, b3]) Tryz.underlying54 rfl (size_54) (rangeF (c := [(nI r.s), (.int .i64 r.code), (.int .i64 r.turn), (.bool r.found), v, p, q, (.bool r.outer.empty), a1, a2, a3, (.bool r.inner.empty), b1, b2, b3]) (St.start hs20).sat hc7))) ?_
 simp only [pq]
 refine hl_two 4 6 (by kernel_rfl) rfl rfl ?_ ?_
 refine dl (nagg_41 _) S9 0 ?_
 refine wl_nil (hl_back S9.sat ?_)
 refine hl_next 6 (by kernel_rfl) rfl ?_
 refine stNew S9 (v := fun n => .slice (aA n 0) 1 1) rfl (ex_lit (ps := #[(0, (.agg #[(nI r.s), (.int .i64 r.code), (.int .i64 r.turn), (.bool r.found), v, p, q, (.bool r.outer.empty), a1, a2, a3, (.bool r.inner.empty), b1, b2, b3]))]) (cells := #[(nI r.s), (.int .i64 r.code), (.int .i64 r.turn), (.bool r.found), v, p, q, (.bool r.outer.empty), a1, a2, a3, (.bool r.inner.empty), b1, b2, b3]) (E := 54) (bmap1 rfl) (fun w => by kernel_rfl)) (fun n21 w22 S23 => ?_)
 refine wl_nil (hl_back S23.sat ?_)
 refine hl_next 7 (by kernel_rfl) rfl ?_
 refine stPush (i := 0) (r := 3) (p := r) (cs := [(nI r.s), (.int .i64 r.code), (.int .i64 r.turn), (.bool r.found), v, p, q, (.bool r.outer.empty), a1, a2, a3, (.bool r.inner.empty), b1, b2, b3]) S23 rfl i54 (.agg #[(iI 0), (iI 0), (iI 0), bF, Zn, Zn, Zn, bF, Zn, Zn, Zn, bF, Zn, Zn, Zn]) 264 Tryz.underlying41 hi54 hz54 hs54 hb54 rfl (by decide) rfl rfl rfl rfl rfl (RpC.oneCell (p := r) ⟨_, _, _, _, _, _, _, _, _, rfl, h0.mono le6, h1.mono le6, h2.mono le6, h3.mono le6, h4.mono le6, h5.mono le6, h6.mono le6, h7.mono le6, h8.mono le6⟩) (⟨_, _, _, _, _, _, _, _, _, rfl, h0.mono le6, h1.mono le6, h2.mono le6, h3.mono le6, h4.mono le6, h5.mono le6, h6.mono le6, h7.mono le6, h8.mono le6⟩) (Nat.le_refl _) S23.gr.below.size (by unfold maxLen; omega) (by omega) ?_
 intro v24 w25 S26 hn27
 simp only [pq]
 have S26 := St.drop S26 (.cons _ (List.Sublist.refl _))
 obtain ⟨a28, cap29, rfl, h30, h31⟩ := (S26.own (i := 3) rfl).shape
 unfold maxLen at h31
 refine wl_nil (hl_back S26.sat ?_)
 refine hl_take 8 rfl (by kernel_rfl) (v := (pP n 0)) (fun _ _ _ h => h) S26.sat rfl (fun w32 hs33 => ex_nil rfl) ?_
 simp only [pq]
 refine hl_take 9 rfl (by kernel_rfl) (v := (pP n 23)) (fun _ _ _ h => h) S26.sat rfl (fun w34 hs35 => ef (fa_115_7 _ _)) ?_
 simp only [pq]
 refine hl_next 10 (by kernel_rfl) rfl ?_
 refine sW 0 S26 (size_41) fun w36 S37 => ?_
 refine wl_nil (hl_back S37.sat ?_)
 refine hl_done (by kernel_rfl) ?_
 try simp only [xt]
 refine bE (res_ rfl) ?_
 exact ⟨rfl, _, _, _, le6, S37⟩
 refine stNew S9 (v := fun n => .slice (aA n 0) 1 1) rfl (ex_lit (ps := #[(0, (.agg #[(nI r.s), (.int .i64 r.code), (.int .i64 r.turn), (.bool r.found), v, p, q, (.bool r.outer.empty), a1, a2, a3, (.bool r.inner.empty), b1, b2, b3]))]) (cells := #[(nI r.s), (.int .i64 r.code), (.int .i64 r.turn), (.bool r.found), v, p, q, (.bool r.outer.empty), a1, a2, a3, (.bool r.inner.empty), b1, b2, b3]) (E := 54) (bmap1 rfl) (fun w => by kernel_rfl)) (fun n38 w39 S40 => ?_)
 refine wl_nil (hl_back S40.sat ?_)
 refine hl_next 4 (by kernel_rfl) rfl ?_
 refine dl (nagg_41 _) S40 1 ?_
 refine wl_nil (hl_back S40.sat ?_)
 refine hl_next 7 (by kernel_rfl) rfl ?_
 refine stPush (i := 0) (r := 3) (p := r) (cs := [(nI r.s), (.int .i64 r.code), (.int .i64 r.turn), (.bool r.found), v, p, q, (.bool r.outer.empty), a1, a2, a3, (.bool r.inner.empty), b1, b2, b3]) S40 rfl i54 (.agg #[(iI 0), (iI 0), (iI 0), bF, Zn, Zn, Zn, bF, Zn, Zn, Zn, bF, Zn, Zn, Zn]) 264 Tryz.underlying41 hi54 hz54 hs54 hb54 rfl (by decide) rfl rfl rfl rfl rfl (RpC.oneCell (p := r) ⟨_, _, _, _, _, _, _, _, _, rfl, h0.mono le6, h1.mono le6, h2.mono le6, h3.mono le6, h4.mono le6, h5.mono le6, h6.mono le6, h7.mono le6, h8.mono le6⟩) (⟨_, _, _, _, _, _, _, _, _, rfl, h0.mono le6, h1.mono le6, h2.mono le6, h3.mono le6, h4.mono le6, h5.mono le6, h6.mono le6, h7.mono le6, h8.mono le6⟩) (Nat.le_refl _) S40.gr.below.size (by unfold maxLen; omega) (by omega) ?_
 intro v41 w42 S43 hn44
 simp only [pq]
 have S43 := St.drop S43 (.cons _ (List.Sublist.refl _))
 obtain ⟨a45, cap46, rfl, h47, h48⟩ := (S43.own (i := 3) rfl).shape
 unfold maxLen at h48
 refine wl_nil (hl_back S43.sat ?_)
 refine hl_take 8 rfl (by kernel_rfl) (v := (pP n 0)) (fun _ _ _ h => h) S43.sat rfl (fun w49 hs50 => ex_nil rfl) ?_
 simp only [pq]
 refine hl_take 9 rfl (by kernel_rfl) (v := (pP n 23)) (fun _ _ _ h => h) S43.sat rfl (fun w51 hs52 => ef (fa_115_7 _ _)) ?_
 simp only [pq]
 refine hl_next 10 (by kernel_rfl) rfl ?_
 refine sW 0 S43 (size_41) fun w53 S54 => ?_
 refine wl_nil (hl_back S54.sat ?_)
 refine hl_done (by kernel_rfl) ?_
 try simp only [xt]
 refine bE (res_ rfl) ?_
 exact ⟨rfl, _, _, _, le6, S54⟩
theorem reply_eng (w0 : World) (F0 : Fz) (w : World) (F : Fz) (n : Nat) (g : Eng) (L : List Blk) (u : Value) (r : Rep) (hM : EngM w0 F0 w F n g L) (hu : RpV F u r) (hq : g.replies.length ≤ 100000) :
    Calls Tryz.prog 79 #[.pointer (some ⟨n, 0, none⟩), u] w (EngP w0 F0 F n (g.reply r) L) := by
 obtain ⟨ad, cd, ac, cc, af, cf, aw, cw, ar, cr, pv, S, hd, ht⟩ := hM
 refine (reply_st _ _ _ _ _ _ _ _ _ _ _ _ _ _ _ _ _ _ _ _ _ u r S hu hq).mono ?_
 rintro e w' ⟨he, F', a, c, hl, S'⟩
 exact ⟨he, F', hl, _, _, _, _, _, _, _, _, _, _, _, S', hd.mono hl, TxB_mono ht hl⟩
theorem told_eng (w0 : World) (F0 : Fz) (w : World) (F : Fz) (n : Nat) (g : Eng) (L : List Blk) (s : Nat) (e : Int) (hM : EngM w0 F0 w F n g L) (hq : g.replies.length ≤ 100000) :
    Calls Tryz.prog 76 #[.pointer (some ⟨n, 0, none⟩), .int .i64 ((s : Nat) : Int), .int .i64 e] w (EngP w0 F0 F n (g.reply (repC s e)) L) := by
 obtain ⟨ad, cd, ac, cc, af, cf, aw, cw, ar, cr, pv, S, hd, ht⟩ := hM
 go_enter Tryz.func76, Tryz.ntmps76
 refine region_wl ?_
 iterate 3 refine dx ?_
 simp only [pq]
 refine dr (.agg #[(nI s), (.int .i64 e), (iI 0), bF, Zn, Zn, Zn, bF, Zn, Zn, Zn, bF, Zn, Zn, Zn]) (ex_build (bmap2 rfl rfl) (by kernel_rfl)) ?_
 simp only [pq]
 have hM4 : EngM _ _ _ _ n g _ := ⟨_, _, _, _, _, _, _, _, _, _, _, S, hd, ht⟩
 refine doC rfl (fn2 (ent_79 _ _)) (reply_eng _ _ _ _ _ _ _ _ _ hM4 (RpV.code _ s e) hq) ?_
 rintro _ w5 ⟨rfl, F6, le7, hM8⟩
 refine ⟨_, rfl, ?_⟩
 obtain ⟨ad9, cd10, ac11, cc12, af13, cf14, aw15, cw16, ar17, cr18, pv19, S20, hd21, ht22⟩ := hM8
 refine wl_nil ?_
 try simp only [xt]
 refine bE (res_ rfl) ?_
 have hM23 : EngM _ _ _ _ n (g.reply (repC s e)) _ := ⟨_, _, _, _, _, _, _, _, _, _, _, S20, hd21, ht22⟩
 exact ⟨rfl, _, le7, hM23⟩
open Go.RowKit
set_option maxRecDepth 100000
theorem kept_yes (n t : Int) (w : World) (h1 : 0 ≤ t) (h2 : t ≤ n) (h3 : n - t < 6) (_h4 : n ≤ 1000000) :
    Calls Tryz.prog 80 #[.int .i64 n, .int .i64 t] w fun e w' => e = .returned (.bool true) ∧ w' = w := by
 go_enter Tryz.func80, Tryz.ntmps80
 go_wp2
 go_ret
 exact ⟨by simp, rfl⟩
theorem kept_no (n t : Int) (w : World) (h1 : t < 0 ∨ n < t ∨ 6 ≤ n - t) (h4 : 0 ≤ n) (h5 : n ≤ 1000000) (h6 : -10 ≤ t) (h7 : t ≤ 2000000) :
    Calls Tryz.prog 80 #[.int .i64 n, .int .i64 t] w fun e w' => e = .returned (.bool false) ∧ w' = w := by
 by_cases a : t < 0
 ·go_enter Tryz.func80, Tryz.ntmps80
  go_wp2
  go_ret
  exact ⟨rfl, rfl⟩
 ·by_cases b : n < t
  ·go_enter Tryz.func80, Tryz.ntmps80
   go_wp2
   go_ret
   exact ⟨rfl, rfl⟩
  ·go_enter Tryz.func80, Tryz.ntmps80
   go_wp2
   go_ret
   exact ⟨by simp; omega, rfl⟩
/-- How many of the turns from -2 to t - 1 are kept. -/
def many (n t : Int) : Int := min (max (t - max 0 (n - 5)) 0) (min (n + 1) 6)
open Go.RowKit
set_option maxRecDepth 100000
set_option linter.unusedVariables false
set_option linter.unusedSimpArgs false
theorem txnNoteNo_spec (F : Fz) (w : World) (v u : Value) (t : Tx) (r : Rd) (hs : Sat w F) (hv : TxV F v t) (hu : RdV F u r) (ht : TxOk t) (hr : RdOk r) (e : noteX t r = none) :
    Calls Tryz.prog 106 #[v, u] w (Gives w F fun F' u => TxE F' u nilX 11) := by
 have := txnNote_spec F w v u t r hs hv hu (fun x hx => (ht.writes x hx).small)
 obtain ⟨h1, h2⟩ := noteE_full ht hr e
 rwa [h1, h2] at this
theorem txnWriteNo_spec (F : Fz) (w : World) (v u : Value) (t : Tx) (r : Wr) (hs : Sat w F) (hv : TxV F v t) (hu : WrV F u r) (ht : TxOk t) (hr : WrOk r) (e : writeX t r = none) :
    Calls Tryz.prog 94 #[v, u] w (Gives w F fun F' u => TxE F' u nilX 11) := by
 have := txnWriteT_spec F w v u t r hs hv hu (fun x hx => (ht.writes x hx).small) hr.small
 obtain ⟨h1, h2⟩ := writeE_full ht hr e
 rwa [h1, h2] at this
/-- What note leaves. -/
def NoteP (w0 : World) (F0 F : Fz) (n : Nat) (g : Eng) (L : List Blk) (s : Nat) (o : Option Tx) (e : Ending) (w' : World) : Prop := ∃ F', Le F F' ∧ match o with
  | none => e = .returned (.bool false) ∧ EngM w0 F0 w' F' n (g.reply (repC s 11)) L
  | some u => e = .returned (.bool true) ∧ EngM w0 F0 w' F' n (g.setTxn s (some u)) L
theorem note_eng (w0 : World) (F0 : Fz) (w : World) (F : Fz) (n : Nat) (g : Eng) (L : List Blk) (s : Nat) (hs8 : s < 8) (u : Value) (k : Nat) (r : Rq) (b_ : Bool) (t : Tx) (hM : EngM w0 F0 w F n g L) (hh : Has w0) (hv : ReqV F u k r.name r.key r.last r.value) (ok : RqOk k r) (hk : (k = 2 ∧ b_ = false) ∨ (k = 3 ∧ b_ = true)) (hts : g.txn s = some t) (htok : TxOk t) (hq : g.replies.length ≤ 100000) :
    Calls Tryz.prog 90 #[.pointer (some ⟨n, 0, none⟩), .int .i64 ((s : Nat) : Int), .pointer (some ⟨n, 6 + s * 2, none⟩), u] w (NoteP w0 F0 F n g L s (noteX t ⟨r.name, r.key, b_, r.last⟩)) := by
 obtain ⟨_, _, _, _, rfl, q0, q1, q2, q3⟩ := hv
 obtain ⟨a0, c0, rfl, _⟩ := q0.shape
 obtain ⟨a1, c1, rfl, _⟩ := q1.shape
 obtain ⟨a2, c2, rfl, _⟩ := q2.shape
 obtain ⟨a3, c3, rfl, _⟩ := q3.shape
 obtain ⟨ad, cd, ac, cc, af, cf, aw, cw, ar, cr, pv, S, hd, ht⟩ := hM
 have hb := ht s hs8
 rw [hts] at hb
 obtain ⟨b, x0, y0, x1, y1, hp, b0, b1, b2, r0, r1⟩ := hb
 go_enter Tryz.func90, Tryz.ntmps90
 refine sk fun K4 hK4 => ?_
 refine stNew S (v := fun n => .pointer (aA n 0)) rfl (ex_box (v := (.agg #[(nI k), (.slice a0 r.name.length c0), (.slice a1 r.key.length c1), (.slice a2 r.last.length c2), (.slice a3 r.value.length c3)])) rfl) (fun n5 w6 S7 => ?_)
 refine dy ?_
 refine wn hK4 ?_
 refine sk fun K8 hK8 => ?_
 refine dR S7 0 Tryz.underlying27 (size_27) ?_
 refine stGives S7 rfl (fn1 (ent_105 _ _)) (wireRead_yes _ _ _ k r (S7).sat (hh.below S7.gr.below) ⟨_, _, _, _, rfl, q0, q1, q2, q3⟩ ok hk) ?_
 intro v14 w9 F11 S10 le12 R13
 obtain ⟨_, rfl, R24⟩ := R13
 obtain ⟨xa15, xc16, xa17, xc18, xa19, xc20, rfl, r21, r22, r23⟩ := R24
 simp only [pq]
 refine dx ?_
 iterate 2 refine de ?_
 simp only [pq]
 refine sA S10 (zero_179 _) fun n25 w26 S27 => ?_
 refine sW 0 S27 (size_179) fun w28 S29 => ?_
 refine dy ?_
 simp only [pq]
 refine wn hK8 ?_
 refine wp_seq_k (fun K30 hK30 => ?_)
 cases hn : noteX t (⟨r.name, r.key, b_, r.last⟩ : Rd) with
 | none =>
  refine region_late F11 [0, 1, 2, 3, 4, 5, 6, 7, 8, 9, 11] 10 12 [13] [(7, .made (fun F' u => TxE F' u nilX 11)), (9, .made (fun F' u => TxV F' u nilX)), (11, .rel (NewAt w28 [(iI 0), Zn, Zn] 141) (NewAt.stable _ _ _)), (10, .is (iI 11))] (by kernel_rfl) (by kernel_rfl) rfl rfl rfl rfl ?_
  simp only [opsAt, List.getElem?_cons_succ, List.getElem?_cons_zero, List.map_cons, List.map_nil]
  refine gp_pure rfl rfl (pP n (6 + s * 2)) (fun w31 C31 => pureAt_of (ex_move _)) ?_
  simp only [pq]
  refine gp_pure rfl rfl (pP n (6 + s * 2)) (fun w31 C31 => pureAt_of (ex_nil rfl)) ?_
  simp only [pq]
  refine gp_pure rfl rfl (pP n (6 + s * 2)) (fun w31 C31 => pureAt_of (ef (fa_112_0 _ _))) ?_
  simp only [pq]
  refine gp_pure rfl rfl (pP b 0) (fun w31 C31 => pureAt_of (ex_load rfl (load1 (nagg_110 _) (St.cell (St.tells S29 C31) (i := 2) rfl ((engC_txn hs8).trans (congrArg some hp)))))) ?_
  simp only [pq]
  refine gp_pure rfl rfl (pP b 0) (fun w31 C31 => pureAt_of (ex_nil rfl)) ?_
  simp only [pq]
  refine gp_pure rfl rfl (.agg #[(.int .i64 t.start), (.slice x0 t.reads.length y0), (.slice x1 t.writes.length y1)]) (fun w31 C31 => pureAt_of (ex_load rfl (loadN (cs := [(.int .i64 t.start), (.slice x0 t.reads.length y0), (.slice x1 t.writes.length y1)]) Tryz.underlying141 rfl (size_141) (range3 (St.fz (St.tells S29 C31) (Le.cell le12 b0)) (St.fz (St.tells S29 C31) (Le.cell le12 b1)) (St.fz (St.tells S29 C31) (Le.cell le12 b2)))))) ?_
  simp only [pq]
  refine gp_pure rfl rfl (.agg #[(.slice xa15 r.name.length xc16), (.slice xa17 r.key.length xc18), (.bool b_), (.slice xa19 r.last.length xc20)]) (fun w31 C31 => pureAt_of (ex_load rfl (loadN (cs := [(.slice xa15 r.name.length xc16), (.slice xa17 r.key.length xc18), (.bool b_), (.slice xa19 r.last.length xc20)]) Tryz.underlying179 rfl (size_179) (St.range (St.tells S29 C31) (i := 0) rfl 0 [(.slice xa15 r.name.length xc16), (.slice xa17 r.key.length xc18), (.bool b_), (.slice xa19 r.last.length xc20)] (sub_range 0 rfl))))) ?_
  simp only [pq]
  refine gp_rel rfl rfl (fun w31 C31 hF => does_call (ex_fn (vs := #[(.agg #[(.int .i64 t.start), (.slice x0 t.reads.length y0), (.slice x1 t.writes.length y1)]), (.agg #[(.slice xa15 r.name.length xc16), (.slice xa17 r.key.length xc18), (.bool b_), (.slice xa19 r.last.length xc20)])]) (map2 rfl rfl) rfl (ent_106 _ _)) (call_made S29.sat C31 (txnNoteNo_spec _ _ _ _ t (⟨r.name, r.key, b_, r.last⟩ : Rd) ((St.tells S29 C31)).sat ⟨_, _, _, _, rfl, (r0.mono le12), (r1.mono le12)⟩ ⟨_, _, _, _, _, _, rfl, r21, r22, r23⟩ htok (rd_of ok hk) hn))) (fun v32 => ?_)
  simp only [pq]
  refine gp_pure rfl rfl v32 (fun w31 C31 => pureAt_of (ex_move _)) ?_
  simp only [pq]
  refine gp_rel rfl rfl (fun w31 C31 hF_ => ?_) (fun v37 => ?_)
  obtain ⟨F33, g34, _, rfl, hx36⟩ := hF_.get 7 (by kernel_rfl) rfl rfl
  exact does_val (ex_extract rfl rfl) ⟨F33, g34, hx36⟩ (Below.refl _ _)
  simp only [pq]
  refine gp_rel rfl rfl (fun w31 C31 _ => does_alloc (cs := [(iI 0), Zn, Zn]) (zero_141 _) rfl C31) (fun v38 => ?_)
  simp only [pq]
  refine gp_nil (late_ rfl rfl (v := (iI 11)) (fun w31 C31 hF_ => ?_) ?_)
  obtain ⟨F39, g40, _, rfl, hx41⟩ := hF_.get 7 (by kernel_rfl) rfl rfl
  exact fun w1 => pureAt_of (ex_extract rfl rfl)
  intro w42 hC44 hF45
  obtain ⟨n46, rfl, hn47, hb48⟩ := hF45.getR 11 rfl rfl
  have hnbn46 : ∀ u ∈ [(.int .i64 0), (.slice none 0 0), (.slice none 0 0)], ∀ x, u ≠ bv x := by intro u hu x; simp only [List.mem_cons, List.not_mem_nil, or_false] at hu; rcases hu with rfl | rfl | rfl <;> (unfold bv; simp)
  obtain ⟨F49, g50, R51⟩ := hF45.get 9 rfl rfl
  have g52 := g50.dropF S29.sat hn47
  have R53 := TxV.dropT g50.sat hb48 hnbn46 R51
  have S43 := St.addBlk (cs := [(.int .i64 0), (.slice none 0 0), (.slice none 0 0)]) S29 g52 hn47 (dropF_at _ _) hb48
  have le55 : Le _ _ := g52.le S29.sat
  have R56 := R53
  generalize (dropF F49 n46) = F54 at *
  obtain ⟨xa57, xc58, xa59, xc60, rfl, r61, r62⟩ := R56
  clear hF45
  refine stLate (i := 0) (v := (.agg #[(.int .i64 nilX.start), (.slice xa57 nilX.reads.length xc58), (.slice xa59 nilX.writes.length xc60)])) S43 rfl rfl rfl (size_141) (allc3 rfl rfl rfl) (Nat.le_of_ble_eq_true rfl) (fun w63 S64 => ?_)
  refine dy ?_
  simp only [pq]
  refine wl_nil (hK30 _ _ ?_)
  refine wp_seq_k (fun K65 hK65 => ?_)
  refine sk fun K66 hK66 => ?_
  refine dx ?_
  refine dr bT (ex_neq (b := true) rfl rfl (by decide)) ?_
  refine wn hK66 ?_
  refine wp_cond_true rfl ?_
  refine sk fun K67 hK67 => ?_
  iterate 3 refine dx ?_
  simp only [pq]
  have S68 := St.perm S64 (List.perm_middle (l₁ := [_, _, _]))
  have hM69 : EngM _ _ _ _ n g _ := ⟨_, _, _, _, _, _, _, _, _, _, _, S68, (hd.mono (le12.trans le55)), (TxB_mono ht (le12.trans le55))⟩
  refine doC rfl (fn3 (ent_76 _ _)) (told_eng _ _ _ _ _ _ _ s 11 hM69 hq) ?_
  rintro _ w70 ⟨rfl, F71, le72, hM73⟩
  refine ⟨_, rfl, ?_⟩
  obtain ⟨ad74, cd75, ac76, cc77, af78, cf79, aw80, cw81, ar82, cr83, pv84, S85, hd86, ht87⟩ := hM73
  refine wn hK67 ?_
  refine sk fun K88 hK88 => ?_
  refine dy ?_
  refine wn hK88 ?_
  refine wp_ret ?_
  try simp only [xt]
  refine bR (res_t rfl (gD rfl)) ?_
  have hM89 : EngM _ _ _ _ n (g.reply (repC s 11)) _ := ⟨_, _, _, _, _, _, _, _, _, _, _, S85, hd86, ht87⟩
  refine ⟨_, ((le12.trans le55).trans le72), ?_⟩
  rw [hn]
  exact ⟨rfl, (hM89.drop (.cons _ (.cons _ (.cons _ (List.Sublist.refl _)))))⟩
 | some nx =>
  refine region_late F11 [0, 1, 2, 3, 4, 5, 6, 7, 8, 9, 11] 10 12 [13] [(7, .made (fun F' u => TxE F' u nx 0)), (9, .made (fun F' u => TxV F' u nx)), (11, .rel (NewAt w28 [(iI 0), Zn, Zn] 141) (NewAt.stable _ _ _)), (10, .is (iI 0))] (by kernel_rfl) (by kernel_rfl) rfl rfl rfl rfl ?_
  simp only [opsAt, List.getElem?_cons_succ, List.getElem?_cons_zero, List.map_cons, List.map_nil]
  refine gp_pure rfl rfl (pP n (6 + s * 2)) (fun w90 C90 => pureAt_of (ex_move _)) ?_
  simp only [pq]
  refine gp_pure rfl rfl (pP n (6 + s * 2)) (fun w90 C90 => pureAt_of (ex_nil rfl)) ?_
  simp only [pq]
  refine gp_pure rfl rfl (pP n (6 + s * 2)) (fun w90 C90 => pureAt_of (ef (fa_112_0 _ _))) ?_
  simp only [pq]
  refine gp_pure rfl rfl (pP b 0) (fun w90 C90 => pureAt_of (ex_load rfl (load1 (nagg_110 _) (St.cell (St.tells S29 C90) (i := 2) rfl ((engC_txn hs8).trans (congrArg some hp)))))) ?_
  simp only [pq]
  refine gp_pure rfl rfl (pP b 0) (fun w90 C90 => pureAt_of (ex_nil rfl)) ?_
  simp only [pq]
  refine gp_pure rfl rfl (.agg #[(.int .i64 t.start), (.slice x0 t.reads.length y0), (.slice x1 t.writes.length y1)]) (fun w90 C90 => pureAt_of (ex_load rfl (loadN (cs := [(.int .i64 t.start), (.slice x0 t.reads.length y0), (.slice x1 t.writes.length y1)]) Tryz.underlying141 rfl (size_141) (range3 (St.fz (St.tells S29 C90) (Le.cell le12 b0)) (St.fz (St.tells S29 C90) (Le.cell le12 b1)) (St.fz (St.tells S29 C90) (Le.cell le12 b2)))))) ?_
  simp only [pq]
  refine gp_pure rfl rfl (.agg #[(.slice xa15 r.name.length xc16), (.slice xa17 r.key.length xc18), (.bool b_), (.slice xa19 r.last.length xc20)]) (fun w90 C90 => pureAt_of (ex_load rfl (loadN (cs := [(.slice xa15 r.name.length xc16), (.slice xa17 r.key.length xc18), (.bool b_), (.slice xa19 r.last.length xc20)]) Tryz.underlying179 rfl (size_179) (St.range (St.tells S29 C90) (i := 0) rfl 0 [(.slice xa15 r.name.length xc16), (.slice xa17 r.key.length xc18), (.bool b_), (.slice xa19 r.last.length xc20)] (sub_range 0 rfl))))) ?_
  simp only [pq]
  refine gp_rel rfl rfl (fun w90 C90 hF => does_call (ex_fn (vs := #[(.agg #[(.int .i64 t.start), (.slice x0 t.reads.length y0), (.slice x1 t.writes.length y1)]), (.agg #[(.slice xa15 r.name.length xc16), (.slice xa17 r.key.length xc18), (.bool b_), (.slice xa19 r.last.length xc20)])]) (map2 rfl rfl) rfl (ent_106 _ _)) (call_made S29.sat C90 (txnNoteIs_spec _ _ _ _ t (⟨r.name, r.key, b_, r.last⟩ : Rd) nx ((St.tells S29 C90)).sat ⟨_, _, _, _, rfl, (r0.mono le12), (r1.mono le12)⟩ ⟨_, _, _, _, _, _, rfl, r21, r22, r23⟩ htok (rd_of ok hk) hn))) (fun v91 => ?_)
  simp only [pq]
  refine gp_pure rfl rfl v91 (fun w90 C90 => pureAt_of (ex_move _)) ?_
  simp only [pq]
  refine gp_rel rfl rfl (fun w90 C90 hF_ => ?_) (fun v96 => ?_)
  obtain ⟨F92, g93, _, rfl, hx95⟩ := hF_.get 7 (by kernel_rfl) rfl rfl
  exact does_val (ex_extract rfl rfl) ⟨F92, g93, hx95⟩ (Below.refl _ _)
  simp only [pq]
  refine gp_rel rfl rfl (fun w90 C90 _ => does_alloc (cs := [(iI 0), Zn, Zn]) (zero_141 _) rfl C90) (fun v97 => ?_)
  simp only [pq]
  refine gp_nil (late_ rfl rfl (v := (iI 0)) (fun w90 C90 hF_ => ?_) ?_)
  obtain ⟨F98, g99, _, rfl, hx100⟩ := hF_.get 7 (by kernel_rfl) rfl rfl
  exact fun w1 => pureAt_of (ex_extract rfl rfl)
  intro w101 hC103 hF104
  obtain ⟨n105, rfl, hn106, hb107⟩ := hF104.getR 11 rfl rfl
  have hnbn105 : ∀ u ∈ [(.int .i64 0), (.slice none 0 0), (.slice none 0 0)], ∀ x, u ≠ bv x := by intro u hu x; simp only [List.mem_cons, List.not_mem_nil, or_false] at hu; rcases hu with rfl | rfl | rfl <;> (unfold bv; simp)
  obtain ⟨F108, g109, R110⟩ := hF104.get 9 rfl rfl
  have g111 := g109.dropF S29.sat hn106
  have R112 := TxV.dropT g109.sat hb107 hnbn105 R110
  have S102 := St.addBlk (cs := [(.int .i64 0), (.slice none 0 0), (.slice none 0 0)]) S29 g111 hn106 (dropF_at _ _) hb107
  have le114 : Le _ _ := g111.le S29.sat
  have R115 := R112
  generalize (dropF F108 n105) = F113 at *
  obtain ⟨xa116, xc117, xa118, xc119, rfl, r120, r121⟩ := R115
  clear hF104
  refine stLate (i := 0) (v := (.agg #[(.int .i64 nx.start), (.slice xa116 nx.reads.length xc117), (.slice xa118 nx.writes.length xc119)])) S102 rfl rfl rfl (size_141) (allc3 rfl rfl rfl) (Nat.le_of_ble_eq_true rfl) (fun w122 S123 => ?_)
  have S123 : St w0 F0 w122 F113 (⟨n105, [(.int .i64 nx.start), (.slice xa116 nx.reads.length xc117), (.slice xa118 nx.writes.length xc119)], 141⟩ :: ⟨n25, [(.slice xa15 r.name.length xc16), (.slice xa17 r.key.length xc18), (.bool b_), (.slice xa19 r.last.length xc20)], 179⟩ :: ⟨n5, [(nI k), (.slice a0 r.name.length c0), (.slice a1 r.key.length c1), (.slice a2 r.last.length c2), (.slice a3 r.value.length c3)], 27⟩ :: ⟨n, engC g.up (.slice ad g.tape.data.length cd) g.tape.synced (.slice ac g.commits.length cc) (.slice af g.forests.length cf) g.synced pv g.waits (.slice aw g.waiting.length cw) (.slice ar g.replies.length cr), 115⟩ :: L) (engR w0.heap.size (.slice ac g.commits.length cc) g.commits (.slice af g.forests.length cf) g.forests (.slice aw g.waiting.length cw) g.waiting (.slice ar g.replies.length cr) g.replies) := S123
  refine dy ?_
  simp only [pq]
  refine wl_nil (hK30 _ _ ?_)
  refine wp_seq_k (fun K124 hK124 => ?_)
  refine sk fun K125 hK125 => ?_
  refine dx ?_
  refine dr bF (ex_neq (b := false) rfl rfl (by decide)) ?_
  refine wn hK125 ?_
  refine wp_cond_false rfl ?_
  refine wp_skip ?_
  refine hK124 _ _ ?_
  refine sk fun K126 hK126 => ?_
  refine dx ?_
  refine di ?_
  refine df (fa_112_0 _ _) ?_
  simp only [pq]
  refine stStore (i := 3) (v := (pP n105 0)) S123 rfl rfl rfl rfl (size_110) (allc1 rfl) (by rw [engC_len]; simp only [Value.cells]; exact Nat.le_of_lt_succ (by simp only [List.size_toArray, List.length_cons, List.length_nil]; omega)) (fun w127 S128 => ?_)
  simp only [pq]
  have S128 : St w0 F0 w127 F113 (⟨n105, [(.int .i64 nx.start), (.slice xa116 nx.reads.length xc117), (.slice xa118 nx.writes.length xc119)], 141⟩ :: ⟨n25, [(.slice xa15 r.name.length xc16), (.slice xa17 r.key.length xc18), (.bool b_), (.slice xa19 r.last.length xc20)], 179⟩ :: ⟨n5, [(nI k), (.slice a0 r.name.length c0), (.slice a1 r.key.length c1), (.slice a2 r.last.length c2), (.slice a3 r.value.length c3)], 27⟩ :: ⟨n, splice (engC g.up (.slice ad g.tape.data.length cd) g.tape.synced (.slice ac g.commits.length cc) (.slice af g.forests.length cf) g.synced pv g.waits (.slice aw g.waiting.length cw) (.slice ar g.replies.length cr)) (6 + s * 2) [(pP n105 0)], 115⟩ :: L) (engR w0.heap.size (.slice ac g.commits.length cc) g.commits (.slice af g.forests.length cf) g.forests (.slice aw g.waiting.length cw) g.waiting (.slice ar g.replies.length cr) g.replies) := S128
  rw [setTxn_c hs8] at S128
  refine wn hK126 ?_
  refine sk fun K129 hK129 => ?_
  refine dy ?_
  refine wn hK129 ?_
  refine wp_ret ?_
  try simp only [xt]
  refine bR (res_t rfl (gD rfl)) ?_
  obtain ⟨S130, le131, hc132⟩ := St.freezeBlk S128 (i := 0) rfl
  generalize addF F113 w127 n105 = F133 at *
  have ht134 := TxB_upd (x := .pointer (some ⟨n105, 0, none⟩)) (t := some nx) (TxB_mono ht ((le12.trans le114).trans le131)) ⟨_, _, _, _, _, rfl, hc132 0 _ rfl, hc132 1 _ rfl, hc132 2 _ rfl, (r120.mono le131), (r121.mono le131)⟩ s
  have S135 := St.perm S130 (List.perm_middle (l₁ := [_, _]))
  have hM136 : EngM _ _ _ _ n (g.setTxn s (some nx)) _ := ⟨_, _, _, _, _, _, _, _, _, _, _, S135, (hd.mono ((le12.trans le114).trans le131)), ht134⟩
  refine ⟨_, ((le12.trans le114).trans le131), ?_⟩
  rw [hn]
  exact ⟨rfl, (hM136.drop (.cons _ (.cons _ (List.Sublist.refl _))))⟩
open Go.RowKit
set_option maxRecDepth 100000
set_option linter.unusedVariables false
set_option linter.unusedSimpArgs false
theorem clashRow_spec {w0 w : World} {F0 F : Fz} {L : List Blk} {M : List RowP} {hR : ∀ F F' x p, Le F F' → CmC F x p → CmC F' x p} {E base i : Nat} {v u : Value} {t : Tx} {cs : List Cm} {b : Bool} (S : St w0 F0 w F L M) (h : M[i]? = some (ownP 2 CmC hR E base u cs)) (hv : TxV F v t) (ht : TxOk t) (hcs : ∀ c ∈ cs, CmOk c) (hb : clashX t.start t.reads cs = b) :
    Calls Tryz.prog 109 #[v, u] w (Tells w (.tuple #[.bool b, .int .i64 0])) := by
 obtain ⟨F', h1, h2, h3⟩ := own_peek S h
 have := clash_spec F' w v u t cs h1 (hv.mono h2) h3 (fun c hc => by have := (hcs c hc).some.2; omega) (fun r hr => (ht.writes r hr).small)
 rwa [clashE, if_neg (by rw [txE_ok.2 ht]; decide), hb, txE_ok.2 ht] at this
theorem applyE_yes {f g : Forest} {ws : List Wr} (hw : ∀ w ∈ ws, WrOk w) (hl : ws.length ≤ 10) (h : applyF f ws = some g) : applyE f ws = (0, g) := by
 unfold applyE; rw [if_neg (by omega), applyR_ok hw, h]
theorem applyE_no {f : Forest} {ws : List Wr} (hw : ∀ w ∈ ws, WrOk w) (hl : ws.length ≤ 10) (h : applyF f ws = none) : applyE f ws = (11, []) := by
 unfold applyE; rw [if_neg (by omega), applyR_ok hw, h]
theorem forest_at {m : Nat} {g : Eng} (h : EngOk m g) {k : Nat} (hk : k ≤ g.commits.length) : g.forests[k]? = some (g.forest k) := by
 have := h.states
 unfold Eng.forest
 rw [List.getD_eq_getElem?_getD, List.getElem?_eq_getElem (by omega)]
 rfl
theorem forest_ok {m : Nat} {g : Eng} (h : EngOk m g) {k : Nat} (hk : k ≤ g.commits.length) : ForestOk 60 (g.forest k) := by rw [h.state k hk]; exact h.ok k hk
theorem commit_eng (w0 : World) (F0 : Fz) (w : World) (F : Fz) (n : Nat) (g : Eng) (L : List Blk) {m : Nat} (s : Nat) (hs8 : s < 8) (t : Tx) (hM : EngM w0 F0 w F n g L) (hT : Tabs w0) (hg : EngOk m g) (hm : m ≤ 149) (hts : g.txn s = some t) (hq : g.replies.length ≤ 100000) :
    Calls Tryz.prog 92 #[.pointer (some ⟨n, 0, none⟩), .int .i64 ((s : Nat) : Int), .pointer (some ⟨n, 6 + s * 2, none⟩)] w (EngP w0 F0 F n (g.commit s t) L) := by
 obtain ⟨ad, cd, ac, cc, af, cf, aw, cw, ar, cr, pv, S, hd, ht⟩ := hM
 have hb := ht s hs8
 rw [hts] at hb
 obtain ⟨b, x0, y0, x1, y1, hp, b0, b1, b2, r0, r1⟩ := hb
 have htok := (hg.txns s t hts).1
 have hsy := hg.sync
 have hmy := hg.many
 have hst := hg.states
 have hx1 := htok.nw
 have hx2 := htok.nr
 have htl : g.tape.data.length ≤ 90000 := by have := tapeB_len_le hg.hist.ok; rw [hg.data]; omega
 have hts2 := hg.syn
 obtain ⟨i3, hi3, hz3, hs3, hb3⟩ := info_parts info_3
 obtain ⟨i24, hi24, hz24, hs24, hb24⟩ := info_parts info_24
 obtain ⟨i168, hi168, hz168, hs168, hb168⟩ := info_parts info_168
 go_enter Tryz.func92, Tryz.ntmps92
 refine sk fun K4 hK4 => ?_
 refine dx ?_
 refine di ?_
 refine df (fa_112_0 _ _) ?_
 simp only [pq]
 refine dr _ (ex_load rfl (load1 (nagg_110 _) (St.cell S (i := 0) rfl ((engC_txn hs8).trans (congrArg some hp))))) ?_
 refine di ?_
 refine dr _ (ex_load rfl (loadM Tryz.underlying141 rfl (size_141) (range3 (St.fz S b0) (St.fz S b1) (St.fz S b2)))) ?_
 simp only [pq]
 refine sA S (zero_141 _) fun n5 w6 S7 => ?_
 refine sW 0 S7 (size_141) fun w8 S9 => ?_
 refine wn hK4 ?_
 refine wp_seq_k (fun K10 hK10 => ?_)
 refine sk fun K11 hK11 => ?_
 refine df (fa_141_2 _ _) ?_
 refine dl (nagg_40 _) S9 0 ?_
 refine dn Tryz.underlying40 ?_
 simp only [pq]
 by_cases hc22 : t.writes.length = 0
 refine eqlT ?_
 refine wn hK11 ?_
 refine wp_cond_true rfl ?_
 refine sk fun K12 hK12 => ?_
 refine dx ?_
 refine di ?_
 refine df (fa_112_0 _ _) ?_
 simp only [pq]
 refine stStore (i := 1) (v := (.pointer none)) S9 rfl rfl rfl rfl (size_110) (allc1 rfl) (by rw [engC_len]; simp only [Value.cells]; exact Nat.le_of_lt_succ (by simp only [List.size_toArray, List.length_cons, List.length_nil]; omega)) (fun w13 S14 => ?_)
 simp only [pq]
 have S14 : St w0 F0 w13 F (⟨n5, [(.int .i64 t.start), (.slice x0 t.reads.length y0), (.slice x1 t.writes.length y1)], 141⟩ :: ⟨n, splice (engC g.up (.slice ad g.tape.data.length cd) g.tape.synced (.slice ac g.commits.length cc) (.slice af g.forests.length cf) g.synced pv g.waits (.slice aw g.waiting.length cw) (.slice ar g.replies.length cr)) (6 + s * 2) [(.pointer none)], 115⟩ :: L) (engR w0.heap.size (.slice ac g.commits.length cc) g.commits (.slice af g.forests.length cf) g.forests (.slice aw g.waiting.length cw) g.waiting (.slice ar g.replies.length cr) g.replies) := S14
 rw [setTxn_c hs8] at S14
 refine wn hK12 ?_
 refine wp_seq_k (fun K15 hK15 => ?_)
 have ht16 := TxB_upd (x := .pointer none) (t := none) ht rfl s
 refine region_wl ?_
 iterate 2 refine dx ?_
 refine df (fa_141_0 _ _) ?_
 simp only [pq]
 refine dl (nagg_3 _) S14 0 ?_
 refine dr (.agg #[(nI s), (iI 0), (.int .i64 t.start), bF, Zn, Zn, Zn, bF, Zn, Zn, Zn, bF, Zn, Zn, Zn]) (ex_build (bmap2 rfl rfl) (by kernel_rfl)) ?_
 simp only [pq]
 have S17 := St.perm S14 (List.perm_middle (l₁ := [_]))
 have hM18 : EngM _ _ _ _ n (g.setTxn s none) _ := ⟨_, _, _, _, _, _, _, _, _, _, _, S17, hd, ht16⟩
 refine doC rfl (fn2 (ent_79 _ _)) (reply_eng _ _ _ _ _ _ _ _ _ hM18 (RpV.turn _ s t.start) hq) ?_
 rintro _ w19 ⟨rfl, F20, le21, hM22⟩
 refine ⟨_, rfl, ?_⟩
 obtain ⟨ad23, cd24, ac25, cc26, af27, cf28, aw29, cw30, ar31, cr32, pv33, S34, hd35, ht36⟩ := hM22
 refine wl_nil (hK15 _ _ ?_)
 refine wp_ret ?_
 try simp only [xt]
 refine bR (res_ rfl) ?_
 have hM37 : EngM _ _ _ _ n ((g.setTxn s none).reply (repT s t.start)) _ := ⟨_, _, _, _, _, _, _, _, _, _, _, S34, hd35, ht36⟩
 rw [show g.commit s t = ((g.setTxn s none).reply (repT s t.start)) from by unfold Eng.commit; rw [if_pos (List.eq_nil_of_length_eq_zero (by omega))]]
 exact ⟨rfl, _, le21, (hM37.drop (.cons _ (List.Sublist.refl _)))⟩
 refine eqlF ?_
 refine wn hK11 ?_
 refine wp_cond_false rfl ?_
 refine wp_skip ?_
 refine hK10 _ _ ?_
 refine wp_seq_k (fun K38 hK38 => ?_)
 refine wp_seq_k (fun K39 hK39 => ?_)
 have hw : t.writes ≠ [] := by intro e; rw [e] at hc22; exact hc22 rfl
 by_cases h6 : g.commits.length - g.synced = 6
 refine region_gw F 9 [] (by kernel_rfl) (by kernel_rfl) ?_
 simp only [List.take_succ_cons, List.take_zero]
 refine gm ?_
 refine gi ?_
 simp only [pq]
 refine gf (fa_115_2 _ _) ?_
 refine gl nagg_109 S9 1 ?_
 refine gv (nI g.commits.length) (fun _ _ => ex_len Tryz.underlying109 rfl) ?_
 simp only [pq]
 refine gm ?_
 refine gi ?_
 refine gf (fa_115_4 _ _) ?_
 simp only [pq]
 refine gl nagg_3 S9 1 ?_
 refine gw_nil ?_
 intro w41 hC43 hF44
 clear hF44
 have S42 := St.tells S9 hC43
 simp only [List.drop_succ_cons, List.drop_zero]
 refine dSub (g.commits.length - g.synced) ?_
 refine eqlT ?_
 refine dx ?_
 simp only [pq]
 iterate 3 refine nO ?_
 simp only [pq]
 iterate 3 refine nO ?_
 simp only [pq]
 refine dp ?_
 refine wl_nil (hK39 _ _ ?_)
 refine wp_cond_true rfl ?_
 refine sk fun K45 hK45 => ?_
 iterate 2 refine dx ?_
 simp only [pq]
 have S46 := St.perm S42 (List.perm_middle (l₁ := [_]))
 have hM47 : EngM _ _ _ _ n g _ := ⟨_, _, _, _, _, _, _, _, _, _, _, S46, hd, ht⟩
 refine doC rfl (fn3 (ent_76 _ _)) (told_eng _ _ _ _ _ _ _ s 11 hM47 hq) ?_
 rintro _ w48 ⟨rfl, F49, le50, hM51⟩
 refine ⟨_, rfl, ?_⟩
 obtain ⟨ad52, cd53, ac54, cc55, af56, cf57, aw58, cw59, ar60, cr61, pv62, S63, hd64, ht65⟩ := hM51
 refine wn hK45 ?_
 refine wp_ret ?_
 try simp only [xt]
 refine bR (res_ rfl) ?_
 have hM66 : EngM _ _ _ _ n (g.reply (repC s 11)) _ := ⟨_, _, _, _, _, _, _, _, _, _, _, S63, hd64, ht65⟩
 rw [show g.commit s t = (g.reply (repC s 11)) from by unfold Eng.commit; rw [if_neg hw, if_pos (.inl h6)]]
 exact ⟨rfl, _, le50, (hM66.drop (.cons _ (List.Sublist.refl _)))⟩
 refine region_gw F 9 [] (by kernel_rfl) (by kernel_rfl) ?_
 simp only [List.take_succ_cons, List.take_zero]
 refine gm ?_
 refine gi ?_
 refine gf (fa_115_2 _ _) ?_
 simp only [pq]
 refine gl nagg_109 S9 1 ?_
 refine gv (nI g.commits.length) (fun _ _ => ex_len Tryz.underlying109 rfl) ?_
 refine gm ?_
 simp only [pq]
 refine gi ?_
 refine gf (fa_115_4 _ _) ?_
 refine gl nagg_3 S9 1 ?_
 simp only [pq]
 refine gw_nil ?_
 intro w68 hC70 hF71
 clear hF71
 have S69 := St.tells S9 hC70
 simp only [List.drop_succ_cons, List.drop_zero]
 refine dSub (g.commits.length - g.synced) ?_
 refine eqlF ?_
 refine dx ?_
 simp only [pq]
 refine dx ?_
 refine di ?_
 refine df (fa_115_2 _ _) ?_
 simp only [pq]
 refine dl (nagg_109 _) S69 1 ?_
 refine dn Tryz.underlying109 ?_
 refine eqlF ?_
 simp only [pq]
 refine dp ?_
 refine wl_nil (hK39 _ _ ?_)
 refine wp_cond_false rfl ?_
 refine wp_skip ?_
 refine hK38 _ _ ?_
 refine wp_seq_k (fun K72 hK72 => ?_)
 have hno : ¬ (g.commits.length - g.synced = 6 ∨ g.commits.length = 300) := by omega
 refine region_wl ?_
 refine dx ?_
 refine di ?_
 refine df (fa_112_0 _ _) ?_
 simp only [pq]
 refine stStore (i := 1) (v := (.pointer none)) S69 rfl rfl rfl rfl (size_110) (allc1 rfl) (by rw [engC_len]; simp only [Value.cells]; exact Nat.le_of_lt_succ (by simp only [List.size_toArray, List.length_cons, List.length_nil]; omega)) (fun w73 S74 => ?_)
 simp only [pq]
 have S74 : St w0 F0 w73 F (⟨n5, [(.int .i64 t.start), (.slice x0 t.reads.length y0), (.slice x1 t.writes.length y1)], 141⟩ :: ⟨n, splice (engC g.up (.slice ad g.tape.data.length cd) g.tape.synced (.slice ac g.commits.length cc) (.slice af g.forests.length cf) g.synced pv g.waits (.slice aw g.waiting.length cw) (.slice ar g.replies.length cr)) (6 + s * 2) [(.pointer none)], 115⟩ :: L) (engR w0.heap.size (.slice ac g.commits.length cc) g.commits (.slice af g.forests.length cf) g.forests (.slice aw g.waiting.length cw) g.waiting (.slice ar g.replies.length cr) g.replies) := S74
 rw [setTxn_c hs8] at S74
 refine wl_nil (hK72 _ _ ?_)
 refine wp_seq_k (fun K75 hK75 => ?_)
 refine wp_seq_k (fun K76 hK76 => ?_)
 have ht77 := TxB_upd (x := .pointer none) (t := none) ht rfl s
 cases hcl : clashX t.start t.reads g.commits with
 | true =>
  refine region_gw F 10 [(5, .is (.tuple #[bT, (iI 0)]))] (by kernel_rfl) (by kernel_rfl) ?_
  simp only [List.take_succ_cons, List.take_zero]
  refine gv _ (fun _ C78 => ex_load rfl (loadM Tryz.underlying141 rfl (size_141) (St.range (St.tells S74 C78) (i := 0) rfl 0 [(.int .i64 t.start), (.slice x0 t.reads.length y0), (.slice x1 t.writes.length y1)] (sub_range 0 rfl)))) ?_
  refine gm ?_
  refine gi ?_
  simp only [pq]
  refine gf (fa_115_2 _ _) ?_
  refine gl nagg_109 S74 1 ?_
  simp only [pq]
  refine gw_const rfl rfl (v := (.tuple #[bT, (iI 0)])) (fun w78 C78 _ => does_call (ex_fn (vs := #[(.agg #[(.int .i64 t.start), (.slice x0 t.reads.length y0), (.slice x1 t.writes.length y1)]), (.slice ac g.commits.length cc)]) (map2 rfl rfl) rfl (ent_109 _ _)) (call_tells (clashRow_spec (i := 0) (t := t) (b := true) (St.tells S74 C78) rfl ⟨_, _, _, _, rfl, r0, r1⟩ htok hg.hist.ok hcl))) ?_
  refine gm ?_
  refine gv bT (fun _ _ => ex_extract rfl rfl) ?_
  refine gv (iI 0) (fun _ _ => ex_extract rfl rfl) ?_
  simp only [pq]
  refine ga ?_
  refine gw_nil ?_
  intro w79 hC81 hF82
  clear hF82
  have S80 := St.tells S74 hC81
  simp only [List.drop_succ_cons, List.drop_zero]
  refine dy ?_
  refine wl_nil (hK76 _ _ ?_)
  refine sk fun K83 hK83 => ?_
  refine dx ?_
  simp only [pq]
  refine wn hK83 ?_
  refine wp_cond_true rfl ?_
  refine sk fun K84 hK84 => ?_
  iterate 2 refine dx ?_
  simp only [pq]
  have S85 := St.perm S80 (List.perm_middle (l₁ := [_]))
  have hM86 : EngM _ _ _ _ n (g.setTxn s none) _ := ⟨_, _, _, _, _, _, _, _, _, _, _, S85, hd, ht77⟩
  refine doC rfl (fn3 (ent_76 _ _)) (told_eng _ _ _ _ _ _ _ s 9 hM86 hq) ?_
  rintro _ w87 ⟨rfl, F88, le89, hM90⟩
  refine ⟨_, rfl, ?_⟩
  obtain ⟨ad91, cd92, ac93, cc94, af95, cf96, aw97, cw98, ar99, cr100, pv101, S102, hd103, ht104⟩ := hM90
  refine wn hK84 ?_
  refine wp_ret ?_
  try simp only [xt]
  refine bR (res_ rfl) ?_
  have hM105 : EngM _ _ _ _ n ((g.setTxn s none).reply (repC s 9)) _ := ⟨_, _, _, _, _, _, _, _, _, _, _, S102, hd103, ht104⟩
  rw [show g.commit s t = ((g.setTxn s none).reply (repC s 9)) from by unfold Eng.commit; rw [if_neg hw, if_neg hno, if_pos hcl]]
  exact ⟨rfl, _, le89, (hM105.drop (.cons _ (List.Sublist.refl _)))⟩
 | false =>
  refine region_gw F 10 [(5, .is (.tuple #[bF, (iI 0)]))] (by kernel_rfl) (by kernel_rfl) ?_
  simp only [List.take_succ_cons, List.take_zero]
  refine gv _ (fun _ C106 => ex_load rfl (loadM Tryz.underlying141 rfl (size_141) (St.range (St.tells S74 C106) (i := 0) rfl 0 [(.int .i64 t.start), (.slice x0 t.reads.length y0), (.slice x1 t.writes.length y1)] (sub_range 0 rfl)))) ?_
  refine gm ?_
  refine gi ?_
  simp only [pq]
  refine gf (fa_115_2 _ _) ?_
  refine gl nagg_109 S74 1 ?_
  simp only [pq]
  refine gw_const rfl rfl (v := (.tuple #[bF, (iI 0)])) (fun w106 C106 _ => does_call (ex_fn (vs := #[(.agg #[(.int .i64 t.start), (.slice x0 t.reads.length y0), (.slice x1 t.writes.length y1)]), (.slice ac g.commits.length cc)]) (map2 rfl rfl) rfl (ent_109 _ _)) (call_tells (clashRow_spec (i := 0) (t := t) (b := false) (St.tells S74 C106) rfl ⟨_, _, _, _, rfl, r0, r1⟩ htok hg.hist.ok hcl))) ?_
  refine gm ?_
  refine gv bF (fun _ _ => ex_extract rfl rfl) ?_
  refine gv (iI 0) (fun _ _ => ex_extract rfl rfl) ?_
  simp only [pq]
  refine ga ?_
  refine gw_nil ?_
  intro w107 hC109 hF110
  clear hF110
  have S108 := St.tells S74 hC109
  simp only [List.drop_succ_cons, List.drop_zero]
  refine dy ?_
  refine wl_nil (hK76 _ _ ?_)
  refine sk fun K111 hK111 => ?_
  refine dx ?_
  simp only [pq]
  refine wn hK111 ?_
  refine wp_cond_false rfl ?_
  refine wp_skip ?_
  refine hK75 _ _ ?_
  refine wp_seq_k (fun K112 hK112 => ?_)
  refine region_gw F 10 [(9, .rel (NewAt w107 [(iI 0), Zn] 168) (NewAt.stable _ _ _))] (by kernel_rfl) (by kernel_rfl) ?_
  simp only [List.take_succ_cons, List.take_zero]
  refine gm ?_
  refine gi ?_
  refine gf (fa_115_2 _ _) ?_
  simp only [pq]
  refine gl nagg_109 S108 1 ?_
  refine gv (nI g.commits.length) (fun _ _ => ex_len Tryz.underlying109 rfl) ?_
  refine gv (nI (g.commits.length + 1)) (fun _ _ => ex_add (m := ((g.commits.length : Nat) : Int)) (n := (1 : Int)) (r := (((g.commits.length + 1) : Nat) : Int)) rfl rfl (by omega) (by omega) (by omega)) ?_
  simp only [pq]
  refine gf (fa_141_2 _ _) ?_
  refine gl nagg_40 S108 0 ?_
  refine gv (.agg #[(nI (g.commits.length + 1)), (.slice x1 t.writes.length y1)]) (fun _ _ => ex_build (ps := #[(0, (nI (g.commits.length + 1))), (1, (.slice x1 t.writes.length y1))]) (bmap2 rfl rfl) (by kernel_rfl)) ?_
  simp only [pq]
  refine gw_rel rfl rfl (fun w113 C113 _ => does_alloc (cs := [(iI 0), Zn]) (zero_168 _) rfl C113) (fun v114 => ?_)
  refine gw_nil ?_
  intro w115 hC117 hF118
  obtain ⟨n119, rfl, hn120, hb121⟩ := hF118.getR 9 rfl rfl
  have hnbn119 : ∀ u ∈ [(.int .i64 0), (.slice none 0 0)], ∀ x, u ≠ bv x := by intro u hu x; simp only [List.mem_cons, List.not_mem_nil, or_false] at hu; rcases hu with rfl | rfl <;> (unfold bv; simp)
  clear hF118
  have S116 := St.addBlk (cs := [(.int .i64 0), (.slice none 0 0)]) S108 (Gr.of_below S108.sat hC117) hn120 (S108.sat.out hn120) hb121
  simp only [List.drop_succ_cons, List.drop_zero]
  refine sW 0 S116 (size_168) fun w122 S123 => ?_
  simp only [pq]
  refine wl_nil (hK112 _ _ ?_)
  refine wp_seq_k (fun K124 hK124 => ?_)
  have hfa := forest_at hg (Nat.le_refl _)
  have hfo := forest_ok hg (Nat.le_refl _)
  obtain ⟨g125, ha126, xa127, xc128, c129, r130⟩ := fo_at (S123.own (i := 1) rfl) hfa
  cases hap : applyF (g.forest g.commits.length) t.writes with
  | none =>
   refine region_gw F 18 [(13, .made (fun F' u => TnsE [] 11 F' u)), (15, .made (fun F' u => Tns F' u [])), (16, .is (iI 11))] (by kernel_rfl) (by kernel_rfl) ?_
   simp only [List.take_succ_cons, List.take_zero]
   refine gm ?_
   refine gi ?_
   refine gf (fa_115_3 _ _) ?_
   simp only [pq]
   refine gl nagg_106 S123 2 ?_
   refine gm ?_
   refine gi ?_
   simp only [pq]
   refine gf (fa_115_2 _ _) ?_
   refine gl nagg_109 S123 2 ?_
   refine gv (nI g.commits.length) (fun _ _ => ex_len Tryz.underlying109 rfl) ?_
   simp only [pq]
   refine gv (pP g125 (0 + g.commits.length * 1)) (fun _ _ => ex_at (i := g.commits.length) (sz := 1) Tryz.underlying106 (sizeof_24 _) rfl ha126 rfl (by omega) rfl) ?_
   refine gv _ (fun _ C131 => ex_load rfl (load1 (nagg_24 _) (cell_kept C131 c129))) ?_
   refine gf (fa_168_1 _ _) ?_
   simp only [pq]
   refine gl nagg_40 S123 0 ?_
   simp only [pq]
   refine gw_rel rfl rfl (fun w131 C131 hF => does_call (ex_fn (vs := #[(.slice xa127 (g.forest g.commits.length).length xc128), (.slice x1 t.writes.length y1)]) (map2 rfl rfl) rfl (ent_22 _ _)) (call_made S123.sat C131 (apply_is ((St.tells S123 C131)).sat r130 r1 hfo htok.writes (applyE_no htok.writes htok.nw hap)))) (fun v132 => ?_)
   refine gm ?_
   simp only [pq]
   refine gw_rel rfl rfl (fun w131 C131 hF_ => ?_) (fun v137 => ?_)
   obtain ⟨F133, g134, _, rfl, hx136⟩ := hF_.get 13 (by kernel_rfl) rfl rfl
   exact does_val (ex_extract rfl rfl) ⟨F133, g134, hx136⟩ (Below.refl _ _)
   simp only [pq]
   refine gw_const rfl rfl (v := (iI 11)) (fun w131 C131 hF_ => ?_) ?_
   obtain ⟨F138, g139, _, rfl, hx141⟩ := hF_.get 13 (by kernel_rfl) rfl rfl
   exact does_is (ex_extract rfl rfl)
   refine ga ?_
   refine gw_nil ?_
   intro w142 hC144 hF145
   obtain ⟨F146, g147, R148⟩ := hF145.get 15 rfl rfl
   have S143 := St.gives S123 g147
   have le150 : Le _ _ := g147.le S123.sat
   have R151 := R148
   generalize F146 = F149 at *
   obtain ⟨a152, c153, rfl, h154, h155⟩ := Sl.shape R151
   have R151 : Tns _ (.slice a152 ([] : Forest).length c153) [] := R151
   clear hF145
   simp only [List.drop_succ_cons, List.drop_zero]
   refine dy ?_
   simp only [pq]
   refine wl_nil (hK124 _ _ ?_)
   refine wp_seq_k (fun K156 hK156 => ?_)
   refine sk fun K157 hK157 => ?_
   refine dx ?_
   refine dr bT (ex_neq (b := true) rfl rfl (by decide)) ?_
   refine wn hK157 ?_
   refine wp_cond_true rfl ?_
   refine sk fun K158 hK158 => ?_
   iterate 3 refine dx ?_
   simp only [pq]
   have S159 := St.perm S143 (List.perm_middle (l₁ := [_, _]))
   have hM160 : EngM _ _ _ _ n (g.setTxn s none) _ := ⟨_, _, _, _, _, _, _, _, _, _, _, S159, (hd.mono le150), (TxB_mono ht77 le150)⟩
   refine doC rfl (fn3 (ent_76 _ _)) (told_eng _ _ _ _ _ _ _ s 11 hM160 hq) ?_
   rintro _ w161 ⟨rfl, F162, le163, hM164⟩
   refine ⟨_, rfl, ?_⟩
   obtain ⟨ad165, cd166, ac167, cc168, af169, cf170, aw171, cw172, ar173, cr174, pv175, S176, hd177, ht178⟩ := hM164
   refine wn hK158 ?_
   refine wp_ret ?_
   try simp only [xt]
   refine bR (res_ rfl) ?_
   have hM179 : EngM _ _ _ _ n ((g.setTxn s none).reply (repC s 11)) _ := ⟨_, _, _, _, _, _, _, _, _, _, _, S176, hd177, ht178⟩
   rw [show g.commit s t = ((g.setTxn s none).reply (repC s 11)) from by unfold Eng.commit; rw [if_neg hw, if_neg hno, if_neg (by rw [hcl]; decide), hap]]
   exact ⟨rfl, _, (le150.trans le163), (hM179.drop (.cons _ (.cons _ (List.Sublist.refl _))))⟩
  | some f =>
   refine region_gw F 18 [(13, .made (fun F' u => TnsE f 0 F' u)), (15, .made (fun F' u => Tns F' u f)), (16, .is (iI 0))] (by kernel_rfl) (by kernel_rfl) ?_
   simp only [List.take_succ_cons, List.take_zero]
   refine gm ?_
   refine gi ?_
   refine gf (fa_115_3 _ _) ?_
   simp only [pq]
   refine gl nagg_106 S123 2 ?_
   refine gm ?_
   refine gi ?_
   simp only [pq]
   refine gf (fa_115_2 _ _) ?_
   refine gl nagg_109 S123 2 ?_
   refine gv (nI g.commits.length) (fun _ _ => ex_len Tryz.underlying109 rfl) ?_
   simp only [pq]
   refine gv (pP g125 (0 + g.commits.length * 1)) (fun _ _ => ex_at (i := g.commits.length) (sz := 1) Tryz.underlying106 (sizeof_24 _) rfl ha126 rfl (by omega) rfl) ?_
   refine gv _ (fun _ C180 => ex_load rfl (load1 (nagg_24 _) (cell_kept C180 c129))) ?_
   refine gf (fa_168_1 _ _) ?_
   simp only [pq]
   refine gl nagg_40 S123 0 ?_
   simp only [pq]
   refine gw_rel rfl rfl (fun w180 C180 hF => does_call (ex_fn (vs := #[(.slice xa127 (g.forest g.commits.length).length xc128), (.slice x1 t.writes.length y1)]) (map2 rfl rfl) rfl (ent_22 _ _)) (call_made S123.sat C180 (apply_is ((St.tells S123 C180)).sat r130 r1 hfo htok.writes (applyE_yes htok.writes htok.nw hap)))) (fun v181 => ?_)
   refine gm ?_
   simp only [pq]
   refine gw_rel rfl rfl (fun w180 C180 hF_ => ?_) (fun v186 => ?_)
   obtain ⟨F182, g183, _, rfl, hx185⟩ := hF_.get 13 (by kernel_rfl) rfl rfl
   exact does_val (ex_extract rfl rfl) ⟨F182, g183, hx185⟩ (Below.refl _ _)
   simp only [pq]
   refine gw_const rfl rfl (v := (iI 0)) (fun w180 C180 hF_ => ?_) ?_
   obtain ⟨F187, g188, _, rfl, hx190⟩ := hF_.get 13 (by kernel_rfl) rfl rfl
   exact does_is (ex_extract rfl rfl)
   refine ga ?_
   refine gw_nil ?_
   intro w191 hC193 hF194
   obtain ⟨F195, g196, R197⟩ := hF194.get 15 rfl rfl
   have S192 := St.gives S123 g196
   have le199 : Le _ _ := g196.le S123.sat
   have R200 := R197
   generalize F195 = F198 at *
   obtain ⟨a201, c202, rfl, h203, h204⟩ := Sl.shape R200
   have R200 : Tns _ (.slice a201 f.length c202) f := R200
   clear hF194
   simp only [List.drop_succ_cons, List.drop_zero]
   refine dy ?_
   simp only [pq]
   refine wl_nil (hK124 _ _ ?_)
   refine wp_seq_k (fun K205 hK205 => ?_)
   refine sk fun K206 hK206 => ?_
   refine dx ?_
   refine dr bF (ex_neq (b := false) rfl rfl (by decide)) ?_
   refine wn hK206 ?_
   refine wp_cond_false rfl ?_
   refine wp_skip ?_
   refine hK205 _ _ ?_
   refine wp_seq_k (fun K207 hK207 => ?_)
   have hcm : CmOk (⟨g.commits.length + 1, t.writes⟩ : Cm) := ⟨⟨by simp, by simp only; omega⟩, ⟨wr_len htok hw, htok.nw⟩, htok.writes⟩
   refine region_late F198 [0, 1, 2, 3, 4, 5, 6, 7, 9] 8 10 [11] [(5, .made (fun F' u => TpeV (⟨g.tape.data ++ frameB (⟨(g.commits.length + 1), t.writes⟩ : Cm), g.tape.synced⟩ : Tp) 0 F' u)), (7, .made (fun F' u => TpV F' u (⟨g.tape.data ++ frameB (⟨(g.commits.length + 1), t.writes⟩ : Cm), g.tape.synced⟩ : Tp))), (9, .rel (NewAt w191 [Zn, (iI 0)] 108) (NewAt.stable _ _ _)), (8, .is (iI 0))] (by kernel_rfl) (by kernel_rfl) rfl rfl rfl rfl ?_
   simp only [opsAt, List.getElem?_cons_succ, List.getElem?_cons_zero, List.map_cons, List.map_nil]
   refine gp_pure rfl rfl (pP n 0) (fun w208 C208 => pureAt_of (ex_move _)) ?_
   simp only [pq]
   refine gp_pure rfl rfl (pP n 0) (fun w208 C208 => pureAt_of (ex_nil rfl)) ?_
   simp only [pq]
   refine gp_pure rfl rfl (pP n 1) (fun w208 C208 => pureAt_of (ef (fa_115_1 _ _))) ?_
   simp only [pq]
   refine gp_pure rfl rfl (.agg #[(.slice ad g.tape.data.length cd), (nI g.tape.synced)]) (fun w208 C208 => pureAt_of (ex_load rfl (loadN (cs := [(.slice ad g.tape.data.length cd), (nI g.tape.synced)]) Tryz.underlying108 rfl (size_108) (St.range (St.tells S192 C208) (i := 2) rfl 1 [(.slice ad g.tape.data.length cd), (nI g.tape.synced)] (sub_range 1 rfl))))) ?_
   simp only [pq]
   refine gp_pure rfl rfl (.agg #[(nI (g.commits.length + 1)), (.slice x1 t.writes.length y1)]) (fun w208 C208 => pureAt_of (ex_load rfl (loadN (cs := [(nI (g.commits.length + 1)), (.slice x1 t.writes.length y1)]) Tryz.underlying168 rfl (size_168) (St.range (St.tells S192 C208) (i := 0) rfl 0 [(nI (g.commits.length + 1)), (.slice x1 t.writes.length y1)] (sub_range 0 rfl))))) ?_
   simp only [pq]
   refine gp_rel rfl rfl (fun w208 C208 hF => does_call (ex_fn (vs := #[(.agg #[(.slice ad g.tape.data.length cd), (nI g.tape.synced)]), (.agg #[(nI (g.commits.length + 1)), (.slice x1 t.writes.length y1)])]) (map2 rfl rfl) rfl (ent_110 _ _)) (call_made S192.sat C208 (append_spec _ _ _ _ (⟨g.tape.data, g.tape.synced⟩ : Tp) (⟨(g.commits.length + 1), t.writes⟩ : Cm) ((St.tells S192 C208)).sat (hT.at (St.tells S192 C208).gr.below) ⟨_, _, rfl, (hd.mono le199)⟩ ⟨_, _, rfl, (r1.mono le199)⟩ (⟨by simp only; omega, by simp only; omega⟩) hcm))) (fun v209 => ?_)
   simp only [pq]
   refine gp_pure rfl rfl v209 (fun w208 C208 => pureAt_of (ex_move _)) ?_
   simp only [pq]
   refine gp_rel rfl rfl (fun w208 C208 hF_ => ?_) (fun v214 => ?_)
   obtain ⟨F210, g211, _, rfl, hx213⟩ := hF_.get 5 (by kernel_rfl) rfl rfl
   exact does_val (ex_extract rfl rfl) ⟨F210, g211, hx213⟩ (Below.refl _ _)
   simp only [pq]
   refine gp_rel rfl rfl (fun w208 C208 _ => does_alloc (cs := [Zn, (iI 0)]) (zero_108 _) rfl C208) (fun v215 => ?_)
   simp only [pq]
   refine gp_nil (late_ rfl rfl (v := (iI 0)) (fun w208 C208 hF_ => ?_) ?_)
   obtain ⟨F216, g217, _, rfl, hx218⟩ := hF_.get 5 (by kernel_rfl) rfl rfl
   exact fun w1 => pureAt_of (ex_extract rfl rfl)
   intro w219 hC221 hF222
   obtain ⟨n223, rfl, hn224, hb225⟩ := hF222.getR 9 rfl rfl
   have hnbn223 : ∀ u ∈ [(.slice none 0 0), (.int .i64 0)], ∀ x, u ≠ bv x := by intro u hu x; simp only [List.mem_cons, List.not_mem_nil, or_false] at hu; rcases hu with rfl | rfl <;> (unfold bv; simp)
   obtain ⟨F226, g227, R228⟩ := hF222.get 7 rfl rfl
   have g229 := g227.dropF S192.sat hn224
   have R230 := TpV.dropT g227.sat hb225 hnbn223 R228
   have S220 := St.addBlk (cs := [(.slice none 0 0), (.int .i64 0)]) S192 g229 hn224 (dropF_at _ _) hb225
   have le232 : Le _ _ := g229.le S192.sat
   have R233 := R230
   generalize (dropF F226 n223) = F231 at *
   obtain ⟨a234, c235, rfl, r236⟩ := R233
   have r236 : Bs _ (.slice a234 (g.tape.data ++ frameB (⟨(g.commits.length + 1), t.writes⟩ : Cm)).length c235) (g.tape.data ++ frameB (⟨(g.commits.length + 1), t.writes⟩ : Cm)) := r236
   clear hF222
   refine stLate (i := 0) (v := (.agg #[(.slice a234 (g.tape.data ++ frameB (⟨(g.commits.length + 1), t.writes⟩ : Cm)).length c235), (nI g.tape.synced)])) S220 rfl rfl rfl (size_108) (allc2 rfl rfl) (Nat.le_of_ble_eq_true rfl) (fun w237 S238 => ?_)
   refine dy ?_
   simp only [pq]
   refine wl_nil (hK207 _ _ ?_)
   refine wp_seq_k (fun K239 hK239 => ?_)
   refine sk fun K240 hK240 => ?_
   refine dx ?_
   refine dr bF (ex_neq (b := false) rfl rfl (by decide)) ?_
   refine wn hK240 ?_
   refine wp_cond_false rfl ?_
   refine wp_skip ?_
   refine hK239 _ _ ?_
   refine sk fun K241 hK241 => ?_
   iterate 2 refine dx ?_
   refine dR S238 0 Tryz.underlying108 (size_108) ?_
   simp only [pq]
   refine di ?_
   refine df (fa_115_1 _ _) ?_
   refine sW 3 S238 (size_108) fun w242 S243 => ?_
   simp only [pq]
   have S243 : St w0 F0 w242 F231 (⟨n223, [(.slice a234 (g.tape.data ++ frameB (⟨(g.commits.length + 1), t.writes⟩ : Cm)).length c235), (nI g.tape.synced)], 108⟩ :: ⟨n119, [(nI (g.commits.length + 1)), (.slice x1 t.writes.length y1)], 168⟩ :: ⟨n5, [(.int .i64 t.start), (.slice x0 t.reads.length y0), (.slice x1 t.writes.length y1)], 141⟩ :: ⟨n, engC g.up (.slice a234 (g.tape.data ++ frameB (⟨(g.commits.length + 1), t.writes⟩ : Cm)).length c235) g.tape.synced (.slice ac g.commits.length cc) (.slice af g.forests.length cf) g.synced (updN pv s (.pointer none)) g.waits (.slice aw g.waiting.length cw) (.slice ar g.replies.length cr), 115⟩ :: L) (engR w0.heap.size (.slice ac g.commits.length cc) g.commits (.slice af g.forests.length cf) g.forests (.slice aw g.waiting.length cw) g.waiting (.slice ar g.replies.length cr) g.replies) := S243
   refine di ?_
   refine df (fa_112_1 _ _) ?_
   refine stStore (i := 3) (v := bT) S243 rfl rfl rfl rfl (size_4) (allc1 rfl) (by rw [engC_len]; simp only [Value.cells]; exact Nat.le_of_lt_succ (by simp only [List.size_toArray, List.length_cons, List.length_nil]; omega)) (fun w244 S245 => ?_)
   simp only [pq]
   have S245 : St w0 F0 w244 F231 (⟨n223, [(.slice a234 (g.tape.data ++ frameB (⟨(g.commits.length + 1), t.writes⟩ : Cm)).length c235), (nI g.tape.synced)], 108⟩ :: ⟨n119, [(nI (g.commits.length + 1)), (.slice x1 t.writes.length y1)], 168⟩ :: ⟨n5, [(.int .i64 t.start), (.slice x0 t.reads.length y0), (.slice x1 t.writes.length y1)], 141⟩ :: ⟨n, splice (engC g.up (.slice a234 (g.tape.data ++ frameB (⟨(g.commits.length + 1), t.writes⟩ : Cm)).length c235) g.tape.synced (.slice ac g.commits.length cc) (.slice af g.forests.length cf) g.synced (updN pv s (.pointer none)) g.waits (.slice aw g.waiting.length cw) (.slice ar g.replies.length cr)) (6 + s * 2 + 1) [bT], 115⟩ :: L) (engR w0.heap.size (.slice ac g.commits.length cc) g.commits (.slice af g.forests.length cf) g.forests (.slice aw g.waiting.length cw) g.waiting (.slice ar g.replies.length cr) g.replies) := S245
   rw [setWaits_c hs8] at S245
   refine wn hK241 ?_
   refine wp_seq_k (fun K246 hK246 => ?_)
   obtain ⟨S247, le248, hc249⟩ := St.freezeBlk S245 (i := 1) rfl
   generalize addF F231 w244 n119 = F250 at *
   refine region_hl S247 (by kernel_rfl) (fun w252 S251 => ?_)
   refine hl_take 0 rfl (by kernel_rfl) (v := (pP n 0)) (fun _ _ _ h => h) S251.sat rfl (fun w253 hs254 => ex_move _) ?_
   simp only [pq]
   refine hl_take 1 rfl (by kernel_rfl) (v := (pP n 0)) (fun _ _ _ h => h) S251.sat rfl (fun w255 hs256 => ex_move _) ?_
   simp only [pq]
   refine hl_take 2 rfl (by kernel_rfl) (v := (pP n 0)) (fun _ _ _ h => h) S251.sat rfl (fun w257 hs258 => ex_nil rfl) ?_
   simp only [pq]
   refine hl_take 3 rfl (by kernel_rfl) (v := (pP n 3)) (fun _ _ _ h => h) S251.sat rfl (fun w259 hs260 => ef (fa_115_2 _ _)) ?_
   simp only [pq]
   refine hl_take 5 rfl (by kernel_rfl) (v := (.agg #[(nI (g.commits.length + 1)), (.slice x1 t.writes.length y1)])) (fun _ _ _ h => h) S251.sat rfl (fun w261 hs262 => ex_load rfl (loadN (cs := [(nI (g.commits.length + 1)), (.slice x1 t.writes.length y1)]) Tryz.underlying168 rfl (size_168) (rangeF (c := [(nI (g.commits.length + 1)), (.slice x1 t.writes.length y1)]) (St.start hs262).sat hc249))) ?_
   simp only [pq]
   refine hl_two 4 6 (by kernel_rfl) rfl rfl ?_ ?_
   refine dl (nagg_109 _) S251 2 ?_
   refine wl_nil (hl_back S251.sat ?_)
   refine hl_next 6 (by kernel_rfl) rfl ?_
   refine stNew S251 (v := fun n => .slice (aA n 0) 1 1) rfl (ex_lit (ps := #[(0, (.agg #[(nI (g.commits.length + 1)), (.slice x1 t.writes.length y1)]))]) (cells := #[(nI (g.commits.length + 1)), (.slice x1 t.writes.length y1)]) (E := 168) (bmap1 rfl) (fun w => by kernel_rfl)) (fun n263 w264 S265 => ?_)
   refine wl_nil (hl_back S265.sat ?_)
   refine hl_next 7 (by kernel_rfl) rfl ?_
   refine stPush (i := 0) (r := 0) (p := (⟨g.commits.length + 1, t.writes⟩ : Cm)) (cs := [(nI (g.commits.length + 1)), (.slice x1 t.writes.length y1)]) S265 rfl i168 (.agg #[(iI 0), Zn]) 32 Tryz.underlying109 hi168 hz168 hs168 hb168 rfl (by decide) rfl rfl rfl rfl rfl (CmC.oneCell (p := (⟨g.commits.length + 1, t.writes⟩ : Cm)) ⟨_, _, rfl, rfl, (r1.mono ((le199.trans le232).trans le248))⟩) (⟨_, _, rfl, rfl, (r1.mono ((le199.trans le232).trans le248))⟩) (Nat.le_refl _) S265.gr.below.size (by unfold maxLen; omega) (by omega) ?_
   intro v266 w267 S268 hn269
   simp only [pq]
   have S268 := St.drop S268 (.cons _ (List.Sublist.refl _))
   obtain ⟨a270, cap271, rfl, h272, h273⟩ := (S268.own (i := 0) rfl).shape
   unfold maxLen at h273
   refine wl_nil (hl_back S268.sat ?_)
   refine hl_take 8 rfl (by kernel_rfl) (v := (pP n 0)) (fun _ _ _ h => h) S268.sat rfl (fun w274 hs275 => ex_nil rfl) ?_
   simp only [pq]
   refine hl_take 9 rfl (by kernel_rfl) (v := (pP n 3)) (fun _ _ _ h => h) S268.sat rfl (fun w276 hs277 => ef (fa_115_2 _ _)) ?_
   simp only [pq]
   refine hl_next 10 (by kernel_rfl) rfl ?_
   refine sW 2 S268 (size_109) fun w278 S279 => ?_
   refine wl_nil (hl_back S279.sat ?_)
   refine hl_done (by kernel_rfl) ?_
   refine hK246 _ _ ?_
   refine sk fun K280 hK280 => ?_
   iterate 2 refine dx ?_
   refine di ?_
   simp only [pq]
   refine df (fa_115_3 _ _) ?_
   refine dl (nagg_106 _) S279 2 ?_
   refine dx ?_
   simp only [pq]
   refine stNew S279 (v := fun n => .slice (aA n 0) 1 1) rfl (ex_lit (ps := #[(0, (.slice a201 f.length c202))]) (cells := #[(.slice a201 f.length c202)]) (E := 24) (bmap1 rfl) (fun w => by kernel_rfl)) (fun n281 w282 S283 => ?_)
   refine stPush (i := 0) (r := 1) (p := f) (cs := [(.slice a201 f.length c202)]) S283 rfl i24 Zn 24 Tryz.underlying106 hi24 hz24 hs24 hb24 rfl (by decide) rfl rfl rfl rfl rfl (FoC.oneCell (p := f) ⟨_, rfl, (R200.mono (le232.trans le248))⟩) (⟨_, rfl, (R200.mono (le232.trans le248))⟩) (Nat.le_refl _) S283.gr.below.size (by unfold maxLen; omega) (by omega) ?_
   intro v284 w285 S286 hn287
   simp only [pq]
   have S286 := St.drop S286 (.cons _ (List.Sublist.refl _))
   obtain ⟨a288, cap289, rfl, h290, h291⟩ := (S286.own (i := 1) rfl).shape
   unfold maxLen at h291
   refine di ?_
   refine df (fa_115_3 _ _) ?_
   refine sW 2 S286 (size_106) fun w292 S293 => ?_
   simp only [pq]
   refine wn hK280 ?_
   refine region_wl ?_
   iterate 2 refine dx ?_
   refine di ?_
   simp only [pq]
   refine df (fa_115_6 _ _) ?_
   refine dl (nagg_60 _) S293 2 ?_
   refine dx ?_
   simp only [pq]
   refine stNew S293 (v := fun n => .slice (aA n 0) 1 1) rfl (ex_lit (ps := #[(0, (nI s))]) (cells := #[(nI s)]) (E := 3) (bmap1 rfl) (fun w => by kernel_rfl)) (fun n294 w295 S296 => ?_)
   refine stPush (i := 0) (r := 2) (p := s) (cs := [(nI s)]) S296 rfl i3 (iI 0) 8 Tryz.underlying60 hi3 hz3 hs3 hb3 rfl (by decide) rfl rfl rfl rfl rfl (NtC.oneCell (F := F) (p := s) rfl) (rfl) (Nat.le_refl _) S296.gr.below.size (by unfold maxLen; omega) (by omega) ?_
   intro v297 w298 S299 hn300
   simp only [pq]
   have S299 := St.drop S299 (.cons _ (List.Sublist.refl _))
   obtain ⟨a301, cap302, rfl, h303, h304⟩ := (S299.own (i := 2) rfl).shape
   unfold maxLen at h304
   refine di ?_
   refine df (fa_115_6 _ _) ?_
   refine sW 2 S299 (size_60) fun w305 S306 => ?_
   simp only [pq]
   refine wl_nil ?_
   try simp only [xt]
   refine bE (res_ rfl) ?_
   have S307 := St.perm S306 (List.perm_middle (l₁ := [_, _]))
   have hM308 : EngM _ _ _ _ n (g.stand s t f) _ := ⟨_, _, _, _, _, _, _, _, _, _, _, S307, (r236.mono le248), (TxB_mono ht77 ((le199.trans le232).trans le248))⟩
   rw [show g.commit s t = (g.stand s t f) from by unfold Eng.commit; rw [if_neg hw, if_neg hno, if_neg (by rw [hcl]; decide), hap]]
   exact ⟨rfl, _, ((le199.trans le232).trans le248), (hM308.drop (.cons _ (.cons _ (List.Sublist.refl _))))⟩
   refine stNew S251 (v := fun n => .slice (aA n 0) 1 1) rfl (ex_lit (ps := #[(0, (.agg #[(nI (g.commits.length + 1)), (.slice x1 t.writes.length y1)]))]) (cells := #[(nI (g.commits.length + 1)), (.slice x1 t.writes.length y1)]) (E := 168) (bmap1 rfl) (fun w => by kernel_rfl)) (fun n309 w310 S311 => ?_)
   refine wl_nil (hl_back S311.sat ?_)
   refine hl_next 4 (by kernel_rfl) rfl ?_
   refine dl (nagg_109 _) S311 3 ?_
   refine wl_nil (hl_back S311.sat ?_)
   refine hl_next 7 (by kernel_rfl) rfl ?_
   refine stPush (i := 0) (r := 0) (p := (⟨g.commits.length + 1, t.writes⟩ : Cm)) (cs := [(nI (g.commits.length + 1)), (.slice x1 t.writes.length y1)]) S311 rfl i168 (.agg #[(iI 0), Zn]) 32 Tryz.underlying109 hi168 hz168 hs168 hb168 rfl (by decide) rfl rfl rfl rfl rfl (CmC.oneCell (p := (⟨g.commits.length + 1, t.writes⟩ : Cm)) ⟨_, _, rfl, rfl, (r1.mono ((le199.trans le232).trans le248))⟩) (⟨_, _, rfl, rfl, (r1.mono ((le199.trans le232).trans le248))⟩) (Nat.le_refl _) S311.gr.below.size (by unfold maxLen; omega) (by omega) ?_
   intro v312 w313 S314 hn315
   simp only [pq]
   have S314 := St.drop S314 (.cons _ (List.Sublist.refl _))
   obtain ⟨a316, cap317, rfl, h318, h319⟩ := (S314.own (i := 0) rfl).shape
   unfold maxLen at h319
   refine wl_nil (hl_back S314.sat ?_)
   refine hl_take 8 rfl (by kernel_rfl) (v := (pP n 0)) (fun _ _ _ h => h) S314.sat rfl (fun w320 hs321 => ex_nil rfl) ?_
   simp only [pq]
   refine hl_take 9 rfl (by kernel_rfl) (v := (pP n 3)) (fun _ _ _ h => h) S314.sat rfl (fun w322 hs323 => ef (fa_115_2 _ _)) ?_
   simp only [pq]
   refine hl_next 10 (by kernel_rfl) rfl ?_
   refine sW 2 S314 (size_109) fun w324 S325 => ?_
   refine wl_nil (hl_back S325.sat ?_)
   refine hl_done (by kernel_rfl) ?_
   refine hK246 _ _ ?_
   refine sk fun K326 hK326 => ?_
   iterate 2 refine dx ?_
   refine di ?_
   simp only [pq]
   refine df (fa_115_3 _ _) ?_
   refine dl (nagg_106 _) S325 2 ?_
   refine dx ?_
   simp only [pq]
   refine stNew S325 (v := fun n => .slice (aA n 0) 1 1) rfl (ex_lit (ps := #[(0, (.slice a201 f.length c202))]) (cells := #[(.slice a201 f.length c202)]) (E := 24) (bmap1 rfl) (fun w => by kernel_rfl)) (fun n327 w328 S329 => ?_)
   refine stPush (i := 0) (r := 1) (p := f) (cs := [(.slice a201 f.length c202)]) S329 rfl i24 Zn 24 Tryz.underlying106 hi24 hz24 hs24 hb24 rfl (by decide) rfl rfl rfl rfl rfl (FoC.oneCell (p := f) ⟨_, rfl, (R200.mono (le232.trans le248))⟩) (⟨_, rfl, (R200.mono (le232.trans le248))⟩) (Nat.le_refl _) S329.gr.below.size (by unfold maxLen; omega) (by omega) ?_
   intro v330 w331 S332 hn333
   simp only [pq]
   have S332 := St.drop S332 (.cons _ (List.Sublist.refl _))
   obtain ⟨a334, cap335, rfl, h336, h337⟩ := (S332.own (i := 1) rfl).shape
   unfold maxLen at h337
   refine di ?_
   refine df (fa_115_3 _ _) ?_
   refine sW 2 S332 (size_106) fun w338 S339 => ?_
   simp only [pq]
   refine wn hK326 ?_
   refine region_wl ?_
   iterate 2 refine dx ?_
   refine di ?_
   simp only [pq]
   refine df (fa_115_6 _ _) ?_
   refine dl (nagg_60 _) S339 2 ?_
   refine dx ?_
   simp only [pq]
   refine stNew S339 (v := fun n => .slice (aA n 0) 1 1) rfl (ex_lit (ps := #[(0, (nI s))]) (cells := #[(nI s)]) (E := 3) (bmap1 rfl) (fun w => by kernel_rfl)) (fun n340 w341 S342 => ?_)
   refine stPush (i := 0) (r := 2) (p := s) (cs := [(nI s)]) S342 rfl i3 (iI 0) 8 Tryz.underlying60 hi3 hz3 hs3 hb3 rfl (by decide) rfl rfl rfl rfl rfl (NtC.oneCell (F := F) (p := s) rfl) (rfl) (Nat.le_refl _) S342.gr.below.size (by unfold maxLen; omega) (by omega) ?_
   intro v343 w344 S345 hn346
   simp only [pq]
   have S345 := St.drop S345 (.cons _ (List.Sublist.refl _))
   obtain ⟨a347, cap348, rfl, h349, h350⟩ := (S345.own (i := 2) rfl).shape
   unfold maxLen at h350
   refine di ?_
   refine df (fa_115_6 _ _) ?_
   refine sW 2 S345 (size_60) fun w351 S352 => ?_
   simp only [pq]
   refine wl_nil ?_
   try simp only [xt]
   refine bE (res_ rfl) ?_
   have S353 := St.perm S352 (List.perm_middle (l₁ := [_, _]))
   have hM354 : EngM _ _ _ _ n (g.stand s t f) _ := ⟨_, _, _, _, _, _, _, _, _, _, _, S353, (r236.mono le248), (TxB_mono ht77 ((le199.trans le232).trans le248))⟩
   rw [show g.commit s t = (g.stand s t f) from by unfold Eng.commit; rw [if_neg hw, if_neg hno, if_neg (by rw [hcl]; decide), hap]]
   exact ⟨rfl, _, ((le199.trans le232).trans le248), (hM354.drop (.cons _ (.cons _ (List.Sublist.refl _))))⟩
end Go.Proofs.YtilgpdpooildcaaGreatDoor
