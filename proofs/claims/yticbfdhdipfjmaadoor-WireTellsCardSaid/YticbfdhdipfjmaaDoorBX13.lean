/- Rules, plain laws and walks: WQ4 -/
import Derived.Test.YticbfdhdipfjmaaDoorBX12
import Derived.Test.YticbfdhdipfjmaaDoorBX10
namespace Go.Proofs.YticbfdhdipfjmaaDoor
open Go.RowKit
set_option maxRecDepth 100000
set_option linter.unusedVariables false
set_option linter.unusedSimpArgs false
theorem rq_of {k : Nat} {r : Rq} (ok : RqOk k r) (hk : k = 2 ∨ k = 3 ∨ k = 4 ∨ k = 5) : (1 ≤ r.name.length ∧ r.name.length ≤ 8) ∧ (1 ≤ r.key.length ∧ r.key.length ≤ 16) ∧ r.value.length ≤ 32 ∧ (k ≠ 3 → r.last = []) ∧ (k = 3 → 1 ≤ r.last.length ∧ r.last.length ≤ 16) ∧ (k ≠ 4 → r.value = []) := by
  obtain ⟨a1, a2, a3, a4, a5, a6, a7, a8⟩ := parts_ok (h := hasN k) ok.fits
  have e0 : ∀ {l : By}, l.length = 0 → l = [] := fun h => List.eq_nil_of_length_eq_zero h
  rcases hk with rfl | rfl | rfl | rfl
  · exact ⟨a1 rfl, a2 rfl, a4, fun _ => e0 (a7 rfl), fun h => by omega, fun _ => e0 (a8 rfl)⟩
  · exact ⟨a1 rfl, a2 rfl, a4, fun h => absurd rfl h, fun _ => a3 rfl, fun _ => e0 (a8 rfl)⟩
  · exact ⟨a1 rfl, a2 rfl, a4, fun _ => e0 (a7 rfl), fun h => by omega, fun h => absurd rfl h⟩
  · exact ⟨a1 rfl, a2 rfl, a4, fun _ => e0 (a7 rfl), fun h => by omega, fun _ => e0 (a8 rfl)⟩
theorem rd_of {k : Nat} {r : Rq} {b : Bool} (ok : RqOk k r) (hk : (k = 2 ∧ b = false) ∨ (k = 3 ∧ b = true)) : RdOk ⟨r.name, r.key, b, r.last⟩ := by
  obtain ⟨h1, h2, h3, h4, h5, h6⟩ := rq_of ok (by omega)
  rcases hk with ⟨hk, rfl⟩ | ⟨hk, rfl⟩
  · exact ⟨h1, h2, h4 (by omega)⟩
  · exact ⟨h1, h2, h5 hk⟩
theorem wr_of {k : Nat} {r : Rq} {b : Bool} (ok : RqOk k r) (hk : (k = 4 ∧ b = false) ∨ (k = 5 ∧ b = true)) : WrOk ⟨r.name, r.key, b, r.value⟩ := by
  obtain ⟨h1, h2, h3, h4, h5, h6⟩ := rq_of ok (by omega)
  rcases hk with ⟨hk, rfl⟩ | ⟨hk, rfl⟩
  · exact ⟨h1, h2.1, h2.2, h3, fun h => by cases h⟩
  · exact ⟨h1, h2.1, h2.2, h3, fun _ => h6 (by omega)⟩
theorem note_one (r : Rd) : noteX nilX r = some ⟨0, [r], []⟩ := by simp [noteX, nilX]
theorem write_one (w : Wr) : writeX nilX w = some ⟨0, [], [w]⟩ := by simp [writeX, nilX, idxW]
def RdR (p : Rd) (e : Int) (F : Fz) (u : Value) : Prop := ∃ x, u = .tuple #[x, .int .i64 e] ∧ RdV F x p
def WrR (p : Wr) (e : Int) (F : Fz) (u : Value) : Prop := ∃ x, u = .tuple #[x, .int .i64 e] ∧ WrV F x p
set_option maxHeartbeats 8000000 in
theorem wireRead_yes (F : Fz) (w : World) (v : Value) (k : Nat) (r : Rq) {b : Bool} (hs : Sat w F) (hh : Has w) (hv : ReqV F v k r.name r.key r.last r.value) (ok : RqOk k r) (hb : (k = 2 ∧ b = false) ∨ (k = 3 ∧ b = true)) :
    Calls Tryd.prog 15 #[v] w (Gives w F (RdR ⟨r.name, r.key, b, r.last⟩ 0)) := by
 have hk := ok.kind
 obtain ⟨_, _, _, _, rfl, h0, h1, h2, h3⟩ := hv
 obtain ⟨x0, y0, rfl, _⟩ := h0.shape
 obtain ⟨x1, y1, rfl, _⟩ := h1.shape
 obtain ⟨x2, y2, rfl, _⟩ := h2.shape
 obtain ⟨x3, y3, rfl, _⟩ := h3.shape
 have S := St.start hs
 go_enter Tryd.func15, Tryd.ntmps15
 refine wp_seq_k (fun K1 hK1 => region_wl ?_)
 refine stNew S (v := fun n => .pointer (some ⟨n, 0, none⟩)) rfl (ex_box (v := (.agg #[(.int .i64 ((k : Nat) : Int)), (.slice x0 r.name.length y0), (.slice x1 r.key.length y1), (.slice x2 r.last.length y2), (.slice x3 r.value.length y3)])) rfl) (fun n2 w3 S4 => ?_)
 simp only [pS, pN, pA, pC, pZ]
 have S4 : St w F w3 F [⟨n2, [(.int .i64 ((k : Nat) : Int)), (.slice x0 r.name.length y0), (.slice x1 r.key.length y1), (.slice x2 r.last.length y2), (.slice x3 r.value.length y3)], 25⟩] [] := S4
 refine stNew S4 (v := fun n => .pointer (some ⟨n, 0, none⟩)) rfl (ex_alloc (zero_38 _)) (fun n5 w6 S7 => ?_)
 simp only [pS, pN, pA, pC, pZ]
 have S7 : St w F w6 F [⟨n5, [(.slice none 0 0), (.slice none 0 0), (.bool false), (.slice none 0 0)], 38⟩, ⟨n2, [(.int .i64 ((k : Nat) : Int)), (.slice x0 r.name.length y0), (.slice x1 r.key.length y1), (.slice x2 r.last.length y2), (.slice x3 r.value.length y3)], 25⟩] [] := S7
 refine do_ rfl (.int .i64 0) (ex_assign _) ?_
 simp only [pS, pN, pA, pC, pZ]
 refine wl_nil (hK1 _ _ ?_)
 refine wp_seq_k (fun K8 hK8 => ?_)
 refine wp_seq_k (fun K9 hK9 => region_wl ?_)
 refine do_ rfl (.agg #[(.int .i64 ((k : Nat) : Int)), (.slice x0 r.name.length y0), (.slice x1 r.key.length y1), (.slice x2 r.last.length y2), (.slice x3 r.value.length y3)]) (ex_load rfl (loadN (cs := [(.int .i64 ((k : Nat) : Int)), (.slice x0 r.name.length y0), (.slice x1 r.key.length y1), (.slice x2 r.last.length y2), (.slice x3 r.value.length y3)]) Tryd.underlying25 rfl (size_25) (St.range S7 (i := 1) rfl 0 [(.int .i64 ((k : Nat) : Int)), (.slice x0 r.name.length y0), (.slice x1 r.key.length y1), (.slice x2 r.last.length y2), (.slice x3 r.value.length y3)] (sub_range 0 rfl)))) ?_
 simp only [pS, pN, pA, pC, pZ]
 refine stTells (v := (.int .i64 0)) S7 rfl (ex_fn (vs := #[(.agg #[(.int .i64 ((k : Nat) : Int)), (.slice x0 r.name.length y0), (.slice x1 r.key.length y1), (.slice x2 r.last.length y2), (.slice x3 r.value.length y3)])]) (map1 rfl) rfl (ent_23 _ _)) (wireCheckOk_spec _ _ _ k r (hh.below S7.gr.below) ⟨_, _, _, _, rfl, h0, h1, h2, h3⟩ ok) (fun w10 S11 => ?_)
 simp only [pS, pN, pA, pC, pZ]
 refine do_ rfl (.int .i64 0) (ex_assign _) ?_
 simp only [pS, pN, pA, pC, pZ]
 refine wl_nil (hK9 _ _ ?_)
 refine wp_seq_k (fun K12 hK12 => region_wl ?_)
 refine do_ rfl (.int .i64 0) (ex_move _) ?_
 simp only [pS, pN, pA, pC, pZ]
 refine do_ rfl (.bool false) (ex_neq (m := (0 : Int)) (n := (0 : Int)) (b := false) rfl rfl (bne_eq_false_iff_eq.2 (rfl))) ?_
 simp only [pS, pN, pA, pC, pZ]
 refine wl_nil (hK12 _ _ ?_)
 refine wp_cond_false rfl ?_
 refine wp_skip ?_
 refine hK8 _ _ ?_
 refine wp_seq_k (fun K13 hK13 => ?_)
 refine wp_seq_k (fun K14 hK14 => region_wl ?_)
 refine do_ rfl (.pointer (some ⟨n2, 0, none⟩)) (ex_field (q := ⟨n2, 0, none⟩) rfl (fa_25_0 _ _)) ?_
 simp only [pS, pN, pA, pC, pZ]
 refine do_ rfl (.int .i64 ((k : Nat) : Int)) (ex_load rfl (load1 (nagg_3 _) (St.cell S11 (i := 1) rfl rfl))) ?_
 simp only [pS, pN, pA, pC, pZ]
 refine wl_nil (hK14 _ _ ?_)
 refine wp_block ?_
 refine wp_seq_k (fun K15 hK15 => ?_)
 refine wp_seq_k (fun K16 hK16 => ?_)
 rcases hb with ⟨hk, rfl⟩ | ⟨hk, rfl⟩
 ·refine region_wl ?_
  refine do_ rfl (.bool true) (ex_eql (m := ((k : Nat) : Int)) (n := (2 : Int)) (b := true) rfl rfl (beq_iff_eq.2 (by omega))) ?_
  simp only [pS, pN, pA, pC, pZ]
  refine do_ rfl (.bool true) (ex_assign _) ?_
  simp only [pS, pN, pA, pC, pZ]
  refine wl_nil (hK16 _ _ ?_)
  refine wp_cond_true rfl ?_
  refine wp_skip ?_
  refine hK15 _ _ ?_
  refine wp_cond_true rfl ?_
  refine wp_seq_k (fun K17 hK17 => region_wl ?_)
  refine do_ rfl (.agg #[(.int .i64 0), (.slice none 0 0), (.slice none 0 0)]) (ex_build (ps := #[]) (bmap0) (by kernel_rfl)) ?_
  simp only [pS, pN, pA, pC, pZ]
  refine do_ rfl (.pointer (some ⟨n2, 1, none⟩)) (ex_field (q := ⟨n2, 1, none⟩) rfl (fa_25_1 _ _)) ?_
  simp only [pS, pN, pA, pC, pZ]
  refine do_ rfl (.slice x0 r.name.length y0) (ex_load rfl (load1 (nagg_22 _) (St.cell S11 (i := 1) rfl rfl))) ?_
  simp only [pS, pN, pA, pC, pZ]
  refine do_ rfl (.pointer (some ⟨n2, 2, none⟩)) (ex_field (q := ⟨n2, 2, none⟩) rfl (fa_25_2 _ _)) ?_
  simp only [pS, pN, pA, pC, pZ]
  refine do_ rfl (.slice x1 r.key.length y1) (ex_load rfl (load1 (nagg_22 _) (St.cell S11 (i := 1) rfl rfl))) ?_
  simp only [pS, pN, pA, pC, pZ]
  refine do_ rfl (.pointer (some ⟨n2, 0, none⟩)) (ex_field (q := ⟨n2, 0, none⟩) rfl (fa_25_0 _ _)) ?_
  simp only [pS, pN, pA, pC, pZ]
  refine do_ rfl (.int .i64 ((k : Nat) : Int)) (ex_load rfl (load1 (nagg_3 _) (St.cell S11 (i := 1) rfl rfl))) ?_
  simp only [pS, pN, pA, pC, pZ]
  refine do_ rfl (.bool false) (ex_eql (m := ((k : Nat) : Int)) (n := (3 : Int)) (b := false) rfl rfl (beq_eq_false_iff_ne.2 (by omega))) ?_
  simp only [pS, pN, pA, pC, pZ]
  refine do_ rfl (.pointer (some ⟨n2, 3, none⟩)) (ex_field (q := ⟨n2, 3, none⟩) rfl (fa_25_3 _ _)) ?_
  simp only [pS, pN, pA, pC, pZ]
  refine do_ rfl (.slice x2 r.last.length y2) (ex_load rfl (load1 (nagg_22 _) (St.cell S11 (i := 1) rfl rfl))) ?_
  simp only [pS, pN, pA, pC, pZ]
  refine do_ rfl (.agg #[(.slice x0 r.name.length y0), (.slice x1 r.key.length y1), (.bool false), (.slice x2 r.last.length y2)]) (ex_build (ps := #[(0, (.slice x0 r.name.length y0)), (1, (.slice x1 r.key.length y1)), (2, (.bool false)), (3, (.slice x2 r.last.length y2))]) (bmap4 rfl rfl rfl rfl) (by kernel_rfl)) ?_
  simp only [pS, pN, pA, pC, pZ]
  refine stGives S11 rfl (ex_fn (vs := #[(.agg #[(.int .i64 0), (.slice none 0 0), (.slice none 0 0)]), (.agg #[(.slice x0 r.name.length y0), (.slice x1 r.key.length y1), (.bool false), (.slice x2 r.last.length y2)])]) (map2 rfl rfl) rfl (ent_25 _ _)) (txnNoteIs_spec _ _ _ _ nilX (⟨r.name, r.key, false, r.last⟩ : Rd) (⟨0, [(⟨r.name, r.key, false, r.last⟩ : Rd)], []⟩ : Tx) (S11).sat (TxV.nil _) ⟨_, _, _, _, _, _, rfl, h0, h1, h2⟩ nilX_ok (rd_of ok (Or.inl ⟨hk, rfl⟩)) (note_one _)) ?_
  intro v23 w18 F20 S19 le21 R22
  obtain ⟨_, rfl, R24⟩ := R22
  obtain ⟨xa25, xc26, xa27, xc28, rfl, r29, r30⟩ := R24
  simp only [pS, pN, pA, pC, pZ]
  refine do_ rfl (.tuple #[(.agg #[(.int .i64 (⟨0, [(⟨r.name, r.key, false, r.last⟩ : Rd)], []⟩ : Tx).start), (.slice xa25 (⟨0, [(⟨r.name, r.key, false, r.last⟩ : Rd)], []⟩ : Tx).reads.length xc26), (.slice xa27 (⟨0, [(⟨r.name, r.key, false, r.last⟩ : Rd)], []⟩ : Tx).writes.length xc28)]), (.int .i64 0)]) (ex_move _) ?_
  simp only [pS, pN, pA, pC, pZ]
  refine do_ rfl (.agg #[(.int .i64 (⟨0, [(⟨r.name, r.key, false, r.last⟩ : Rd)], []⟩ : Tx).start), (.slice xa25 (⟨0, [(⟨r.name, r.key, false, r.last⟩ : Rd)], []⟩ : Tx).reads.length xc26), (.slice xa27 (⟨0, [(⟨r.name, r.key, false, r.last⟩ : Rd)], []⟩ : Tx).writes.length xc28)]) (ex_extract rfl rfl) ?_
  simp only [pS, pN, pA, pC, pZ]
  refine do_ rfl (.int .i64 0) (ex_extract rfl rfl) ?_
  simp only [pS, pN, pA, pC, pZ]
  refine stNew S19 (v := fun n => .pointer (some ⟨n, 0, none⟩)) rfl (ex_alloc (zero_63 _)) (fun n31 w32 S33 => ?_)
  simp only [pS, pN, pA, pC, pZ]
  have S33 : St w F w32 F20 [⟨n31, [(.int .i64 0), (.slice none 0 0), (.slice none 0 0)], 63⟩, ⟨n5, [(.slice none 0 0), (.slice none 0 0), (.bool false), (.slice none 0 0)], 38⟩, ⟨n2, [(.int .i64 ((k : Nat) : Int)), (.slice x0 r.name.length y0), (.slice x1 r.key.length y1), (.slice x2 r.last.length y2), (.slice x3 r.value.length y3)], 25⟩] [] := S33
  refine stStore (i := 0) (v := (.agg #[(.int .i64 (⟨0, [(⟨r.name, r.key, false, r.last⟩ : Rd)], []⟩ : Tx).start), (.slice xa25 (⟨0, [(⟨r.name, r.key, false, r.last⟩ : Rd)], []⟩ : Tx).reads.length xc26), (.slice xa27 (⟨0, [(⟨r.name, r.key, false, r.last⟩ : Rd)], []⟩ : Tx).writes.length xc28)])) S33 rfl rfl rfl rfl (size_63) (allc3 rfl rfl rfl) (Nat.le_of_ble_eq_true rfl) (fun w34 S35 => ?_)
  simp only [pS, pN, pA, pC, pZ]
  have S35 : St w F w34 F20 [⟨n31, [(.int .i64 (⟨0, [(⟨r.name, r.key, false, r.last⟩ : Rd)], []⟩ : Tx).start), (.slice xa25 (⟨0, [(⟨r.name, r.key, false, r.last⟩ : Rd)], []⟩ : Tx).reads.length xc26), (.slice xa27 (⟨0, [(⟨r.name, r.key, false, r.last⟩ : Rd)], []⟩ : Tx).writes.length xc28)], 63⟩, ⟨n5, [(.slice none 0 0), (.slice none 0 0), (.bool false), (.slice none 0 0)], 38⟩, ⟨n2, [(.int .i64 ((k : Nat) : Int)), (.slice x0 r.name.length y0), (.slice x1 r.key.length y1), (.slice x2 r.last.length y2), (.slice x3 r.value.length y3)], 25⟩] [] := S35
  refine do_ rfl (.int .i64 0) (ex_assign _) ?_
  simp only [pS, pN, pA, pC, pZ]
  refine wl_nil (hK17 _ _ ?_)
  refine wp_seq_k (fun K36 hK36 => ?_)
  refine wp_seq_k (fun K37 hK37 => region_wl ?_)
  refine do_ rfl (.int .i64 0) (ex_move _) ?_
  simp only [pS, pN, pA, pC, pZ]
  refine do_ rfl (.bool false) (ex_neq (m := (0 : Int)) (n := (0 : Int)) (b := false) rfl rfl (bne_eq_false_iff_eq.2 (rfl))) ?_
  simp only [pS, pN, pA, pC, pZ]
  refine wl_nil (hK37 _ _ ?_)
  refine wp_cond_false rfl ?_
  refine wp_skip ?_
  refine hK36 _ _ ?_
  refine wp_seq_k (fun K38 hK38 => ?_)
  have hp : ((⟨0, [(⟨r.name, r.key, false, r.last⟩ : Rd)], []⟩ : Tx).reads)[0]? = some (⟨r.name, r.key, false, r.last⟩ : Rd) := rfl
  obtain ⟨b39, o40, ha41, xa43, xc44, xa47, xc48, xa52, xc53, c42, c46, c50, c51, r45, r49, r54⟩ := Rds.get r29 hp
  refine region_wl ?_
  refine do_ rfl (.pointer (some ⟨n31, 1, none⟩)) (ex_field (q := ⟨n31, 1, none⟩) rfl (fa_63_1 _ _)) ?_
  simp only [pS, pN, pA, pC, pZ]
  refine do_ rfl (.slice xa25 (⟨0, [(⟨r.name, r.key, false, r.last⟩ : Rd)], []⟩ : Tx).reads.length xc26) (ex_load rfl (load1 (nagg_60 _) (St.cell S35 (i := 0) rfl rfl))) ?_
  simp only [pS, pN, pA, pC, pZ]
  refine do_ rfl (.pointer (some ⟨b39, o40 + 0 * 4, none⟩)) (ex_at (i := 0) (sz := 4) Tryd.underlying60 (sizeof_38 _) rfl ha41 rfl (by show 0 < 1; omega) rfl) ?_
  simp only [pS, pN, pA, pC, pZ]
  refine do_ rfl (.agg #[(.slice xa43 (⟨r.name, r.key, false, r.last⟩ : Rd).name.length xc44), (.slice xa47 (⟨r.name, r.key, false, r.last⟩ : Rd).key.length xc48), (.bool (⟨r.name, r.key, false, r.last⟩ : Rd).wide), (.slice xa52 (⟨r.name, r.key, false, r.last⟩ : Rd).last.length xc53)]) (ex_load rfl (loadN (cs := [(.slice xa43 (⟨r.name, r.key, false, r.last⟩ : Rd).name.length xc44), (.slice xa47 (⟨r.name, r.key, false, r.last⟩ : Rd).key.length xc48), (.bool (⟨r.name, r.key, false, r.last⟩ : Rd).wide), (.slice xa52 (⟨r.name, r.key, false, r.last⟩ : Rd).last.length xc53)]) Tryd.underlying38 rfl (size_38) (range4 (St.fz S35 c42) (St.fz S35 c46) (St.fz S35 c50) (St.fz S35 c51)))) ?_
  simp only [pS, pN, pA, pC, pZ]
  refine stStore (i := 1) (v := (.agg #[(.slice xa43 (⟨r.name, r.key, false, r.last⟩ : Rd).name.length xc44), (.slice xa47 (⟨r.name, r.key, false, r.last⟩ : Rd).key.length xc48), (.bool (⟨r.name, r.key, false, r.last⟩ : Rd).wide), (.slice xa52 (⟨r.name, r.key, false, r.last⟩ : Rd).last.length xc53)])) S35 rfl rfl rfl rfl (size_38) (allc4 rfl rfl rfl rfl) (Nat.le_of_ble_eq_true rfl) (fun w55 S56 => ?_)
  simp only [pS, pN, pA, pC, pZ]
  have S56 : St w F w55 F20 [⟨n31, [(.int .i64 (⟨0, [(⟨r.name, r.key, false, r.last⟩ : Rd)], []⟩ : Tx).start), (.slice xa25 (⟨0, [(⟨r.name, r.key, false, r.last⟩ : Rd)], []⟩ : Tx).reads.length xc26), (.slice xa27 (⟨0, [(⟨r.name, r.key, false, r.last⟩ : Rd)], []⟩ : Tx).writes.length xc28)], 63⟩, ⟨n5, [(.slice xa43 (⟨r.name, r.key, false, r.last⟩ : Rd).name.length xc44), (.slice xa47 (⟨r.name, r.key, false, r.last⟩ : Rd).key.length xc48), (.bool (⟨r.name, r.key, false, r.last⟩ : Rd).wide), (.slice xa52 (⟨r.name, r.key, false, r.last⟩ : Rd).last.length xc53)], 38⟩, ⟨n2, [(.int .i64 ((k : Nat) : Int)), (.slice x0 r.name.length y0), (.slice x1 r.key.length y1), (.slice x2 r.last.length y2), (.slice x3 r.value.length y3)], 25⟩] [] := S56
  refine do_ rfl (.int .i64 0) (ex_assign _) ?_
  simp only [pS, pN, pA, pC, pZ]
  refine wl_nil (hK38 _ _ ?_)
  refine wp_ret ?_
  (try simp only [Exit.then, Exit.inBlock, ↓reduceIte, Nat.reduceEqDiff])
  refine bodyPost_ret (v := (.tuple #[(.agg #[(.slice xa43 (⟨r.name, r.key, false, r.last⟩ : Rd).name.length xc44), (.slice xa47 (⟨r.name, r.key, false, r.last⟩ : Rd).key.length xc48), (.bool (⟨r.name, r.key, false, r.last⟩ : Rd).wide), (.slice xa52 (⟨r.name, r.key, false, r.last⟩ : Rd).last.length xc53)]), (.int .i64 0)])) ?_ rfl ?_
  ·exact res_ct rfl ⟨_, rfl, loadN (cs := [(.slice xa43 (⟨r.name, r.key, false, r.last⟩ : Rd).name.length xc44), (.slice xa47 (⟨r.name, r.key, false, r.last⟩ : Rd).key.length xc48), (.bool (⟨r.name, r.key, false, r.last⟩ : Rd).wide), (.slice xa52 (⟨r.name, r.key, false, r.last⟩ : Rd).last.length xc53)]) Tryd.underlying38 rfl (size_38) (St.range S56 (i := 1) rfl 0 [(.slice xa43 (⟨r.name, r.key, false, r.last⟩ : Rd).name.length xc44), (.slice xa47 (⟨r.name, r.key, false, r.last⟩ : Rd).key.length xc48), (.bool (⟨r.name, r.key, false, r.last⟩ : Rd).wide), (.slice xa52 (⟨r.name, r.key, false, r.last⟩ : Rd).last.length xc53)] (sub_range 0 rfl))⟩ rfl
  ·exact ⟨_, _, rfl, S56.gr, _, rfl, _, _, _, _, _, _, rfl, r45, r49, r54⟩
 ·refine region_wl ?_
  refine do_ rfl (.bool false) (ex_eql (m := ((k : Nat) : Int)) (n := (2 : Int)) (b := false) rfl rfl (beq_eq_false_iff_ne.2 (by omega))) ?_
  simp only [pS, pN, pA, pC, pZ]
  refine do_ rfl (.bool false) (ex_assign _) ?_
  simp only [pS, pN, pA, pC, pZ]
  refine wl_nil (hK16 _ _ ?_)
  refine wp_cond_false rfl ?_
  refine region_wl ?_
  refine do_ rfl (.bool true) (ex_eql (m := ((k : Nat) : Int)) (n := (3 : Int)) (b := true) rfl rfl (beq_iff_eq.2 (by omega))) ?_
  simp only [pS, pN, pA, pC, pZ]
  refine do_ rfl (.bool true) (ex_assign _) ?_
  simp only [pS, pN, pA, pC, pZ]
  refine wl_nil (hK15 _ _ ?_)
  refine wp_cond_true rfl ?_
  refine wp_seq_k (fun K57 hK57 => region_wl ?_)
  refine do_ rfl (.agg #[(.int .i64 0), (.slice none 0 0), (.slice none 0 0)]) (ex_build (ps := #[]) (bmap0) (by kernel_rfl)) ?_
  simp only [pS, pN, pA, pC, pZ]
  refine do_ rfl (.pointer (some ⟨n2, 1, none⟩)) (ex_field (q := ⟨n2, 1, none⟩) rfl (fa_25_1 _ _)) ?_
  simp only [pS, pN, pA, pC, pZ]
  refine do_ rfl (.slice x0 r.name.length y0) (ex_load rfl (load1 (nagg_22 _) (St.cell S11 (i := 1) rfl rfl))) ?_
  simp only [pS, pN, pA, pC, pZ]
  refine do_ rfl (.pointer (some ⟨n2, 2, none⟩)) (ex_field (q := ⟨n2, 2, none⟩) rfl (fa_25_2 _ _)) ?_
  simp only [pS, pN, pA, pC, pZ]
  refine do_ rfl (.slice x1 r.key.length y1) (ex_load rfl (load1 (nagg_22 _) (St.cell S11 (i := 1) rfl rfl))) ?_
  simp only [pS, pN, pA, pC, pZ]
  refine do_ rfl (.pointer (some ⟨n2, 0, none⟩)) (ex_field (q := ⟨n2, 0, none⟩) rfl (fa_25_0 _ _)) ?_
  simp only [pS, pN, pA, pC, pZ]
  refine do_ rfl (.int .i64 ((k : Nat) : Int)) (ex_load rfl (load1 (nagg_3 _) (St.cell S11 (i := 1) rfl rfl))) ?_
  simp only [pS, pN, pA, pC, pZ]
  refine do_ rfl (.bool true) (ex_eql (m := ((k : Nat) : Int)) (n := (3 : Int)) (b := true) rfl rfl (beq_iff_eq.2 (by omega))) ?_
  simp only [pS, pN, pA, pC, pZ]
  refine do_ rfl (.pointer (some ⟨n2, 3, none⟩)) (ex_field (q := ⟨n2, 3, none⟩) rfl (fa_25_3 _ _)) ?_
  simp only [pS, pN, pA, pC, pZ]
  refine do_ rfl (.slice x2 r.last.length y2) (ex_load rfl (load1 (nagg_22 _) (St.cell S11 (i := 1) rfl rfl))) ?_
  simp only [pS, pN, pA, pC, pZ]
  refine do_ rfl (.agg #[(.slice x0 r.name.length y0), (.slice x1 r.key.length y1), (.bool true), (.slice x2 r.last.length y2)]) (ex_build (ps := #[(0, (.slice x0 r.name.length y0)), (1, (.slice x1 r.key.length y1)), (2, (.bool true)), (3, (.slice x2 r.last.length y2))]) (bmap4 rfl rfl rfl rfl) (by kernel_rfl)) ?_
  simp only [pS, pN, pA, pC, pZ]
  refine stGives S11 rfl (ex_fn (vs := #[(.agg #[(.int .i64 0), (.slice none 0 0), (.slice none 0 0)]), (.agg #[(.slice x0 r.name.length y0), (.slice x1 r.key.length y1), (.bool true), (.slice x2 r.last.length y2)])]) (map2 rfl rfl) rfl (ent_25 _ _)) (txnNoteIs_spec _ _ _ _ nilX (⟨r.name, r.key, true, r.last⟩ : Rd) (⟨0, [(⟨r.name, r.key, true, r.last⟩ : Rd)], []⟩ : Tx) (S11).sat (TxV.nil _) ⟨_, _, _, _, _, _, rfl, h0, h1, h2⟩ nilX_ok (rd_of ok (Or.inr ⟨hk, rfl⟩)) (note_one _)) ?_
  intro v63 w58 F60 S59 le61 R62
  obtain ⟨_, rfl, R64⟩ := R62
  obtain ⟨xa65, xc66, xa67, xc68, rfl, r69, r70⟩ := R64
  simp only [pS, pN, pA, pC, pZ]
  refine do_ rfl (.tuple #[(.agg #[(.int .i64 (⟨0, [(⟨r.name, r.key, true, r.last⟩ : Rd)], []⟩ : Tx).start), (.slice xa65 (⟨0, [(⟨r.name, r.key, true, r.last⟩ : Rd)], []⟩ : Tx).reads.length xc66), (.slice xa67 (⟨0, [(⟨r.name, r.key, true, r.last⟩ : Rd)], []⟩ : Tx).writes.length xc68)]), (.int .i64 0)]) (ex_move _) ?_
  simp only [pS, pN, pA, pC, pZ]
  refine do_ rfl (.agg #[(.int .i64 (⟨0, [(⟨r.name, r.key, true, r.last⟩ : Rd)], []⟩ : Tx).start), (.slice xa65 (⟨0, [(⟨r.name, r.key, true, r.last⟩ : Rd)], []⟩ : Tx).reads.length xc66), (.slice xa67 (⟨0, [(⟨r.name, r.key, true, r.last⟩ : Rd)], []⟩ : Tx).writes.length xc68)]) (ex_extract rfl rfl) ?_
  simp only [pS, pN, pA, pC, pZ]
  refine do_ rfl (.int .i64 0) (ex_extract rfl rfl) ?_
  simp only [pS, pN, pA, pC, pZ]
  refine stNew S59 (v := fun n => .pointer (some ⟨n, 0, none⟩)) rfl (ex_alloc (zero_63 _)) (fun n71 w72 S73 => ?_)
  simp only [pS, pN, pA, pC, pZ]
  have S73 : St w F w72 F60 [⟨n71, [(.int .i64 0), (.slice none 0 0), (.slice none 0 0)], 63⟩, ⟨n5, [(.slice none 0 0), (.slice none 0 0), (.bool false), (.slice none 0 0)], 38⟩, ⟨n2, [(.int .i64 ((k : Nat) : Int)), (.slice x0 r.name.length y0), (.slice x1 r.key.length y1), (.slice x2 r.last.length y2), (.slice x3 r.value.length y3)], 25⟩] [] := S73
  refine stStore (i := 0) (v := (.agg #[(.int .i64 (⟨0, [(⟨r.name, r.key, true, r.last⟩ : Rd)], []⟩ : Tx).start), (.slice xa65 (⟨0, [(⟨r.name, r.key, true, r.last⟩ : Rd)], []⟩ : Tx).reads.length xc66), (.slice xa67 (⟨0, [(⟨r.name, r.key, true, r.last⟩ : Rd)], []⟩ : Tx).writes.length xc68)])) S73 rfl rfl rfl rfl (size_63) (allc3 rfl rfl rfl) (Nat.le_of_ble_eq_true rfl) (fun w74 S75 => ?_)
  simp only [pS, pN, pA, pC, pZ]
  have S75 : St w F w74 F60 [⟨n71, [(.int .i64 (⟨0, [(⟨r.name, r.key, true, r.last⟩ : Rd)], []⟩ : Tx).start), (.slice xa65 (⟨0, [(⟨r.name, r.key, true, r.last⟩ : Rd)], []⟩ : Tx).reads.length xc66), (.slice xa67 (⟨0, [(⟨r.name, r.key, true, r.last⟩ : Rd)], []⟩ : Tx).writes.length xc68)], 63⟩, ⟨n5, [(.slice none 0 0), (.slice none 0 0), (.bool false), (.slice none 0 0)], 38⟩, ⟨n2, [(.int .i64 ((k : Nat) : Int)), (.slice x0 r.name.length y0), (.slice x1 r.key.length y1), (.slice x2 r.last.length y2), (.slice x3 r.value.length y3)], 25⟩] [] := S75
  refine do_ rfl (.int .i64 0) (ex_assign _) ?_
  simp only [pS, pN, pA, pC, pZ]
  refine wl_nil (hK57 _ _ ?_)
  refine wp_seq_k (fun K76 hK76 => ?_)
  refine wp_seq_k (fun K77 hK77 => region_wl ?_)
  refine do_ rfl (.int .i64 0) (ex_move _) ?_
  simp only [pS, pN, pA, pC, pZ]
  refine do_ rfl (.bool false) (ex_neq (m := (0 : Int)) (n := (0 : Int)) (b := false) rfl rfl (bne_eq_false_iff_eq.2 (rfl))) ?_
  simp only [pS, pN, pA, pC, pZ]
  refine wl_nil (hK77 _ _ ?_)
  refine wp_cond_false rfl ?_
  refine wp_skip ?_
  refine hK76 _ _ ?_
  refine wp_seq_k (fun K78 hK78 => ?_)
  have hp : ((⟨0, [(⟨r.name, r.key, true, r.last⟩ : Rd)], []⟩ : Tx).reads)[0]? = some (⟨r.name, r.key, true, r.last⟩ : Rd) := rfl
  obtain ⟨b79, o80, ha81, xa83, xc84, xa87, xc88, xa92, xc93, c82, c86, c90, c91, r85, r89, r94⟩ := Rds.get r69 hp
  refine region_wl ?_
  refine do_ rfl (.pointer (some ⟨n71, 1, none⟩)) (ex_field (q := ⟨n71, 1, none⟩) rfl (fa_63_1 _ _)) ?_
  simp only [pS, pN, pA, pC, pZ]
  refine do_ rfl (.slice xa65 (⟨0, [(⟨r.name, r.key, true, r.last⟩ : Rd)], []⟩ : Tx).reads.length xc66) (ex_load rfl (load1 (nagg_60 _) (St.cell S75 (i := 0) rfl rfl))) ?_
  simp only [pS, pN, pA, pC, pZ]
  refine do_ rfl (.pointer (some ⟨b79, o80 + 0 * 4, none⟩)) (ex_at (i := 0) (sz := 4) Tryd.underlying60 (sizeof_38 _) rfl ha81 rfl (by show 0 < 1; omega) rfl) ?_
  simp only [pS, pN, pA, pC, pZ]
  refine do_ rfl (.agg #[(.slice xa83 (⟨r.name, r.key, true, r.last⟩ : Rd).name.length xc84), (.slice xa87 (⟨r.name, r.key, true, r.last⟩ : Rd).key.length xc88), (.bool (⟨r.name, r.key, true, r.last⟩ : Rd).wide), (.slice xa92 (⟨r.name, r.key, true, r.last⟩ : Rd).last.length xc93)]) (ex_load rfl (loadN (cs := [(.slice xa83 (⟨r.name, r.key, true, r.last⟩ : Rd).name.length xc84), (.slice xa87 (⟨r.name, r.key, true, r.last⟩ : Rd).key.length xc88), (.bool (⟨r.name, r.key, true, r.last⟩ : Rd).wide), (.slice xa92 (⟨r.name, r.key, true, r.last⟩ : Rd).last.length xc93)]) Tryd.underlying38 rfl (size_38) (range4 (St.fz S75 c82) (St.fz S75 c86) (St.fz S75 c90) (St.fz S75 c91)))) ?_
  simp only [pS, pN, pA, pC, pZ]
  refine stStore (i := 1) (v := (.agg #[(.slice xa83 (⟨r.name, r.key, true, r.last⟩ : Rd).name.length xc84), (.slice xa87 (⟨r.name, r.key, true, r.last⟩ : Rd).key.length xc88), (.bool (⟨r.name, r.key, true, r.last⟩ : Rd).wide), (.slice xa92 (⟨r.name, r.key, true, r.last⟩ : Rd).last.length xc93)])) S75 rfl rfl rfl rfl (size_38) (allc4 rfl rfl rfl rfl) (Nat.le_of_ble_eq_true rfl) (fun w95 S96 => ?_)
  simp only [pS, pN, pA, pC, pZ]
  have S96 : St w F w95 F60 [⟨n71, [(.int .i64 (⟨0, [(⟨r.name, r.key, true, r.last⟩ : Rd)], []⟩ : Tx).start), (.slice xa65 (⟨0, [(⟨r.name, r.key, true, r.last⟩ : Rd)], []⟩ : Tx).reads.length xc66), (.slice xa67 (⟨0, [(⟨r.name, r.key, true, r.last⟩ : Rd)], []⟩ : Tx).writes.length xc68)], 63⟩, ⟨n5, [(.slice xa83 (⟨r.name, r.key, true, r.last⟩ : Rd).name.length xc84), (.slice xa87 (⟨r.name, r.key, true, r.last⟩ : Rd).key.length xc88), (.bool (⟨r.name, r.key, true, r.last⟩ : Rd).wide), (.slice xa92 (⟨r.name, r.key, true, r.last⟩ : Rd).last.length xc93)], 38⟩, ⟨n2, [(.int .i64 ((k : Nat) : Int)), (.slice x0 r.name.length y0), (.slice x1 r.key.length y1), (.slice x2 r.last.length y2), (.slice x3 r.value.length y3)], 25⟩] [] := S96
  refine do_ rfl (.int .i64 0) (ex_assign _) ?_
  simp only [pS, pN, pA, pC, pZ]
  refine wl_nil (hK78 _ _ ?_)
  refine wp_ret ?_
  (try simp only [Exit.then, Exit.inBlock, ↓reduceIte, Nat.reduceEqDiff])
  refine bodyPost_ret (v := (.tuple #[(.agg #[(.slice xa83 (⟨r.name, r.key, true, r.last⟩ : Rd).name.length xc84), (.slice xa87 (⟨r.name, r.key, true, r.last⟩ : Rd).key.length xc88), (.bool (⟨r.name, r.key, true, r.last⟩ : Rd).wide), (.slice xa92 (⟨r.name, r.key, true, r.last⟩ : Rd).last.length xc93)]), (.int .i64 0)])) ?_ rfl ?_
  ·exact res_ct rfl ⟨_, rfl, loadN (cs := [(.slice xa83 (⟨r.name, r.key, true, r.last⟩ : Rd).name.length xc84), (.slice xa87 (⟨r.name, r.key, true, r.last⟩ : Rd).key.length xc88), (.bool (⟨r.name, r.key, true, r.last⟩ : Rd).wide), (.slice xa92 (⟨r.name, r.key, true, r.last⟩ : Rd).last.length xc93)]) Tryd.underlying38 rfl (size_38) (St.range S96 (i := 1) rfl 0 [(.slice xa83 (⟨r.name, r.key, true, r.last⟩ : Rd).name.length xc84), (.slice xa87 (⟨r.name, r.key, true, r.last⟩ : Rd).key.length xc88), (.bool (⟨r.name, r.key, true, r.last⟩ : Rd).wide), (.slice xa92 (⟨r.name, r.key, true, r.last⟩ : Rd).last.length xc93)] (sub_range 0 rfl))⟩ rfl
  ·exact ⟨_, _, rfl, S96.gr, _, rfl, _, _, _, _, _, _, rfl, r85, r89, r94⟩
set_option maxHeartbeats 8000000 in
theorem wireRead_no (F : Fz) (w : World) (v : Value) (k : Nat) (r : Rq) (hs : Sat w F) (hh : Has w) (hv : ReqV F v k r.name r.key r.last r.value) (ok : RqOk k r) (hb : k ≠ 2 ∧ k ≠ 3) :
    Calls Tryd.prog 15 #[v] w (Gives w F (RdR ⟨[], [], false, []⟩ 7)) := by
 have hk := ok.kind
 obtain ⟨_, _, _, _, rfl, h0, h1, h2, h3⟩ := hv
 obtain ⟨x0, y0, rfl, _⟩ := h0.shape
 obtain ⟨x1, y1, rfl, _⟩ := h1.shape
 obtain ⟨x2, y2, rfl, _⟩ := h2.shape
 obtain ⟨x3, y3, rfl, _⟩ := h3.shape
 have S := St.start hs
 go_enter Tryd.func15, Tryd.ntmps15
 refine wp_seq_k (fun K1 hK1 => region_wl ?_)
 refine stNew S (v := fun n => .pointer (some ⟨n, 0, none⟩)) rfl (ex_box (v := (.agg #[(.int .i64 ((k : Nat) : Int)), (.slice x0 r.name.length y0), (.slice x1 r.key.length y1), (.slice x2 r.last.length y2), (.slice x3 r.value.length y3)])) rfl) (fun n2 w3 S4 => ?_)
 simp only [pS, pN, pA, pC, pZ]
 have S4 : St w F w3 F [⟨n2, [(.int .i64 ((k : Nat) : Int)), (.slice x0 r.name.length y0), (.slice x1 r.key.length y1), (.slice x2 r.last.length y2), (.slice x3 r.value.length y3)], 25⟩] [] := S4
 refine stNew S4 (v := fun n => .pointer (some ⟨n, 0, none⟩)) rfl (ex_alloc (zero_38 _)) (fun n5 w6 S7 => ?_)
 simp only [pS, pN, pA, pC, pZ]
 have S7 : St w F w6 F [⟨n5, [(.slice none 0 0), (.slice none 0 0), (.bool false), (.slice none 0 0)], 38⟩, ⟨n2, [(.int .i64 ((k : Nat) : Int)), (.slice x0 r.name.length y0), (.slice x1 r.key.length y1), (.slice x2 r.last.length y2), (.slice x3 r.value.length y3)], 25⟩] [] := S7
 refine do_ rfl (.int .i64 0) (ex_assign _) ?_
 simp only [pS, pN, pA, pC, pZ]
 refine wl_nil (hK1 _ _ ?_)
 refine wp_seq_k (fun K8 hK8 => ?_)
 refine wp_seq_k (fun K9 hK9 => region_wl ?_)
 refine do_ rfl (.agg #[(.int .i64 ((k : Nat) : Int)), (.slice x0 r.name.length y0), (.slice x1 r.key.length y1), (.slice x2 r.last.length y2), (.slice x3 r.value.length y3)]) (ex_load rfl (loadN (cs := [(.int .i64 ((k : Nat) : Int)), (.slice x0 r.name.length y0), (.slice x1 r.key.length y1), (.slice x2 r.last.length y2), (.slice x3 r.value.length y3)]) Tryd.underlying25 rfl (size_25) (St.range S7 (i := 1) rfl 0 [(.int .i64 ((k : Nat) : Int)), (.slice x0 r.name.length y0), (.slice x1 r.key.length y1), (.slice x2 r.last.length y2), (.slice x3 r.value.length y3)] (sub_range 0 rfl)))) ?_
 simp only [pS, pN, pA, pC, pZ]
 refine stTells (v := (.int .i64 0)) S7 rfl (ex_fn (vs := #[(.agg #[(.int .i64 ((k : Nat) : Int)), (.slice x0 r.name.length y0), (.slice x1 r.key.length y1), (.slice x2 r.last.length y2), (.slice x3 r.value.length y3)])]) (map1 rfl) rfl (ent_23 _ _)) (wireCheckOk_spec _ _ _ k r (hh.below S7.gr.below) ⟨_, _, _, _, rfl, h0, h1, h2, h3⟩ ok) (fun w10 S11 => ?_)
 simp only [pS, pN, pA, pC, pZ]
 refine do_ rfl (.int .i64 0) (ex_assign _) ?_
 simp only [pS, pN, pA, pC, pZ]
 refine wl_nil (hK9 _ _ ?_)
 refine wp_seq_k (fun K12 hK12 => region_wl ?_)
 refine do_ rfl (.int .i64 0) (ex_move _) ?_
 simp only [pS, pN, pA, pC, pZ]
 refine do_ rfl (.bool false) (ex_neq (m := (0 : Int)) (n := (0 : Int)) (b := false) rfl rfl (bne_eq_false_iff_eq.2 (rfl))) ?_
 simp only [pS, pN, pA, pC, pZ]
 refine wl_nil (hK12 _ _ ?_)
 refine wp_cond_false rfl ?_
 refine wp_skip ?_
 refine hK8 _ _ ?_
 refine wp_seq_k (fun K13 hK13 => ?_)
 refine wp_seq_k (fun K14 hK14 => region_wl ?_)
 refine do_ rfl (.pointer (some ⟨n2, 0, none⟩)) (ex_field (q := ⟨n2, 0, none⟩) rfl (fa_25_0 _ _)) ?_
 simp only [pS, pN, pA, pC, pZ]
 refine do_ rfl (.int .i64 ((k : Nat) : Int)) (ex_load rfl (load1 (nagg_3 _) (St.cell S11 (i := 1) rfl rfl))) ?_
 simp only [pS, pN, pA, pC, pZ]
 refine wl_nil (hK14 _ _ ?_)
 refine wp_block ?_
 refine wp_seq_k (fun K15 hK15 => ?_)
 refine wp_seq_k (fun K16 hK16 => region_wl ?_)
 refine do_ rfl (.bool false) (ex_eql (m := ((k : Nat) : Int)) (n := (2 : Int)) (b := false) rfl rfl (beq_eq_false_iff_ne.2 (by omega))) ?_
 simp only [pS, pN, pA, pC, pZ]
 refine do_ rfl (.bool false) (ex_assign _) ?_
 simp only [pS, pN, pA, pC, pZ]
 refine wl_nil (hK16 _ _ ?_)
 refine wp_cond_false rfl ?_
 refine region_wl ?_
 refine do_ rfl (.bool false) (ex_eql (m := ((k : Nat) : Int)) (n := (3 : Int)) (b := false) rfl rfl (beq_eq_false_iff_ne.2 (by omega))) ?_
 simp only [pS, pN, pA, pC, pZ]
 refine do_ rfl (.bool false) (ex_assign _) ?_
 simp only [pS, pN, pA, pC, pZ]
 refine wl_nil (hK15 _ _ ?_)
 refine wp_cond_false rfl ?_
 refine wp_skip ?_
 refine hK13 _ _ ?_
 refine wp_seq_k (fun K17 hK17 => region_wl ?_)
 refine do_ rfl (.agg #[(.slice none 0 0), (.slice none 0 0), (.bool false), (.slice none 0 0)]) (ex_build (ps := #[]) (bmap0) (by kernel_rfl)) ?_
 simp only [pS, pN, pA, pC, pZ]
 refine stStore (i := 0) (v := (.agg #[(.slice none 0 0), (.slice none 0 0), (.bool false), (.slice none 0 0)])) S11 rfl rfl rfl rfl (size_38) (allc4 rfl rfl rfl rfl) (Nat.le_of_ble_eq_true rfl) (fun w18 S19 => ?_)
 simp only [pS, pN, pA, pC, pZ]
 have S19 : St w F w18 F [⟨n5, [(.slice none 0 0), (.slice none 0 0), (.bool false), (.slice none 0 0)], 38⟩, ⟨n2, [(.int .i64 ((k : Nat) : Int)), (.slice x0 r.name.length y0), (.slice x1 r.key.length y1), (.slice x2 r.last.length y2), (.slice x3 r.value.length y3)], 25⟩] [] := S19
 refine do_ rfl (.int .i64 7) (ex_assign _) ?_
 simp only [pS, pN, pA, pC, pZ]
 refine wl_nil (hK17 _ _ ?_)
 refine wp_ret ?_
 (try simp only [Exit.then, Exit.inBlock, ↓reduceIte, Nat.reduceEqDiff])
 refine bodyPost_ret (v := (.tuple #[(.agg #[(.slice none 0 0), (.slice none 0 0), (.bool false), (.slice none 0 0)]), (.int .i64 7)])) ?_ rfl ?_
 ·exact res_ct rfl ⟨_, rfl, loadN (cs := [(.slice none 0 0), (.slice none 0 0), (.bool false), (.slice none 0 0)]) Tryd.underlying38 rfl (size_38) (St.range S19 (i := 0) rfl 0 [(.slice none 0 0), (.slice none 0 0), (.bool false), (.slice none 0 0)] (sub_range 0 rfl))⟩ rfl
 ·exact ⟨_, _, rfl, S19.gr, _, rfl, _, _, _, _, _, _, rfl, Bs.nil _, Bs.nil _, Bs.nil _⟩
set_option maxHeartbeats 8000000 in
theorem wireWrite_yes (F : Fz) (w : World) (v : Value) (k : Nat) (r : Rq) {b : Bool} (hs : Sat w F) (hh : Has w) (hv : ReqV F v k r.name r.key r.last r.value) (ok : RqOk k r) (hb : (k = 4 ∧ b = false) ∨ (k = 5 ∧ b = true)) :
    Calls Tryd.prog 16 #[v] w (Gives w F (WrR ⟨r.name, r.key, b, r.value⟩ 0)) := by
 have hk := ok.kind
 obtain ⟨_, _, _, _, rfl, h0, h1, h2, h3⟩ := hv
 obtain ⟨x0, y0, rfl, _⟩ := h0.shape
 obtain ⟨x1, y1, rfl, _⟩ := h1.shape
 obtain ⟨x2, y2, rfl, _⟩ := h2.shape
 obtain ⟨x3, y3, rfl, _⟩ := h3.shape
 have S := St.start hs
 go_enter Tryd.func16, Tryd.ntmps16
 refine wp_seq_k (fun K1 hK1 => region_wl ?_)
 refine stNew S (v := fun n => .pointer (some ⟨n, 0, none⟩)) rfl (ex_box (v := (.agg #[(.int .i64 ((k : Nat) : Int)), (.slice x0 r.name.length y0), (.slice x1 r.key.length y1), (.slice x2 r.last.length y2), (.slice x3 r.value.length y3)])) rfl) (fun n2 w3 S4 => ?_)
 simp only [pS, pN, pA, pC, pZ]
 have S4 : St w F w3 F [⟨n2, [(.int .i64 ((k : Nat) : Int)), (.slice x0 r.name.length y0), (.slice x1 r.key.length y1), (.slice x2 r.last.length y2), (.slice x3 r.value.length y3)], 25⟩] [] := S4
 refine stNew S4 (v := fun n => .pointer (some ⟨n, 0, none⟩)) rfl (ex_alloc (zero_42 _)) (fun n5 w6 S7 => ?_)
 simp only [pS, pN, pA, pC, pZ]
 have S7 : St w F w6 F [⟨n5, [(.slice none 0 0), (.slice none 0 0), (.bool false), (.slice none 0 0)], 42⟩, ⟨n2, [(.int .i64 ((k : Nat) : Int)), (.slice x0 r.name.length y0), (.slice x1 r.key.length y1), (.slice x2 r.last.length y2), (.slice x3 r.value.length y3)], 25⟩] [] := S7
 refine do_ rfl (.int .i64 0) (ex_assign _) ?_
 simp only [pS, pN, pA, pC, pZ]
 refine wl_nil (hK1 _ _ ?_)
 refine wp_seq_k (fun K8 hK8 => ?_)
 refine wp_seq_k (fun K9 hK9 => region_wl ?_)
 refine do_ rfl (.agg #[(.int .i64 ((k : Nat) : Int)), (.slice x0 r.name.length y0), (.slice x1 r.key.length y1), (.slice x2 r.last.length y2), (.slice x3 r.value.length y3)]) (ex_load rfl (loadN (cs := [(.int .i64 ((k : Nat) : Int)), (.slice x0 r.name.length y0), (.slice x1 r.key.length y1), (.slice x2 r.last.length y2), (.slice x3 r.value.length y3)]) Tryd.underlying25 rfl (size_25) (St.range S7 (i := 1) rfl 0 [(.int .i64 ((k : Nat) : Int)), (.slice x0 r.name.length y0), (.slice x1 r.key.length y1), (.slice x2 r.last.length y2), (.slice x3 r.value.length y3)] (sub_range 0 rfl)))) ?_
 simp only [pS, pN, pA, pC, pZ]
 refine stTells (v := (.int .i64 0)) S7 rfl (ex_fn (vs := #[(.agg #[(.int .i64 ((k : Nat) : Int)), (.slice x0 r.name.length y0), (.slice x1 r.key.length y1), (.slice x2 r.last.length y2), (.slice x3 r.value.length y3)])]) (map1 rfl) rfl (ent_23 _ _)) (wireCheckOk_spec _ _ _ k r (hh.below S7.gr.below) ⟨_, _, _, _, rfl, h0, h1, h2, h3⟩ ok) (fun w10 S11 => ?_)
 simp only [pS, pN, pA, pC, pZ]
 refine do_ rfl (.int .i64 0) (ex_assign _) ?_
 simp only [pS, pN, pA, pC, pZ]
 refine wl_nil (hK9 _ _ ?_)
 refine wp_seq_k (fun K12 hK12 => region_wl ?_)
 refine do_ rfl (.int .i64 0) (ex_move _) ?_
 simp only [pS, pN, pA, pC, pZ]
 refine do_ rfl (.bool false) (ex_neq (m := (0 : Int)) (n := (0 : Int)) (b := false) rfl rfl (bne_eq_false_iff_eq.2 (rfl))) ?_
 simp only [pS, pN, pA, pC, pZ]
 refine wl_nil (hK12 _ _ ?_)
 refine wp_cond_false rfl ?_
 refine wp_skip ?_
 refine hK8 _ _ ?_
 refine wp_seq_k (fun K13 hK13 => ?_)
 refine wp_seq_k (fun K14 hK14 => region_wl ?_)
 refine do_ rfl (.pointer (some ⟨n2, 0, none⟩)) (ex_field (q := ⟨n2, 0, none⟩) rfl (fa_25_0 _ _)) ?_
 simp only [pS, pN, pA, pC, pZ]
 refine do_ rfl (.int .i64 ((k : Nat) : Int)) (ex_load rfl (load1 (nagg_3 _) (St.cell S11 (i := 1) rfl rfl))) ?_
 simp only [pS, pN, pA, pC, pZ]
 refine wl_nil (hK14 _ _ ?_)
 refine wp_block ?_
 refine wp_seq_k (fun K15 hK15 => ?_)
 refine wp_seq_k (fun K16 hK16 => ?_)
 rcases hb with ⟨hk, rfl⟩ | ⟨hk, rfl⟩
 ·refine region_wl ?_
  refine do_ rfl (.bool true) (ex_eql (m := ((k : Nat) : Int)) (n := (4 : Int)) (b := true) rfl rfl (beq_iff_eq.2 (by omega))) ?_
  simp only [pS, pN, pA, pC, pZ]
  refine do_ rfl (.bool true) (ex_assign _) ?_
  simp only [pS, pN, pA, pC, pZ]
  refine wl_nil (hK16 _ _ ?_)
  refine wp_cond_true rfl ?_
  refine wp_skip ?_
  refine hK15 _ _ ?_
  refine wp_cond_true rfl ?_
  refine wp_seq_k (fun K17 hK17 => region_wl ?_)
  refine do_ rfl (.agg #[(.int .i64 0), (.slice none 0 0), (.slice none 0 0)]) (ex_build (ps := #[]) (bmap0) (by kernel_rfl)) ?_
  simp only [pS, pN, pA, pC, pZ]
  refine do_ rfl (.pointer (some ⟨n2, 1, none⟩)) (ex_field (q := ⟨n2, 1, none⟩) rfl (fa_25_1 _ _)) ?_
  simp only [pS, pN, pA, pC, pZ]
  refine do_ rfl (.slice x0 r.name.length y0) (ex_load rfl (load1 (nagg_22 _) (St.cell S11 (i := 1) rfl rfl))) ?_
  simp only [pS, pN, pA, pC, pZ]
  refine do_ rfl (.pointer (some ⟨n2, 2, none⟩)) (ex_field (q := ⟨n2, 2, none⟩) rfl (fa_25_2 _ _)) ?_
  simp only [pS, pN, pA, pC, pZ]
  refine do_ rfl (.slice x1 r.key.length y1) (ex_load rfl (load1 (nagg_22 _) (St.cell S11 (i := 1) rfl rfl))) ?_
  simp only [pS, pN, pA, pC, pZ]
  refine do_ rfl (.pointer (some ⟨n2, 0, none⟩)) (ex_field (q := ⟨n2, 0, none⟩) rfl (fa_25_0 _ _)) ?_
  simp only [pS, pN, pA, pC, pZ]
  refine do_ rfl (.int .i64 ((k : Nat) : Int)) (ex_load rfl (load1 (nagg_3 _) (St.cell S11 (i := 1) rfl rfl))) ?_
  simp only [pS, pN, pA, pC, pZ]
  refine do_ rfl (.bool false) (ex_eql (m := ((k : Nat) : Int)) (n := (5 : Int)) (b := false) rfl rfl (beq_eq_false_iff_ne.2 (by omega))) ?_
  simp only [pS, pN, pA, pC, pZ]
  refine do_ rfl (.pointer (some ⟨n2, 4, none⟩)) (ex_field (q := ⟨n2, 4, none⟩) rfl (fa_25_4 _ _)) ?_
  simp only [pS, pN, pA, pC, pZ]
  refine do_ rfl (.slice x3 r.value.length y3) (ex_load rfl (load1 (nagg_22 _) (St.cell S11 (i := 1) rfl rfl))) ?_
  simp only [pS, pN, pA, pC, pZ]
  refine do_ rfl (.agg #[(.slice x0 r.name.length y0), (.slice x1 r.key.length y1), (.bool false), (.slice x3 r.value.length y3)]) (ex_build (ps := #[(0, (.slice x0 r.name.length y0)), (1, (.slice x1 r.key.length y1)), (2, (.bool false)), (3, (.slice x3 r.value.length y3))]) (bmap4 rfl rfl rfl rfl) (by kernel_rfl)) ?_
  simp only [pS, pN, pA, pC, pZ]
  refine stGives S11 rfl (ex_fn (vs := #[(.agg #[(.int .i64 0), (.slice none 0 0), (.slice none 0 0)]), (.agg #[(.slice x0 r.name.length y0), (.slice x1 r.key.length y1), (.bool false), (.slice x3 r.value.length y3)])]) (map2 rfl rfl) rfl (ent_26 _ _)) (txnWriteIs_spec _ _ _ _ nilX (⟨r.name, r.key, false, r.value⟩ : Wr) (⟨0, [], [(⟨r.name, r.key, false, r.value⟩ : Wr)]⟩ : Tx) (S11).sat (TxV.nil _) ⟨_, _, _, _, _, _, rfl, h0, h1, h3⟩ nilX_ok (wr_of ok (Or.inl ⟨hk, rfl⟩)) (write_one _)) ?_
  intro v23 w18 F20 S19 le21 R22
  obtain ⟨_, rfl, R24⟩ := R22
  obtain ⟨xa25, xc26, xa27, xc28, rfl, r29, r30⟩ := R24
  simp only [pS, pN, pA, pC, pZ]
  refine do_ rfl (.tuple #[(.agg #[(.int .i64 (⟨0, [], [(⟨r.name, r.key, false, r.value⟩ : Wr)]⟩ : Tx).start), (.slice xa25 (⟨0, [], [(⟨r.name, r.key, false, r.value⟩ : Wr)]⟩ : Tx).reads.length xc26), (.slice xa27 (⟨0, [], [(⟨r.name, r.key, false, r.value⟩ : Wr)]⟩ : Tx).writes.length xc28)]), (.int .i64 0)]) (ex_move _) ?_
  simp only [pS, pN, pA, pC, pZ]
  refine do_ rfl (.agg #[(.int .i64 (⟨0, [], [(⟨r.name, r.key, false, r.value⟩ : Wr)]⟩ : Tx).start), (.slice xa25 (⟨0, [], [(⟨r.name, r.key, false, r.value⟩ : Wr)]⟩ : Tx).reads.length xc26), (.slice xa27 (⟨0, [], [(⟨r.name, r.key, false, r.value⟩ : Wr)]⟩ : Tx).writes.length xc28)]) (ex_extract rfl rfl) ?_
  simp only [pS, pN, pA, pC, pZ]
  refine do_ rfl (.int .i64 0) (ex_extract rfl rfl) ?_
  simp only [pS, pN, pA, pC, pZ]
  refine stNew S19 (v := fun n => .pointer (some ⟨n, 0, none⟩)) rfl (ex_alloc (zero_63 _)) (fun n31 w32 S33 => ?_)
  simp only [pS, pN, pA, pC, pZ]
  have S33 : St w F w32 F20 [⟨n31, [(.int .i64 0), (.slice none 0 0), (.slice none 0 0)], 63⟩, ⟨n5, [(.slice none 0 0), (.slice none 0 0), (.bool false), (.slice none 0 0)], 42⟩, ⟨n2, [(.int .i64 ((k : Nat) : Int)), (.slice x0 r.name.length y0), (.slice x1 r.key.length y1), (.slice x2 r.last.length y2), (.slice x3 r.value.length y3)], 25⟩] [] := S33
  refine stStore (i := 0) (v := (.agg #[(.int .i64 (⟨0, [], [(⟨r.name, r.key, false, r.value⟩ : Wr)]⟩ : Tx).start), (.slice xa25 (⟨0, [], [(⟨r.name, r.key, false, r.value⟩ : Wr)]⟩ : Tx).reads.length xc26), (.slice xa27 (⟨0, [], [(⟨r.name, r.key, false, r.value⟩ : Wr)]⟩ : Tx).writes.length xc28)])) S33 rfl rfl rfl rfl (size_63) (allc3 rfl rfl rfl) (Nat.le_of_ble_eq_true rfl) (fun w34 S35 => ?_)
  simp only [pS, pN, pA, pC, pZ]
  have S35 : St w F w34 F20 [⟨n31, [(.int .i64 (⟨0, [], [(⟨r.name, r.key, false, r.value⟩ : Wr)]⟩ : Tx).start), (.slice xa25 (⟨0, [], [(⟨r.name, r.key, false, r.value⟩ : Wr)]⟩ : Tx).reads.length xc26), (.slice xa27 (⟨0, [], [(⟨r.name, r.key, false, r.value⟩ : Wr)]⟩ : Tx).writes.length xc28)], 63⟩, ⟨n5, [(.slice none 0 0), (.slice none 0 0), (.bool false), (.slice none 0 0)], 42⟩, ⟨n2, [(.int .i64 ((k : Nat) : Int)), (.slice x0 r.name.length y0), (.slice x1 r.key.length y1), (.slice x2 r.last.length y2), (.slice x3 r.value.length y3)], 25⟩] [] := S35
  refine do_ rfl (.int .i64 0) (ex_assign _) ?_
  simp only [pS, pN, pA, pC, pZ]
  refine wl_nil (hK17 _ _ ?_)
  refine wp_seq_k (fun K36 hK36 => ?_)
  refine wp_seq_k (fun K37 hK37 => region_wl ?_)
  refine do_ rfl (.int .i64 0) (ex_move _) ?_
  simp only [pS, pN, pA, pC, pZ]
  refine do_ rfl (.bool false) (ex_neq (m := (0 : Int)) (n := (0 : Int)) (b := false) rfl rfl (bne_eq_false_iff_eq.2 (rfl))) ?_
  simp only [pS, pN, pA, pC, pZ]
  refine wl_nil (hK37 _ _ ?_)
  refine wp_cond_false rfl ?_
  refine wp_skip ?_
  refine hK36 _ _ ?_
  refine wp_seq_k (fun K38 hK38 => ?_)
  have hp : ((⟨0, [], [(⟨r.name, r.key, false, r.value⟩ : Wr)]⟩ : Tx).writes)[0]? = some (⟨r.name, r.key, false, r.value⟩ : Wr) := rfl
  obtain ⟨b39, o40, ha41, xa43, xc44, xa47, xc48, xa52, xc53, c42, c46, c50, c51, r45, r49, r54⟩ := Wrs.get r30 hp
  refine region_wl ?_
  refine do_ rfl (.pointer (some ⟨n31, 2, none⟩)) (ex_field (q := ⟨n31, 2, none⟩) rfl (fa_63_2 _ _)) ?_
  simp only [pS, pN, pA, pC, pZ]
  refine do_ rfl (.slice xa27 (⟨0, [], [(⟨r.name, r.key, false, r.value⟩ : Wr)]⟩ : Tx).writes.length xc28) (ex_load rfl (load1 (nagg_61 _) (St.cell S35 (i := 0) rfl rfl))) ?_
  simp only [pS, pN, pA, pC, pZ]
  refine do_ rfl (.pointer (some ⟨b39, o40 + 0 * 4, none⟩)) (ex_at (i := 0) (sz := 4) Tryd.underlying61 (sizeof_42 _) rfl ha41 rfl (by show 0 < 1; omega) rfl) ?_
  simp only [pS, pN, pA, pC, pZ]
  refine do_ rfl (.agg #[(.slice xa43 (⟨r.name, r.key, false, r.value⟩ : Wr).name.length xc44), (.slice xa47 (⟨r.name, r.key, false, r.value⟩ : Wr).key.length xc48), (.bool (⟨r.name, r.key, false, r.value⟩ : Wr).gone), (.slice xa52 (⟨r.name, r.key, false, r.value⟩ : Wr).value.length xc53)]) (ex_load rfl (loadN (cs := [(.slice xa43 (⟨r.name, r.key, false, r.value⟩ : Wr).name.length xc44), (.slice xa47 (⟨r.name, r.key, false, r.value⟩ : Wr).key.length xc48), (.bool (⟨r.name, r.key, false, r.value⟩ : Wr).gone), (.slice xa52 (⟨r.name, r.key, false, r.value⟩ : Wr).value.length xc53)]) Tryd.underlying42 rfl (size_42) (range4 (St.fz S35 c42) (St.fz S35 c46) (St.fz S35 c50) (St.fz S35 c51)))) ?_
  simp only [pS, pN, pA, pC, pZ]
  refine stStore (i := 1) (v := (.agg #[(.slice xa43 (⟨r.name, r.key, false, r.value⟩ : Wr).name.length xc44), (.slice xa47 (⟨r.name, r.key, false, r.value⟩ : Wr).key.length xc48), (.bool (⟨r.name, r.key, false, r.value⟩ : Wr).gone), (.slice xa52 (⟨r.name, r.key, false, r.value⟩ : Wr).value.length xc53)])) S35 rfl rfl rfl rfl (size_42) (allc4 rfl rfl rfl rfl) (Nat.le_of_ble_eq_true rfl) (fun w55 S56 => ?_)
  simp only [pS, pN, pA, pC, pZ]
  have S56 : St w F w55 F20 [⟨n31, [(.int .i64 (⟨0, [], [(⟨r.name, r.key, false, r.value⟩ : Wr)]⟩ : Tx).start), (.slice xa25 (⟨0, [], [(⟨r.name, r.key, false, r.value⟩ : Wr)]⟩ : Tx).reads.length xc26), (.slice xa27 (⟨0, [], [(⟨r.name, r.key, false, r.value⟩ : Wr)]⟩ : Tx).writes.length xc28)], 63⟩, ⟨n5, [(.slice xa43 (⟨r.name, r.key, false, r.value⟩ : Wr).name.length xc44), (.slice xa47 (⟨r.name, r.key, false, r.value⟩ : Wr).key.length xc48), (.bool (⟨r.name, r.key, false, r.value⟩ : Wr).gone), (.slice xa52 (⟨r.name, r.key, false, r.value⟩ : Wr).value.length xc53)], 42⟩, ⟨n2, [(.int .i64 ((k : Nat) : Int)), (.slice x0 r.name.length y0), (.slice x1 r.key.length y1), (.slice x2 r.last.length y2), (.slice x3 r.value.length y3)], 25⟩] [] := S56
  refine do_ rfl (.int .i64 0) (ex_assign _) ?_
  simp only [pS, pN, pA, pC, pZ]
  refine wl_nil (hK38 _ _ ?_)
  refine wp_ret ?_
  (try simp only [Exit.then, Exit.inBlock, ↓reduceIte, Nat.reduceEqDiff])
  refine bodyPost_ret (v := (.tuple #[(.agg #[(.slice xa43 (⟨r.name, r.key, false, r.value⟩ : Wr).name.length xc44), (.slice xa47 (⟨r.name, r.key, false, r.value⟩ : Wr).key.length xc48), (.bool (⟨r.name, r.key, false, r.value⟩ : Wr).gone), (.slice xa52 (⟨r.name, r.key, false, r.value⟩ : Wr).value.length xc53)]), (.int .i64 0)])) ?_ rfl ?_
  ·exact res_ct rfl ⟨_, rfl, loadN (cs := [(.slice xa43 (⟨r.name, r.key, false, r.value⟩ : Wr).name.length xc44), (.slice xa47 (⟨r.name, r.key, false, r.value⟩ : Wr).key.length xc48), (.bool (⟨r.name, r.key, false, r.value⟩ : Wr).gone), (.slice xa52 (⟨r.name, r.key, false, r.value⟩ : Wr).value.length xc53)]) Tryd.underlying42 rfl (size_42) (St.range S56 (i := 1) rfl 0 [(.slice xa43 (⟨r.name, r.key, false, r.value⟩ : Wr).name.length xc44), (.slice xa47 (⟨r.name, r.key, false, r.value⟩ : Wr).key.length xc48), (.bool (⟨r.name, r.key, false, r.value⟩ : Wr).gone), (.slice xa52 (⟨r.name, r.key, false, r.value⟩ : Wr).value.length xc53)] (sub_range 0 rfl))⟩ rfl
  ·exact ⟨_, _, rfl, S56.gr, _, rfl, _, _, _, _, _, _, rfl, r45, r49, r54⟩
 ·refine region_wl ?_
  refine do_ rfl (.bool false) (ex_eql (m := ((k : Nat) : Int)) (n := (4 : Int)) (b := false) rfl rfl (beq_eq_false_iff_ne.2 (by omega))) ?_
  simp only [pS, pN, pA, pC, pZ]
  refine do_ rfl (.bool false) (ex_assign _) ?_
  simp only [pS, pN, pA, pC, pZ]
  refine wl_nil (hK16 _ _ ?_)
  refine wp_cond_false rfl ?_
  refine region_wl ?_
  refine do_ rfl (.bool true) (ex_eql (m := ((k : Nat) : Int)) (n := (5 : Int)) (b := true) rfl rfl (beq_iff_eq.2 (by omega))) ?_
  simp only [pS, pN, pA, pC, pZ]
  refine do_ rfl (.bool true) (ex_assign _) ?_
  simp only [pS, pN, pA, pC, pZ]
  refine wl_nil (hK15 _ _ ?_)
  refine wp_cond_true rfl ?_
  refine wp_seq_k (fun K57 hK57 => region_wl ?_)
  refine do_ rfl (.agg #[(.int .i64 0), (.slice none 0 0), (.slice none 0 0)]) (ex_build (ps := #[]) (bmap0) (by kernel_rfl)) ?_
  simp only [pS, pN, pA, pC, pZ]
  refine do_ rfl (.pointer (some ⟨n2, 1, none⟩)) (ex_field (q := ⟨n2, 1, none⟩) rfl (fa_25_1 _ _)) ?_
  simp only [pS, pN, pA, pC, pZ]
  refine do_ rfl (.slice x0 r.name.length y0) (ex_load rfl (load1 (nagg_22 _) (St.cell S11 (i := 1) rfl rfl))) ?_
  simp only [pS, pN, pA, pC, pZ]
  refine do_ rfl (.pointer (some ⟨n2, 2, none⟩)) (ex_field (q := ⟨n2, 2, none⟩) rfl (fa_25_2 _ _)) ?_
  simp only [pS, pN, pA, pC, pZ]
  refine do_ rfl (.slice x1 r.key.length y1) (ex_load rfl (load1 (nagg_22 _) (St.cell S11 (i := 1) rfl rfl))) ?_
  simp only [pS, pN, pA, pC, pZ]
  refine do_ rfl (.pointer (some ⟨n2, 0, none⟩)) (ex_field (q := ⟨n2, 0, none⟩) rfl (fa_25_0 _ _)) ?_
  simp only [pS, pN, pA, pC, pZ]
  refine do_ rfl (.int .i64 ((k : Nat) : Int)) (ex_load rfl (load1 (nagg_3 _) (St.cell S11 (i := 1) rfl rfl))) ?_
  simp only [pS, pN, pA, pC, pZ]
  refine do_ rfl (.bool true) (ex_eql (m := ((k : Nat) : Int)) (n := (5 : Int)) (b := true) rfl rfl (beq_iff_eq.2 (by omega))) ?_
  simp only [pS, pN, pA, pC, pZ]
  refine do_ rfl (.pointer (some ⟨n2, 4, none⟩)) (ex_field (q := ⟨n2, 4, none⟩) rfl (fa_25_4 _ _)) ?_
  simp only [pS, pN, pA, pC, pZ]
  refine do_ rfl (.slice x3 r.value.length y3) (ex_load rfl (load1 (nagg_22 _) (St.cell S11 (i := 1) rfl rfl))) ?_
  simp only [pS, pN, pA, pC, pZ]
  refine do_ rfl (.agg #[(.slice x0 r.name.length y0), (.slice x1 r.key.length y1), (.bool true), (.slice x3 r.value.length y3)]) (ex_build (ps := #[(0, (.slice x0 r.name.length y0)), (1, (.slice x1 r.key.length y1)), (2, (.bool true)), (3, (.slice x3 r.value.length y3))]) (bmap4 rfl rfl rfl rfl) (by kernel_rfl)) ?_
  simp only [pS, pN, pA, pC, pZ]
  refine stGives S11 rfl (ex_fn (vs := #[(.agg #[(.int .i64 0), (.slice none 0 0), (.slice none 0 0)]), (.agg #[(.slice x0 r.name.length y0), (.slice x1 r.key.length y1), (.bool true), (.slice x3 r.value.length y3)])]) (map2 rfl rfl) rfl (ent_26 _ _)) (txnWriteIs_spec _ _ _ _ nilX (⟨r.name, r.key, true, r.value⟩ : Wr) (⟨0, [], [(⟨r.name, r.key, true, r.value⟩ : Wr)]⟩ : Tx) (S11).sat (TxV.nil _) ⟨_, _, _, _, _, _, rfl, h0, h1, h3⟩ nilX_ok (wr_of ok (Or.inr ⟨hk, rfl⟩)) (write_one _)) ?_
  intro v63 w58 F60 S59 le61 R62
  obtain ⟨_, rfl, R64⟩ := R62
  obtain ⟨xa65, xc66, xa67, xc68, rfl, r69, r70⟩ := R64
  simp only [pS, pN, pA, pC, pZ]
  refine do_ rfl (.tuple #[(.agg #[(.int .i64 (⟨0, [], [(⟨r.name, r.key, true, r.value⟩ : Wr)]⟩ : Tx).start), (.slice xa65 (⟨0, [], [(⟨r.name, r.key, true, r.value⟩ : Wr)]⟩ : Tx).reads.length xc66), (.slice xa67 (⟨0, [], [(⟨r.name, r.key, true, r.value⟩ : Wr)]⟩ : Tx).writes.length xc68)]), (.int .i64 0)]) (ex_move _) ?_
  simp only [pS, pN, pA, pC, pZ]
  refine do_ rfl (.agg #[(.int .i64 (⟨0, [], [(⟨r.name, r.key, true, r.value⟩ : Wr)]⟩ : Tx).start), (.slice xa65 (⟨0, [], [(⟨r.name, r.key, true, r.value⟩ : Wr)]⟩ : Tx).reads.length xc66), (.slice xa67 (⟨0, [], [(⟨r.name, r.key, true, r.value⟩ : Wr)]⟩ : Tx).writes.length xc68)]) (ex_extract rfl rfl) ?_
  simp only [pS, pN, pA, pC, pZ]
  refine do_ rfl (.int .i64 0) (ex_extract rfl rfl) ?_
  simp only [pS, pN, pA, pC, pZ]
  refine stNew S59 (v := fun n => .pointer (some ⟨n, 0, none⟩)) rfl (ex_alloc (zero_63 _)) (fun n71 w72 S73 => ?_)
  simp only [pS, pN, pA, pC, pZ]
  have S73 : St w F w72 F60 [⟨n71, [(.int .i64 0), (.slice none 0 0), (.slice none 0 0)], 63⟩, ⟨n5, [(.slice none 0 0), (.slice none 0 0), (.bool false), (.slice none 0 0)], 42⟩, ⟨n2, [(.int .i64 ((k : Nat) : Int)), (.slice x0 r.name.length y0), (.slice x1 r.key.length y1), (.slice x2 r.last.length y2), (.slice x3 r.value.length y3)], 25⟩] [] := S73
  refine stStore (i := 0) (v := (.agg #[(.int .i64 (⟨0, [], [(⟨r.name, r.key, true, r.value⟩ : Wr)]⟩ : Tx).start), (.slice xa65 (⟨0, [], [(⟨r.name, r.key, true, r.value⟩ : Wr)]⟩ : Tx).reads.length xc66), (.slice xa67 (⟨0, [], [(⟨r.name, r.key, true, r.value⟩ : Wr)]⟩ : Tx).writes.length xc68)])) S73 rfl rfl rfl rfl (size_63) (allc3 rfl rfl rfl) (Nat.le_of_ble_eq_true rfl) (fun w74 S75 => ?_)
  simp only [pS, pN, pA, pC, pZ]
  have S75 : St w F w74 F60 [⟨n71, [(.int .i64 (⟨0, [], [(⟨r.name, r.key, true, r.value⟩ : Wr)]⟩ : Tx).start), (.slice xa65 (⟨0, [], [(⟨r.name, r.key, true, r.value⟩ : Wr)]⟩ : Tx).reads.length xc66), (.slice xa67 (⟨0, [], [(⟨r.name, r.key, true, r.value⟩ : Wr)]⟩ : Tx).writes.length xc68)], 63⟩, ⟨n5, [(.slice none 0 0), (.slice none 0 0), (.bool false), (.slice none 0 0)], 42⟩, ⟨n2, [(.int .i64 ((k : Nat) : Int)), (.slice x0 r.name.length y0), (.slice x1 r.key.length y1), (.slice x2 r.last.length y2), (.slice x3 r.value.length y3)], 25⟩] [] := S75
  refine do_ rfl (.int .i64 0) (ex_assign _) ?_
  simp only [pS, pN, pA, pC, pZ]
  refine wl_nil (hK57 _ _ ?_)
  refine wp_seq_k (fun K76 hK76 => ?_)
  refine wp_seq_k (fun K77 hK77 => region_wl ?_)
  refine do_ rfl (.int .i64 0) (ex_move _) ?_
  simp only [pS, pN, pA, pC, pZ]
  refine do_ rfl (.bool false) (ex_neq (m := (0 : Int)) (n := (0 : Int)) (b := false) rfl rfl (bne_eq_false_iff_eq.2 (rfl))) ?_
  simp only [pS, pN, pA, pC, pZ]
  refine wl_nil (hK77 _ _ ?_)
  refine wp_cond_false rfl ?_
  refine wp_skip ?_
  refine hK76 _ _ ?_
  refine wp_seq_k (fun K78 hK78 => ?_)
  have hp : ((⟨0, [], [(⟨r.name, r.key, true, r.value⟩ : Wr)]⟩ : Tx).writes)[0]? = some (⟨r.name, r.key, true, r.value⟩ : Wr) := rfl
  obtain ⟨b79, o80, ha81, xa83, xc84, xa87, xc88, xa92, xc93, c82, c86, c90, c91, r85, r89, r94⟩ := Wrs.get r70 hp
  refine region_wl ?_
  refine do_ rfl (.pointer (some ⟨n71, 2, none⟩)) (ex_field (q := ⟨n71, 2, none⟩) rfl (fa_63_2 _ _)) ?_
  simp only [pS, pN, pA, pC, pZ]
  refine do_ rfl (.slice xa67 (⟨0, [], [(⟨r.name, r.key, true, r.value⟩ : Wr)]⟩ : Tx).writes.length xc68) (ex_load rfl (load1 (nagg_61 _) (St.cell S75 (i := 0) rfl rfl))) ?_
  simp only [pS, pN, pA, pC, pZ]
  refine do_ rfl (.pointer (some ⟨b79, o80 + 0 * 4, none⟩)) (ex_at (i := 0) (sz := 4) Tryd.underlying61 (sizeof_42 _) rfl ha81 rfl (by show 0 < 1; omega) rfl) ?_
  simp only [pS, pN, pA, pC, pZ]
  refine do_ rfl (.agg #[(.slice xa83 (⟨r.name, r.key, true, r.value⟩ : Wr).name.length xc84), (.slice xa87 (⟨r.name, r.key, true, r.value⟩ : Wr).key.length xc88), (.bool (⟨r.name, r.key, true, r.value⟩ : Wr).gone), (.slice xa92 (⟨r.name, r.key, true, r.value⟩ : Wr).value.length xc93)]) (ex_load rfl (loadN (cs := [(.slice xa83 (⟨r.name, r.key, true, r.value⟩ : Wr).name.length xc84), (.slice xa87 (⟨r.name, r.key, true, r.value⟩ : Wr).key.length xc88), (.bool (⟨r.name, r.key, true, r.value⟩ : Wr).gone), (.slice xa92 (⟨r.name, r.key, true, r.value⟩ : Wr).value.length xc93)]) Tryd.underlying42 rfl (size_42) (range4 (St.fz S75 c82) (St.fz S75 c86) (St.fz S75 c90) (St.fz S75 c91)))) ?_
  simp only [pS, pN, pA, pC, pZ]
  refine stStore (i := 1) (v := (.agg #[(.slice xa83 (⟨r.name, r.key, true, r.value⟩ : Wr).name.length xc84), (.slice xa87 (⟨r.name, r.key, true, r.value⟩ : Wr).key.length xc88), (.bool (⟨r.name, r.key, true, r.value⟩ : Wr).gone), (.slice xa92 (⟨r.name, r.key, true, r.value⟩ : Wr).value.length xc93)])) S75 rfl rfl rfl rfl (size_42) (allc4 rfl rfl rfl rfl) (Nat.le_of_ble_eq_true rfl) (fun w95 S96 => ?_)
  simp only [pS, pN, pA, pC, pZ]
  have S96 : St w F w95 F60 [⟨n71, [(.int .i64 (⟨0, [], [(⟨r.name, r.key, true, r.value⟩ : Wr)]⟩ : Tx).start), (.slice xa65 (⟨0, [], [(⟨r.name, r.key, true, r.value⟩ : Wr)]⟩ : Tx).reads.length xc66), (.slice xa67 (⟨0, [], [(⟨r.name, r.key, true, r.value⟩ : Wr)]⟩ : Tx).writes.length xc68)], 63⟩, ⟨n5, [(.slice xa83 (⟨r.name, r.key, true, r.value⟩ : Wr).name.length xc84), (.slice xa87 (⟨r.name, r.key, true, r.value⟩ : Wr).key.length xc88), (.bool (⟨r.name, r.key, true, r.value⟩ : Wr).gone), (.slice xa92 (⟨r.name, r.key, true, r.value⟩ : Wr).value.length xc93)], 42⟩, ⟨n2, [(.int .i64 ((k : Nat) : Int)), (.slice x0 r.name.length y0), (.slice x1 r.key.length y1), (.slice x2 r.last.length y2), (.slice x3 r.value.length y3)], 25⟩] [] := S96
  refine do_ rfl (.int .i64 0) (ex_assign _) ?_
  simp only [pS, pN, pA, pC, pZ]
  refine wl_nil (hK78 _ _ ?_)
  refine wp_ret ?_
  (try simp only [Exit.then, Exit.inBlock, ↓reduceIte, Nat.reduceEqDiff])
  refine bodyPost_ret (v := (.tuple #[(.agg #[(.slice xa83 (⟨r.name, r.key, true, r.value⟩ : Wr).name.length xc84), (.slice xa87 (⟨r.name, r.key, true, r.value⟩ : Wr).key.length xc88), (.bool (⟨r.name, r.key, true, r.value⟩ : Wr).gone), (.slice xa92 (⟨r.name, r.key, true, r.value⟩ : Wr).value.length xc93)]), (.int .i64 0)])) ?_ rfl ?_
  ·exact res_ct rfl ⟨_, rfl, loadN (cs := [(.slice xa83 (⟨r.name, r.key, true, r.value⟩ : Wr).name.length xc84), (.slice xa87 (⟨r.name, r.key, true, r.value⟩ : Wr).key.length xc88), (.bool (⟨r.name, r.key, true, r.value⟩ : Wr).gone), (.slice xa92 (⟨r.name, r.key, true, r.value⟩ : Wr).value.length xc93)]) Tryd.underlying42 rfl (size_42) (St.range S96 (i := 1) rfl 0 [(.slice xa83 (⟨r.name, r.key, true, r.value⟩ : Wr).name.length xc84), (.slice xa87 (⟨r.name, r.key, true, r.value⟩ : Wr).key.length xc88), (.bool (⟨r.name, r.key, true, r.value⟩ : Wr).gone), (.slice xa92 (⟨r.name, r.key, true, r.value⟩ : Wr).value.length xc93)] (sub_range 0 rfl))⟩ rfl
  ·exact ⟨_, _, rfl, S96.gr, _, rfl, _, _, _, _, _, _, rfl, r85, r89, r94⟩
set_option maxHeartbeats 8000000 in
theorem wireWrite_no (F : Fz) (w : World) (v : Value) (k : Nat) (r : Rq) (hs : Sat w F) (hh : Has w) (hv : ReqV F v k r.name r.key r.last r.value) (ok : RqOk k r) (hb : k ≠ 4 ∧ k ≠ 5) :
    Calls Tryd.prog 16 #[v] w (Gives w F (WrR ⟨[], [], false, []⟩ 7)) := by
 have hk := ok.kind
 obtain ⟨_, _, _, _, rfl, h0, h1, h2, h3⟩ := hv
 obtain ⟨x0, y0, rfl, _⟩ := h0.shape
 obtain ⟨x1, y1, rfl, _⟩ := h1.shape
 obtain ⟨x2, y2, rfl, _⟩ := h2.shape
 obtain ⟨x3, y3, rfl, _⟩ := h3.shape
 have S := St.start hs
 go_enter Tryd.func16, Tryd.ntmps16
 refine wp_seq_k (fun K1 hK1 => region_wl ?_)
 refine stNew S (v := fun n => .pointer (some ⟨n, 0, none⟩)) rfl (ex_box (v := (.agg #[(.int .i64 ((k : Nat) : Int)), (.slice x0 r.name.length y0), (.slice x1 r.key.length y1), (.slice x2 r.last.length y2), (.slice x3 r.value.length y3)])) rfl) (fun n2 w3 S4 => ?_)
 simp only [pS, pN, pA, pC, pZ]
 have S4 : St w F w3 F [⟨n2, [(.int .i64 ((k : Nat) : Int)), (.slice x0 r.name.length y0), (.slice x1 r.key.length y1), (.slice x2 r.last.length y2), (.slice x3 r.value.length y3)], 25⟩] [] := S4
 refine stNew S4 (v := fun n => .pointer (some ⟨n, 0, none⟩)) rfl (ex_alloc (zero_42 _)) (fun n5 w6 S7 => ?_)
 simp only [pS, pN, pA, pC, pZ]
 have S7 : St w F w6 F [⟨n5, [(.slice none 0 0), (.slice none 0 0), (.bool false), (.slice none 0 0)], 42⟩, ⟨n2, [(.int .i64 ((k : Nat) : Int)), (.slice x0 r.name.length y0), (.slice x1 r.key.length y1), (.slice x2 r.last.length y2), (.slice x3 r.value.length y3)], 25⟩] [] := S7
 refine do_ rfl (.int .i64 0) (ex_assign _) ?_
 simp only [pS, pN, pA, pC, pZ]
 refine wl_nil (hK1 _ _ ?_)
 refine wp_seq_k (fun K8 hK8 => ?_)
 refine wp_seq_k (fun K9 hK9 => region_wl ?_)
 refine do_ rfl (.agg #[(.int .i64 ((k : Nat) : Int)), (.slice x0 r.name.length y0), (.slice x1 r.key.length y1), (.slice x2 r.last.length y2), (.slice x3 r.value.length y3)]) (ex_load rfl (loadN (cs := [(.int .i64 ((k : Nat) : Int)), (.slice x0 r.name.length y0), (.slice x1 r.key.length y1), (.slice x2 r.last.length y2), (.slice x3 r.value.length y3)]) Tryd.underlying25 rfl (size_25) (St.range S7 (i := 1) rfl 0 [(.int .i64 ((k : Nat) : Int)), (.slice x0 r.name.length y0), (.slice x1 r.key.length y1), (.slice x2 r.last.length y2), (.slice x3 r.value.length y3)] (sub_range 0 rfl)))) ?_
 simp only [pS, pN, pA, pC, pZ]
 refine stTells (v := (.int .i64 0)) S7 rfl (ex_fn (vs := #[(.agg #[(.int .i64 ((k : Nat) : Int)), (.slice x0 r.name.length y0), (.slice x1 r.key.length y1), (.slice x2 r.last.length y2), (.slice x3 r.value.length y3)])]) (map1 rfl) rfl (ent_23 _ _)) (wireCheckOk_spec _ _ _ k r (hh.below S7.gr.below) ⟨_, _, _, _, rfl, h0, h1, h2, h3⟩ ok) (fun w10 S11 => ?_)
 simp only [pS, pN, pA, pC, pZ]
 refine do_ rfl (.int .i64 0) (ex_assign _) ?_
 simp only [pS, pN, pA, pC, pZ]
 refine wl_nil (hK9 _ _ ?_)
 refine wp_seq_k (fun K12 hK12 => region_wl ?_)
 refine do_ rfl (.int .i64 0) (ex_move _) ?_
 simp only [pS, pN, pA, pC, pZ]
 refine do_ rfl (.bool false) (ex_neq (m := (0 : Int)) (n := (0 : Int)) (b := false) rfl rfl (bne_eq_false_iff_eq.2 (rfl))) ?_
 simp only [pS, pN, pA, pC, pZ]
 refine wl_nil (hK12 _ _ ?_)
 refine wp_cond_false rfl ?_
 refine wp_skip ?_
 refine hK8 _ _ ?_
 refine wp_seq_k (fun K13 hK13 => ?_)
 refine wp_seq_k (fun K14 hK14 => region_wl ?_)
 refine do_ rfl (.pointer (some ⟨n2, 0, none⟩)) (ex_field (q := ⟨n2, 0, none⟩) rfl (fa_25_0 _ _)) ?_
 simp only [pS, pN, pA, pC, pZ]
 refine do_ rfl (.int .i64 ((k : Nat) : Int)) (ex_load rfl (load1 (nagg_3 _) (St.cell S11 (i := 1) rfl rfl))) ?_
 simp only [pS, pN, pA, pC, pZ]
 refine wl_nil (hK14 _ _ ?_)
 refine wp_block ?_
 refine wp_seq_k (fun K15 hK15 => ?_)
 refine wp_seq_k (fun K16 hK16 => region_wl ?_)
 refine do_ rfl (.bool false) (ex_eql (m := ((k : Nat) : Int)) (n := (4 : Int)) (b := false) rfl rfl (beq_eq_false_iff_ne.2 (by omega))) ?_
 simp only [pS, pN, pA, pC, pZ]
 refine do_ rfl (.bool false) (ex_assign _) ?_
 simp only [pS, pN, pA, pC, pZ]
 refine wl_nil (hK16 _ _ ?_)
 refine wp_cond_false rfl ?_
 refine region_wl ?_
 refine do_ rfl (.bool false) (ex_eql (m := ((k : Nat) : Int)) (n := (5 : Int)) (b := false) rfl rfl (beq_eq_false_iff_ne.2 (by omega))) ?_
 simp only [pS, pN, pA, pC, pZ]
 refine do_ rfl (.bool false) (ex_assign _) ?_
 simp only [pS, pN, pA, pC, pZ]
 refine wl_nil (hK15 _ _ ?_)
 refine wp_cond_false rfl ?_
 refine wp_skip ?_
 refine hK13 _ _ ?_
 refine wp_seq_k (fun K17 hK17 => region_wl ?_)
 refine do_ rfl (.agg #[(.slice none 0 0), (.slice none 0 0), (.bool false), (.slice none 0 0)]) (ex_build (ps := #[]) (bmap0) (by kernel_rfl)) ?_
 simp only [pS, pN, pA, pC, pZ]
 refine stStore (i := 0) (v := (.agg #[(.slice none 0 0), (.slice none 0 0), (.bool false), (.slice none 0 0)])) S11 rfl rfl rfl rfl (size_42) (allc4 rfl rfl rfl rfl) (Nat.le_of_ble_eq_true rfl) (fun w18 S19 => ?_)
 simp only [pS, pN, pA, pC, pZ]
 have S19 : St w F w18 F [⟨n5, [(.slice none 0 0), (.slice none 0 0), (.bool false), (.slice none 0 0)], 42⟩, ⟨n2, [(.int .i64 ((k : Nat) : Int)), (.slice x0 r.name.length y0), (.slice x1 r.key.length y1), (.slice x2 r.last.length y2), (.slice x3 r.value.length y3)], 25⟩] [] := S19
 refine do_ rfl (.int .i64 7) (ex_assign _) ?_
 simp only [pS, pN, pA, pC, pZ]
 refine wl_nil (hK17 _ _ ?_)
 refine wp_ret ?_
 (try simp only [Exit.then, Exit.inBlock, ↓reduceIte, Nat.reduceEqDiff])
 refine bodyPost_ret (v := (.tuple #[(.agg #[(.slice none 0 0), (.slice none 0 0), (.bool false), (.slice none 0 0)]), (.int .i64 7)])) ?_ rfl ?_
 ·exact res_ct rfl ⟨_, rfl, loadN (cs := [(.slice none 0 0), (.slice none 0 0), (.bool false), (.slice none 0 0)]) Tryd.underlying42 rfl (size_42) (St.range S19 (i := 0) rfl 0 [(.slice none 0 0), (.slice none 0 0), (.bool false), (.slice none 0 0)] (sub_range 0 rfl))⟩ rfl
 ·exact ⟨_, _, rfl, S19.gr, _, rfl, _, _, _, _, _, _, rfl, Bs.nil _, Bs.nil _, Bs.nil _⟩
end Go.Proofs.YticbfdhdipfjmaaDoor
