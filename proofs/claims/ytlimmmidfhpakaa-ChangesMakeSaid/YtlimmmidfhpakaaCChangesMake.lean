/- The walk of ChangesMake -/
import Derived.Test.YtlimmmidfhpakaaGB9
import Derived.Test.YtlimmmidfhpakaaGB7
import Derived.Test.YtlimmmidfhpakaaGB8
namespace Go.Proofs.Ytlimmmidfhpakaa
open Go.RowKit
set_option maxRecDepth 100000
set_option linter.unusedVariables false
set_option linter.unusedSimpArgs false
theorem leq_no {a b : By} (h : Lt a b) : (Op.bytesLess b a || b == a) = false := by
  have h1 : Op.bytesLess b a = false := by
    cases e : Op.bytesLess b a with
    | false => rfl
    | true => have := less_trans _ _ _ h e; rw [less_irrefl] at this; cases this
  have h2 : (b == a) = false := beq_eq_false_iff_ne.2 fun e => less_ne h e.symm
  rw [h1, h2]; rfl
theorem lss_no {a b : By} (h : Lt a b) : Op.bytesLess b a = false := by
  have := leq_no h
  rw [Bool.or_eq_false_iff] at this
  exact this.1
theorem chg_at {a b : Forest} {ps : List Wr} {i : Nat} (hi : i < (chgs a b ps).length) : ∃ w e, (difP a b ps)[i]? = some w ∧ e = chgW b w ∧ (chgs a b ps)[i]? = some e := by
  have hi' : i < (difP a b ps).length := by unfold chgs at hi; rwa [List.length_map] at hi
  exact ⟨_, _, List.getElem?_eq_getElem hi', rfl, by unfold chgs; rw [List.getElem?_map, List.getElem?_eq_getElem hi']; rfl⟩
theorem chg_len {a b : Forest} {ps : List Wr} : (chgs a b ps).length = (difP a b ps).length := by unfold chgs; rw [List.length_map]
theorem one_at {l : List Wr} {i : Nat} {e : Wr} (h : l[i]? = some e) : (l.take (i + 1)).drop i = [e] := by
  obtain ⟨hi, rfl⟩ := List.getElem?_eq_some_iff.1 h
  rw [List.take_succ_eq_append_getElem hi, List.drop_append_of_le_length (by rw [List.length_take]; omega), List.drop_of_length_le (by rw [List.length_take]; omega)]
  rfl
theorem apply_one {x y : Forest} {e : Wr} (hw : WrOk e) (h : applyF x [e] = some y) : applyE x [e] = (0, y) := by
  rw [applyE_ok (by intro w hw'; rw [List.mem_singleton.1 hw']; exact hw) (by simp), h]
theorem all_one {e : Wr} (hw : WrOk e) : ∀ w ∈ [e], WrOk w := by intro w hw'; rw [List.mem_singleton.1 hw']; exact hw
theorem chg_lt {ds : List Wr} (hr : ds.Pairwise LtW) {i : Nat} (hi : 0 < i) {w w' : Wr} (h : ds[i]? = some w) (h' : ds[i - 1]? = some w') : LtW w' w := by
  obtain ⟨h1, rfl⟩ := List.getElem?_eq_some_iff.1 h
  obtain ⟨h2, rfl⟩ := List.getElem?_eq_some_iff.1 h'
  exact List.pairwise_iff_getElem.1 hr _ _ h2 h1 (by omega)
set_option maxHeartbeats 8000000 in
theorem kept10_spec (F : Fz) (w : World) (hs : Sat w F) : Calls Try.prog 19 #[.int .i64 1, .int .i64 0] w (Tells w (.bool true)) := by
 have S := St.start hs
 go_enter Try.func19, Try.ntmps19
 refine wp_seq_k (fun K1 hK1 => region_wl ?_)
 refine do_ rfl (.bool false) (ex_assign _) ?_
 simp only [pS, pN, pA, pC, pZ]
 refine wl_nil (hK1 _ _ ?_)
 refine wp_seq_k (fun K2 hK2 => region_wl ?_)
 refine do_ rfl (.int .i64 0) (ex_move _) ?_
 simp only [pS, pN, pA, pC, pZ]
 refine do_ rfl (.bool true) (ex_geq (b := true) rfl rfl (by decide)) ?_
 simp only [pS, pN, pA, pC, pZ]
 refine do_ rfl (.bool true) (ex_move _) ?_
 simp only [pS, pN, pA, pC, pZ]
 refine do_ rfl (.int .i64 0) (ex_move _) ?_
 simp only [pS, pN, pA, pC, pZ]
 refine do_ rfl (.int .i64 1) (ex_move _) ?_
 simp only [pS, pN, pA, pC, pZ]
 refine do_ rfl (.bool true) (ex_leq (b := true) rfl rfl (by decide)) ?_
 simp only [pS, pN, pA, pC, pZ]
 refine do_ rfl (.bool true) (ex_pick (b := true) rfl) ?_
 simp only [pS, pN, pA, pC, pZ]
 refine do_ rfl (.bool true) (ex_move _) ?_
 simp only [pS, pN, pA, pC, pZ]
 refine do_ rfl (.int .i64 1) (ex_move _) ?_
 simp only [pS, pN, pA, pC, pZ]
 refine do_ rfl (.int .i64 0) (ex_move _) ?_
 simp only [pS, pN, pA, pC, pZ]
 refine do_ rfl (.int .i64 1) (ex_sub (m := (1 : Int)) (n := (0 : Int)) (r := (1 : Int)) rfl rfl (by omega) (by omega) (by omega)) ?_
 simp only [pS, pN, pA, pC, pZ]
 refine do_ rfl (.bool true) (ex_lss (b := true) rfl rfl (by decide)) ?_
 simp only [pS, pN, pA, pC, pZ]
 refine do_ rfl (.bool true) (ex_pick (b := true) rfl) ?_
 simp only [pS, pN, pA, pC, pZ]
 refine do_ rfl (.bool true) (ex_assign _) ?_
 simp only [pS, pN, pA, pC, pZ]
 refine wl_nil (hK2 _ _ ?_)
 refine wp_ret ?_
 (try simp only [Exit.then, Exit.inBlock, ↓reduceIte, Nat.reduceEqDiff])
 refine bodyPost_ret (v := (.bool true)) ?_ rfl ?_
 ·exact res_t rfl rfl
 ·exact ⟨rfl, S.gr.below⟩
set_option maxHeartbeats 8000000 in
theorem changesMake_walk (W : World) (v0 : Value) (l0 : List Pl) (z0 : Pls (whole W) v0 l0) (x1 : Int) (b1 : -9223372036854775808 ≤ x1) (b1' : x1 ≤ 9223372036854775807) (x2 : Int) (b2 : -9223372036854775808 ≤ x2) (b2' : x2 ≤ 9223372036854775807) :
    Calls Try.prog 5 #[v0, .int .i64 x1, .int .i64 x2] W (Tells W (.bool true)) := by
 obtain ⟨a0, c0, rfl, q0, q0'⟩ := Sl.shape z0
 unfold maxLen at q0'
 have S := St.start (Sat.whole W)
 go_enter Try.func5, Try.ntmps5
 refine wp_seq_k (fun K101 hK101 => region_wl ?_)
 refine do_ rfl (.bool false) (ex_assign _) ?_
 simp only [pS, pN, pA, pC, pZ]
 refine wl_nil (hK101 _ _ ?_)
 refine wp_seq_k (fun K102 hK102 => region_wl ?_)
 refine do_ rfl (.slice a0 l0.length c0) (ex_move _) ?_
 simp only [pS, pN, pA, pC, pZ]
 refine stGives S rfl (ex_fn (vs := #[(.slice a0 l0.length c0), (.int .i64 16)]) (map2 rfl rfl) rfl (ent_11 _ _)) (commits_spec _ _ _ l0 16 (S).sat z0 (by omega)) ?_
 intro v108 w103 F105 S104 le106 R107
 obtain ⟨cs, R107, hh, hcl⟩ := R107
 obtain ⟨a109, c110, rfl, h111, h112⟩ := Sl.shape R107
 unfold maxLen at h112
 simp only [pS, pN, pA, pC, pZ]
 refine do_ rfl (.slice a109 cs.length c110) (ex_assign _) ?_
 simp only [pS, pN, pA, pC, pZ]
 refine wl_nil (hK102 _ _ ?_)
 refine wp_seq_k (fun K113 hK113 => ?_)
 obtain ⟨hpa1, hpb1⟩ := pick_bd x1 ((cs.length + 1 : Nat) : Int) (by omega)
 obtain ⟨k1, hk1⟩ : ∃ kn : Nat, pick x1 ((cs.length + 1 : Nat) : Int) = (kn : Int) := ⟨(pick x1 ((cs.length + 1 : Nat) : Int)).toNat, (Int.toNat_of_nonneg hpa1).symm⟩
 have hkb1 : k1 ≤ cs.length := by omega
 refine region_wl ?_
 refine do_ rfl (.int .i64 x1) (ex_move _) ?_
 simp only [pS, pN, pA, pC, pZ]
 refine do_ rfl (.slice a109 cs.length c110) (ex_move _) ?_
 simp only [pS, pN, pA, pC, pZ]
 refine do_ rfl (.int .i64 ((cs.length : Nat) : Int)) (ex_len Try.underlying44 rfl) ?_
 simp only [pS, pN, pA, pC, pZ]
 refine do_ rfl (.int .i64 (((cs.length + 1) : Nat) : Int)) (ex_add (m := ((cs.length : Nat) : Int)) (n := (1 : Int)) (r := (((cs.length + 1) : Nat) : Int)) rfl rfl (by omega) (by omega) (by omega)) ?_
 simp only [pS, pN, pA, pC, pZ]
 refine stTells (v := (.int .i64 ((k1 : Nat) : Int))) S104 rfl (ex_fn (vs := #[(.int .i64 x1), (.int .i64 (((cs.length + 1) : Nat) : Int))]) (map2 rfl rfl) rfl (ent_12 _ _)) (hk1 ▸ tells_same (picked_spec x1 (((cs.length + 1) : Nat) : Int) _ b1 b1' (by omega) (by omega))) (fun w114 S115 => ?_)
 simp only [pS, pN, pA, pC, pZ]
 refine do_ rfl (.int .i64 ((k1 : Nat) : Int)) (ex_assign _) ?_
 simp only [pS, pN, pA, pC, pZ]
 refine wl_nil (hK113 _ _ ?_)
 refine wp_seq_k (fun K116 hK116 => ?_)
 obtain ⟨hpa2, hpb2⟩ := pick_bd x2 ((cs.length + 1 : Nat) : Int) (by omega)
 obtain ⟨k2, hk2⟩ : ∃ kn : Nat, pick x2 ((cs.length + 1 : Nat) : Int) = (kn : Int) := ⟨(pick x2 ((cs.length + 1 : Nat) : Int)).toNat, (Int.toNat_of_nonneg hpa2).symm⟩
 have hkb2 : k2 ≤ cs.length := by omega
 refine region_wl ?_
 refine do_ rfl (.int .i64 x2) (ex_move _) ?_
 simp only [pS, pN, pA, pC, pZ]
 refine do_ rfl (.slice a109 cs.length c110) (ex_move _) ?_
 simp only [pS, pN, pA, pC, pZ]
 refine do_ rfl (.int .i64 ((cs.length : Nat) : Int)) (ex_len Try.underlying44 rfl) ?_
 simp only [pS, pN, pA, pC, pZ]
 refine do_ rfl (.int .i64 (((cs.length + 1) : Nat) : Int)) (ex_add (m := ((cs.length : Nat) : Int)) (n := (1 : Int)) (r := (((cs.length + 1) : Nat) : Int)) rfl rfl (by omega) (by omega) (by omega)) ?_
 simp only [pS, pN, pA, pC, pZ]
 refine stTells (v := (.int .i64 ((k2 : Nat) : Int))) S115 rfl (ex_fn (vs := #[(.int .i64 x2), (.int .i64 (((cs.length + 1) : Nat) : Int))]) (map2 rfl rfl) rfl (ent_12 _ _)) (hk2 ▸ tells_same (picked_spec x2 (((cs.length + 1) : Nat) : Int) _ b2 b2' (by omega) (by omega))) (fun w117 S118 => ?_)
 simp only [pS, pN, pA, pC, pZ]
 refine do_ rfl (.int .i64 ((k2 : Nat) : Int)) (ex_assign _) ?_
 simp only [pS, pN, pA, pC, pZ]
 refine wl_nil (hK116 _ _ ?_)
 refine wp_seq_k (fun K119 hK119 => region_wl ?_)
 refine do_ rfl (.slice a109 cs.length c110) (ex_move _) ?_
 simp only [pS, pN, pA, pC, pZ]
 refine do_ rfl (.int .i64 ((k1 : Nat) : Int)) (ex_move _) ?_
 simp only [pS, pN, pA, pC, pZ]
 refine do_ rfl (.int .i64 ((k2 : Nat) : Int)) (ex_move _) ?_
 simp only [pS, pN, pA, pC, pZ]
 refine stGives S118 rfl (ex_fn (vs := #[(.slice a109 cs.length c110), (.int .i64 ((k1 : Nat) : Int)), (.int .i64 ((k2 : Nat) : Int))]) (map3 rfl rfl rfl) rfl (ent_13 _ _)) (changes_spec _ _ _ cs k1 k2 (S118).sat R107 hh (by omega) (by omega) (by omega) (by omega)) ?_
 intro v125 w120 F122 S121 le123 R124
 obtain ⟨ps, _, hp128, rfl, R124⟩ := R124
 obtain ⟨a126, c127, rfl, h129, h130⟩ := Sl.shape R124
 unfold maxLen at h130
 have R124 : Wrs _ (.slice a126 (chgs (stateC cs k1) (stateC cs k2) ps).length c127) (chgs (stateC cs k1) (stateC cs k2) ps) := R124
 simp only [pS, pN, pA, pC, pZ]
 refine do_ rfl (.tuple #[(.slice a126 (chgs (stateC cs k1) (stateC cs k2) ps).length c127), (.int .i64 0)]) (ex_move _) ?_
 simp only [pS, pN, pA, pC, pZ]
 refine do_ rfl (.slice a126 (chgs (stateC cs k1) (stateC cs k2) ps).length c127) (ex_extract rfl rfl) ?_
 simp only [pS, pN, pA, pC, pZ]
 refine do_ rfl (.int .i64 0) (ex_extract rfl rfl) ?_
 simp only [pS, pN, pA, pC, pZ]
 refine do_ rfl (.slice a126 (chgs (stateC cs k1) (stateC cs k2) ps).length c127) (ex_assign _) ?_
 simp only [pS, pN, pA, pC, pZ]
 refine do_ rfl (.int .i64 0) (ex_assign _) ?_
 simp only [pS, pN, pA, pC, pZ]
 refine wl_nil (hK119 _ _ ?_)
 refine wp_seq_k (fun K131 hK131 => region_wl ?_)
 refine do_ rfl (.slice a109 cs.length c110) (ex_move _) ?_
 simp only [pS, pN, pA, pC, pZ]
 refine do_ rfl (.int .i64 ((k1 : Nat) : Int)) (ex_move _) ?_
 simp only [pS, pN, pA, pC, pZ]
 refine stGives S121 rfl (ex_fn (vs := #[(.slice a109 cs.length c110), (.int .i64 ((k1 : Nat) : Int))]) (map2 rfl rfl) rfl (ent_15 _ _)) (fold_spec _ _ _ cs k1 (S121).sat (R107.mono le123) hh (by omega) (by omega) (by omega)) ?_
 intro v137 w132 F134 S133 le135 R136
 obtain ⟨_, rfl, r140⟩ := R136
 obtain ⟨a138, c139, rfl, h141, h142⟩ := Sl.shape r140
 unfold maxLen at h142
 have h141 : (stateC cs k1).length ≤ c139 := h141
 have r140 : Tns _ (.slice a138 (stateC cs k1).length c139) (stateC cs k1) := r140
 simp only [pS, pN, pA, pC, pZ]
 refine do_ rfl (.tuple #[(.slice a138 (stateC cs k1).length c139), (.int .i64 0)]) (ex_move _) ?_
 simp only [pS, pN, pA, pC, pZ]
 refine do_ rfl (.slice a138 (stateC cs k1).length c139) (ex_extract rfl rfl) ?_
 simp only [pS, pN, pA, pC, pZ]
 refine do_ rfl (.int .i64 0) (ex_extract rfl rfl) ?_
 simp only [pS, pN, pA, pC, pZ]
 refine do_ rfl (.slice a138 (stateC cs k1).length c139) (ex_assign _) ?_
 simp only [pS, pN, pA, pC, pZ]
 refine do_ rfl (.int .i64 0) (ex_assign _) ?_
 simp only [pS, pN, pA, pC, pZ]
 refine wl_nil (hK131 _ _ ?_)
 refine wp_seq_k (fun K143 hK143 => region_wl ?_)
 refine do_ rfl (.slice a109 cs.length c110) (ex_move _) ?_
 simp only [pS, pN, pA, pC, pZ]
 refine do_ rfl (.int .i64 ((k2 : Nat) : Int)) (ex_move _) ?_
 simp only [pS, pN, pA, pC, pZ]
 refine stGives S133 rfl (ex_fn (vs := #[(.slice a109 cs.length c110), (.int .i64 ((k2 : Nat) : Int))]) (map2 rfl rfl) rfl (ent_15 _ _)) (fold_spec _ _ _ cs k2 (S133).sat (R107.mono (le123.trans le135)) hh (by omega) (by omega) (by omega)) ?_
 intro v149 w144 F146 S145 le147 R148
 obtain ⟨_, rfl, r152⟩ := R148
 obtain ⟨a150, c151, rfl, h153, h154⟩ := Sl.shape r152
 unfold maxLen at h154
 have h153 : (stateC cs k2).length ≤ c151 := h153
 have r152 : Tns _ (.slice a150 (stateC cs k2).length c151) (stateC cs k2) := r152
 simp only [pS, pN, pA, pC, pZ]
 refine do_ rfl (.tuple #[(.slice a150 (stateC cs k2).length c151), (.int .i64 0)]) (ex_move _) ?_
 simp only [pS, pN, pA, pC, pZ]
 refine do_ rfl (.slice a150 (stateC cs k2).length c151) (ex_extract rfl rfl) ?_
 simp only [pS, pN, pA, pC, pZ]
 refine do_ rfl (.int .i64 0) (ex_extract rfl rfl) ?_
 simp only [pS, pN, pA, pC, pZ]
 refine do_ rfl (.slice a150 (stateC cs k2).length c151) (ex_assign _) ?_
 simp only [pS, pN, pA, pC, pZ]
 refine do_ rfl (.int .i64 0) (ex_assign _) ?_
 simp only [pS, pN, pA, pC, pZ]
 refine wl_nil (hK143 _ _ ?_)
 refine wp_seq_k (fun K155 hK155 => ?_)
 have hch := ch_of (state_ok hh k1) (state_ok hh k2) hp128
 have hJ161 : ∀ (a158 : Act) (w157 : World), (∃  (u156 : Nat → Value), u156 = slots a158 ∧ a158 = ⟨#[(.slice a0 l0.length c0), (.int .i64 x1), (.int .i64 x2), undef, undef, undef, (u156 6), (.slice a109 cs.length c110), (.int .i64 ((k1 : Nat) : Int)), (.int .i64 ((k2 : Nat) : Int)), (.slice a126 (chgs (stateC cs k1) (stateC cs k2) ps).length c127), (.int .i64 0), (.slice a138 (stateC cs k1).length c139), (.int .i64 0), (.slice a150 (stateC cs k2).length c151), (.int .i64 0), undef, undef, undef, undef, undef, undef, undef, undef, undef, (.slice a0 l0.length c0), (.slice a109 cs.length c110), (.int .i64 x1), (.slice a109 cs.length c110), (.int .i64 ((cs.length : Nat) : Int)), (.int .i64 (((cs.length + 1) : Nat) : Int)), (.int .i64 ((k1 : Nat) : Int)), (.int .i64 x2), (.slice a109 cs.length c110), (.int .i64 ((cs.length : Nat) : Int)), (.int .i64 (((cs.length + 1) : Nat) : Int)), (.int .i64 ((k2 : Nat) : Int)), (.tuple #[(.slice a126 (chgs (stateC cs k1) (stateC cs k2) ps).length c127), (.int .i64 0)]), (.slice a109 cs.length c110), (.int .i64 ((k1 : Nat) : Int)), (.int .i64 ((k2 : Nat) : Int)), (.tuple #[(.slice a126 (chgs (stateC cs k1) (stateC cs k2) ps).length c127), (.int .i64 0)]), (.slice a126 (chgs (stateC cs k1) (stateC cs k2) ps).length c127), (.int .i64 0), (.tuple #[(.slice a138 (stateC cs k1).length c139), (.int .i64 0)]), (.slice a109 cs.length c110), (.int .i64 ((k1 : Nat) : Int)), (.tuple #[(.slice a138 (stateC cs k1).length c139), (.int .i64 0)]), (.slice a138 (stateC cs k1).length c139), (.int .i64 0), (.tuple #[(.slice a150 (stateC cs k2).length c151), (.int .i64 0)]), (.slice a109 cs.length c110), (.int .i64 ((k2 : Nat) : Int)), (.tuple #[(.slice a150 (stateC cs k2).length c151), (.int .i64 0)]), (.slice a150 (stateC cs k2).length c151), (.int .i64 0), (u156 56), (u156 57), (u156 58), (u156 59), (u156 60), (u156 61), (u156 62), (u156 63), (u156 64), (u156 65), (u156 66), (u156 67), (u156 68), (u156 69), (u156 70), (u156 71), (u156 72), (u156 73), (u156 74), (u156 75), undef, undef, undef, undef, undef, undef, undef, undef, undef, undef, undef, undef, undef, undef, undef, undef, undef, undef, undef, undef, undef, undef, undef, undef, undef, undef, undef, undef, undef, undef, undef, undef, undef, undef, undef, undef, undef, undef, undef, undef, undef, undef, undef, undef, undef, undef, undef, undef, undef, undef, undef, undef, undef, undef, undef, undef, undef, undef, undef, undef, undef, undef, undef, undef, undef, undef, undef, undef, undef, undef, undef, undef, undef, undef, undef, undef, undef, undef, undef, undef, undef, undef, undef, undef, undef, undef, undef, undef, undef, undef, undef, undef, undef, undef, undef, undef, undef, undef, undef, undef, undef, undef, undef, undef, undef, undef, undef, undef, undef, undef, undef, undef, undef, undef, undef, undef, undef, undef, undef, undef, undef, undef, undef, undef, undef, undef, undef, undef, undef, undef, undef, undef, undef, undef, undef, undef, undef, undef, undef, undef, undef], []⟩ ∧ St W (whole W) w157 F146 [] []) → K155 a158 w157 := by
  rintro a158 w157 ⟨u156, -, rfl, S159⟩
  refine hK155 _ _ ?_
  refine wp_seq_k (fun K162 hK162 => ?_)
  refine wp_seq_k (fun K163 hK163 => region_wl ?_)
  refine do_ rfl (.int .i64 0) (ex_assign _) ?_
  simp only [pS, pN, pA, pC, pZ]
  refine wl_nil (hK163 _ _ ?_)
  refine wp_block ?_
  refine wp_loop_g (fun mm aa w166 => ∃ (i : Nat) (x : Forest) (xa : Option Addr) (xc : Nat) (F164 : Fz) (u165 : Nat → Value), mm = (chgs (stateC cs k1) (stateC cs k2) ps).length - i ∧ u165 = slots aa ∧ aa = ⟨#[(.slice a0 l0.length c0), (.int .i64 x1), (.int .i64 x2), undef, undef, undef, (u165 6), (.slice a109 cs.length c110), (.int .i64 ((k1 : Nat) : Int)), (.int .i64 ((k2 : Nat) : Int)), (.slice a126 (chgs (stateC cs k1) (stateC cs k2) ps).length c127), (.int .i64 0), (.slice xa x.length xc), (.int .i64 0), (.slice a150 (stateC cs k2).length c151), (.int .i64 0), (.int .i64 ((i : Nat) : Int)), (u165 17), (u165 18), (u165 19), (u165 20), (u165 21), undef, undef, undef, (.slice a0 l0.length c0), (.slice a109 cs.length c110), (.int .i64 x1), (.slice a109 cs.length c110), (.int .i64 ((cs.length : Nat) : Int)), (.int .i64 (((cs.length + 1) : Nat) : Int)), (.int .i64 ((k1 : Nat) : Int)), (.int .i64 x2), (.slice a109 cs.length c110), (.int .i64 ((cs.length : Nat) : Int)), (.int .i64 (((cs.length + 1) : Nat) : Int)), (.int .i64 ((k2 : Nat) : Int)), (.tuple #[(.slice a126 (chgs (stateC cs k1) (stateC cs k2) ps).length c127), (.int .i64 0)]), (.slice a109 cs.length c110), (.int .i64 ((k1 : Nat) : Int)), (.int .i64 ((k2 : Nat) : Int)), (.tuple #[(.slice a126 (chgs (stateC cs k1) (stateC cs k2) ps).length c127), (.int .i64 0)]), (.slice a126 (chgs (stateC cs k1) (stateC cs k2) ps).length c127), (.int .i64 0), (.tuple #[(.slice a138 (stateC cs k1).length c139), (.int .i64 0)]), (.slice a109 cs.length c110), (.int .i64 ((k1 : Nat) : Int)), (.tuple #[(.slice a138 (stateC cs k1).length c139), (.int .i64 0)]), (.slice a138 (stateC cs k1).length c139), (.int .i64 0), (.tuple #[(.slice a150 (stateC cs k2).length c151), (.int .i64 0)]), (.slice a109 cs.length c110), (.int .i64 ((k2 : Nat) : Int)), (.tuple #[(.slice a150 (stateC cs k2).length c151), (.int .i64 0)]), (.slice a150 (stateC cs k2).length c151), (.int .i64 0), (u156 56), (u156 57), (u156 58), (u156 59), (u156 60), (u156 61), (u156 62), (u156 63), (u156 64), (u156 65), (u156 66), (u156 67), (u156 68), (u156 69), (u156 70), (u156 71), (u156 72), (u156 73), (u156 74), (u156 75), (u165 76), (u165 77), (u165 78), (u165 79), (u165 80), (u165 81), (u165 82), (u165 83), (u165 84), (u165 85), (u165 86), (u165 87), (u165 88), (u165 89), (u165 90), (u165 91), (u165 92), (u165 93), (u165 94), (u165 95), (u165 96), (u165 97), (u165 98), (u165 99), (u165 100), (u165 101), (u165 102), (u165 103), (u165 104), (u165 105), (u165 106), (u165 107), (u165 108), (u165 109), (u165 110), (u165 111), (u165 112), (u165 113), (u165 114), (u165 115), (u165 116), (u165 117), (u165 118), (u165 119), (u165 120), (u165 121), (u165 122), (u165 123), (u165 124), (u165 125), (u165 126), (u165 127), (u165 128), (u165 129), (u165 130), (u165 131), (u165 132), (u165 133), (u165 134), (u165 135), (u165 136), (u165 137), (u165 138), (u165 139), (u165 140), (u165 141), (u165 142), (u165 143), (u165 144), (u165 145), (u165 146), (u165 147), (u165 148), (u165 149), (u165 150), (u165 151), (u165 152), (u165 153), (u165 154), (u165 155), (u165 156), (u165 157), (u165 158), (u165 159), (u165 160), (u165 161), (u165 162), (u165 163), (u165 164), (u165 165), (u165 166), (u165 167), (u165 168), (u165 169), (u165 170), (u165 171), (u165 172), (u165 173), (u165 174), (u165 175), (u165 176), (u165 177), (u165 178), (u165 179), (u165 180), (u165 181), undef, undef, undef, undef, undef, undef, undef, undef, undef, undef, undef, undef, undef, undef, undef, undef, undef, undef, undef, undef, undef, undef, undef, undef, undef, undef, undef, undef, undef, undef, undef, undef, undef, undef, undef], []⟩ ∧ St W (whole W) w166 F164 [] [] ∧ Le F146 F164 ∧ (i ≤ (chgs (stateC cs k1) (stateC cs k2) ps).length) ∧ (Mk1 (stateC cs k1) (stateC cs k2) (difP (stateC cs k1) (stateC cs k2) ps) i x) ∧ (Tns F164 (.slice xa x.length xc) x)) _ ⟨0, (stateC cs k1), a138, c139, F146, _, rfl, rfl, rfl, S159, Le.refl _, (by omega), (Mk1.start hch), (r140.mono le147)⟩ ?_
  rintro m167 a168 w169 ⟨i, x, xa, xc, F164, u165, rfl, -, rfl, S170, le171, hi, hm1, hfx⟩ K172 hK172
  refine wp_seq_k (fun K173 hK173 => ?_)
  refine wp_seq_k (fun K174 hK174 => region_wl ?_)
  refine do_ rfl (.int .i64 ((i : Nat) : Int)) (ex_move _) ?_
  simp only [pS, pN, pA, pC, pZ]
  refine do_ rfl (.slice a126 (chgs (stateC cs k1) (stateC cs k2) ps).length c127) (ex_move _) ?_
  simp only [pS, pN, pA, pC, pZ]
  refine do_ rfl (.int .i64 (((chgs (stateC cs k1) (stateC cs k2) ps).length : Nat) : Int)) (ex_len Try.underlying47 rfl) ?_
  simp only [pS, pN, pA, pC, pZ]
  by_cases hc79 : i < (chgs (stateC cs k1) (stateC cs k2) ps).length
  ·refine do_ rfl (.bool true) (ex_lss (m := ((i : Nat) : Int)) (n := (((chgs (stateC cs k1) (stateC cs k2) ps).length : Nat) : Int)) (b := true) rfl rfl (decide_eq_true (by omega))) ?_
   simp only [pS, pN, pA, pC, pZ]
   refine wl_nil (hK174 _ _ ?_)
   refine wp_cond_true rfl ?_
   refine wp_skip ?_
   refine hK173 _ _ ?_
   refine wp_seq_k (fun K175 hK175 => ?_)
   refine wp_block ?_
   refine wp_seq_k (fun K176 hK176 => ?_)
   obtain ⟨w, e, hw, he, hq⟩ := chg_at (a := (stateC cs k1)) (b := (stateC cs k2)) (ps := ps) (i := i) (by omega)
   have hmw := List.mem_of_getElem? hw
   have hwo : WrOk e := by rw [he]; exact hch.wr w hmw
   have hnw0 : e.name = w.name ∧ e.key = w.key ∧ e.gone = !(getF (stateC cs k2) w.name w.key).isSome ∧ e.value = (getF (stateC cs k2) w.name w.key).getD [] := by rw [he]; exact ⟨rfl, rfl, rfl, rfl⟩
   by_cases hge : e.gone = true
   ·obtain ⟨b177, o178, ha179, xa181, xc182, xa185, xc186, xa190, xc191, c180, c184, c188, c189, r183, r187, r192⟩ := Wrs.get (R124.mono ((le135.trans le147).trans le171)) hq
    refine region_wl ?_
    refine do_ rfl (.slice a126 (chgs (stateC cs k1) (stateC cs k2) ps).length c127) (ex_move _) ?_
    simp only [pS, pN, pA, pC, pZ]
    refine do_ rfl (.int .i64 ((i : Nat) : Int)) (ex_move _) ?_
    simp only [pS, pN, pA, pC, pZ]
    refine do_ rfl (.pointer (some ⟨b177, o178 + i * 4, none⟩)) (ex_at (i := i) (sz := 4) Try.underlying47 (sizeof_27 _) rfl ha179 rfl (by omega) rfl) ?_
    simp only [pS, pN, pA, pC, pZ]
    refine do_ rfl (.agg #[(.slice xa181 e.name.length xc182), (.slice xa185 e.key.length xc186), (.bool true), (.slice xa190 e.value.length xc191)]) (ex_load rfl (loadN (cs := [(.slice xa181 e.name.length xc182), (.slice xa185 e.key.length xc186), (.bool true), (.slice xa190 e.value.length xc191)]) Try.underlying27 rfl (size_27) (range4 (St.fz S170 c180) (St.fz S170 c184) (St.fz S170 (hge ▸ c188)) (St.fz S170 c189)))) ?_
    simp only [pS, pN, pA, pC, pZ]
    refine stNew S170 (v := fun n => .pointer (some ⟨n, 0, none⟩)) rfl (ex_alloc (zero_27 _)) (fun n193 w194 S195 => ?_)
    simp only [pS, pN, pA, pC, pZ]
    have S195 : St W (whole W) w194 F164 [⟨n193, [(.slice none 0 0), (.slice none 0 0), (.bool false), (.slice none 0 0)], 27⟩] [] := S195
    refine stStore (i := 0) (v := (.agg #[(.slice xa181 e.name.length xc182), (.slice xa185 e.key.length xc186), (.bool true), (.slice xa190 e.value.length xc191)])) S195 rfl rfl rfl rfl (size_27) (allc4 rfl rfl rfl rfl) (Nat.le_of_ble_eq_true rfl) (fun w196 S197 => ?_)
    simp only [pS, pN, pA, pC, pZ]
    have S197 : St W (whole W) w196 F164 [⟨n193, [(.slice xa181 e.name.length xc182), (.slice xa185 e.key.length xc186), (.bool true), (.slice xa190 e.value.length xc191)], 27⟩] [] := S197
    refine wl_nil (hK176 _ _ ?_)
    refine wp_seq_k (fun K198 hK198 => ?_)
    refine wp_seq_k (fun K199 hK199 => ?_)
    by_cases hi0 : 0 < i
    ·obtain ⟨w', e', hw', he', hq'⟩ := chg_at (a := (stateC cs k1)) (b := (stateC cs k2)) (ps := ps) (i := i - 1) (by omega)
     have hlt := chg_lt hch.rise hi0 hw hw'
     have hnw : e.name = w.name ∧ e.key = w.key ∧ e'.name = w'.name ∧ e'.key = w'.key := by rw [he, he']; exact ⟨rfl, rfl, rfl, rfl⟩
     obtain ⟨b200, o201, ha202, xa204, xc205, xa208, xc209, xa213, xc214, c203, c207, c211, c212, r206, r210, r215⟩ := Wrs.get (R124.mono ((le135.trans le147).trans le171)) hq'
     by_cases hnn : e.name = e'.name
     ·have hkl : Lt e'.key e.key := by
       rcases hlt with k | ⟨_, k⟩
       ·rw [← hnw.1, ← hnw.2.2.1, hnn] at k; exact absurd rfl (less_ne k)
       ·rw [hnw.2.1, hnw.2.2.2]; exact k
      refine region_gw F164 42 [] (by kernel_rfl) (by kernel_rfl) ?_
      simp only [List.take_succ_cons, List.take_zero]
      refine gw_pure rfl rfl (.int .i64 ((i : Nat) : Int)) (fun w216 hCw216 => pureAt_of (ex_move _)) ?_
      simp only [pS, pN, pA, pC, pZ]
      refine gw_pure rfl rfl (.bool true) (fun w216 hCw216 => pureAt_of (ex_gtr (m := ((i : Nat) : Int)) (n := (0 : Int)) (b := true) rfl rfl (decide_eq_true (by omega)))) ?_
      simp only [pS, pN, pA, pC, pZ]
      refine gw_pure rfl rfl (.bool true) (fun w216 hCw216 => pureAt_of (ex_move _)) ?_
      simp only [pS, pN, pA, pC, pZ]
      refine gw_pure rfl rfl (.pointer (some ⟨n193, 0, none⟩)) (fun w216 hCw216 => pureAt_of (ex_field (q := ⟨n193, 0, none⟩) rfl (fa_27_0 _ _))) ?_
      simp only [pS, pN, pA, pC, pZ]
      refine gw_pure rfl rfl (.slice xa181 e.name.length xc182) (fun w216 hCw216 => pureAt_of (ex_load rfl (load1 (nagg_25 _) (St.cell (St.tells S197 hCw216) (i := 0) rfl rfl)))) ?_
      simp only [pS, pN, pA, pC, pZ]
      refine gw_pure rfl rfl (.string ⟨e.name.toArray⟩) (fun w216 hCw216 => pureAt_of (ex_convert (v := (.slice xa181 e.name.length xc182)) rfl (run_string Try.underlying25 Try.underlying5 Try.underlying9 ((St.tells S197 hCw216)).sat r183))) ?_
      simp only [pS, pN, pA, pC, pZ]
      refine gw_pure rfl rfl (.slice a126 (chgs (stateC cs k1) (stateC cs k2) ps).length c127) (fun w216 hCw216 => pureAt_of (ex_move _)) ?_
      simp only [pS, pN, pA, pC, pZ]
      refine gw_pure rfl rfl (.int .i64 ((i : Nat) : Int)) (fun w216 hCw216 => pureAt_of (ex_move _)) ?_
      simp only [pS, pN, pA, pC, pZ]
      refine gw_pure rfl rfl (.int .i64 (((i - 1) : Nat) : Int)) (fun w216 hCw216 => pureAt_of (ex_sub (m := ((i : Nat) : Int)) (n := (1 : Int)) (r := (((i - 1) : Nat) : Int)) rfl rfl (by omega) (by omega) (by omega))) ?_
      simp only [pS, pN, pA, pC, pZ]
      refine gw_pure rfl rfl (.pointer (some ⟨b200, o201 + (i - 1) * 4, none⟩)) (fun w216 hCw216 => pureAt_of (ex_at (i := (i - 1)) (sz := 4) Try.underlying47 (sizeof_27 _) rfl ha202 rfl (by omega) rfl)) ?_
      simp only [pS, pN, pA, pC, pZ]
      refine gw_pure rfl rfl (.pointer (some ⟨b200, o201 + (i - 1) * 4, none⟩)) (fun w216 hCw216 => pureAt_of (ex_field (q := ⟨b200, o201 + (i - 1) * 4, none⟩) rfl (fa_27_0 _ _))) ?_
      simp only [pS, pN, pA, pC, pZ]
      refine gw_pure rfl rfl (.slice xa204 e'.name.length xc205) (fun w216 hCw216 => pureAt_of (ex_load rfl (load1 (nagg_25 _) (St.fz (St.tells S197 hCw216) c203)))) ?_
      simp only [pS, pN, pA, pC, pZ]
      refine gw_pure rfl rfl (.string ⟨e'.name.toArray⟩) (fun w216 hCw216 => pureAt_of (ex_convert (v := (.slice xa204 e'.name.length xc205)) rfl (run_string Try.underlying25 Try.underlying5 Try.underlying9 ((St.tells S197 hCw216)).sat r206))) ?_
      simp only [pS, pN, pA, pC, pZ]
      refine gw_pure rfl rfl (.bool true) (fun w216 hCw216 => pureAt_of (ex_strop (op := .eql) (l := e.name) (m := e'.name) (b := true) (by simp) rfl rfl (beq_iff_eq.2 hnn))) ?_
      simp only [pS, pN, pA, pC, pZ]
      refine gw_pure rfl rfl (.bool true) (fun w216 hCw216 => pureAt_of (ex_pick (b := true) rfl)) ?_
      simp only [pS, pN, pA, pC, pZ]
      refine gw_pure rfl rfl (.bool true) (fun w216 hCw216 => pureAt_of (ex_move _)) ?_
      simp only [pS, pN, pA, pC, pZ]
      refine gw_pure rfl rfl (.pointer (some ⟨n193, 1, none⟩)) (fun w216 hCw216 => pureAt_of (ex_field (q := ⟨n193, 1, none⟩) rfl (fa_27_1 _ _))) ?_
      simp only [pS, pN, pA, pC, pZ]
      refine gw_pure rfl rfl (.slice xa185 e.key.length xc186) (fun w216 hCw216 => pureAt_of (ex_load rfl (load1 (nagg_25 _) (St.cell (St.tells S197 hCw216) (i := 0) rfl rfl)))) ?_
      simp only [pS, pN, pA, pC, pZ]
      refine gw_pure rfl rfl (.string ⟨e.key.toArray⟩) (fun w216 hCw216 => pureAt_of (ex_convert (v := (.slice xa185 e.key.length xc186)) rfl (run_string Try.underlying25 Try.underlying5 Try.underlying9 ((St.tells S197 hCw216)).sat r187))) ?_
      simp only [pS, pN, pA, pC, pZ]
      refine gw_pure rfl rfl (.slice a126 (chgs (stateC cs k1) (stateC cs k2) ps).length c127) (fun w216 hCw216 => pureAt_of (ex_move _)) ?_
      simp only [pS, pN, pA, pC, pZ]
      refine gw_pure rfl rfl (.int .i64 ((i : Nat) : Int)) (fun w216 hCw216 => pureAt_of (ex_move _)) ?_
      simp only [pS, pN, pA, pC, pZ]
      refine gw_pure rfl rfl (.int .i64 (((i - 1) : Nat) : Int)) (fun w216 hCw216 => pureAt_of (ex_sub (m := ((i : Nat) : Int)) (n := (1 : Int)) (r := (((i - 1) : Nat) : Int)) rfl rfl (by omega) (by omega) (by omega))) ?_
      simp only [pS, pN, pA, pC, pZ]
      refine gw_pure rfl rfl (.pointer (some ⟨b200, o201 + (i - 1) * 4, none⟩)) (fun w216 hCw216 => pureAt_of (ex_at (i := (i - 1)) (sz := 4) Try.underlying47 (sizeof_27 _) rfl ha202 rfl (by omega) rfl)) ?_
      simp only [pS, pN, pA, pC, pZ]
      refine gw_pure rfl rfl (.pointer (some ⟨b200, o201 + (i - 1) * 4 + 1, none⟩)) (fun w216 hCw216 => pureAt_of (ex_field (q := ⟨b200, o201 + (i - 1) * 4 + 1, none⟩) rfl (fa_27_1 _ _))) ?_
      simp only [pS, pN, pA, pC, pZ]
      refine gw_pure rfl rfl (.slice xa208 e'.key.length xc209) (fun w216 hCw216 => pureAt_of (ex_load rfl (load1 (nagg_25 _) (St.fz (St.tells S197 hCw216) c207)))) ?_
      simp only [pS, pN, pA, pC, pZ]
      refine gw_pure rfl rfl (.string ⟨e'.key.toArray⟩) (fun w216 hCw216 => pureAt_of (ex_convert (v := (.slice xa208 e'.key.length xc209)) rfl (run_string Try.underlying25 Try.underlying5 Try.underlying9 ((St.tells S197 hCw216)).sat r210))) ?_
      simp only [pS, pN, pA, pC, pZ]
      refine gw_pure rfl rfl (.bool false) (fun w216 hCw216 => pureAt_of (ex_strop (op := .leq) (l := e.key) (m := e'.key) (b := false) (by simp) rfl rfl (leq_no hkl))) ?_
      simp only [pS, pN, pA, pC, pZ]
      refine gw_pure rfl rfl (.bool false) (fun w216 hCw216 => pureAt_of (ex_pick (b := true) rfl)) ?_
      simp only [pS, pN, pA, pC, pZ]
      refine gw_pure rfl rfl (.bool false) (fun w216 hCw216 => pureAt_of (ex_move _)) ?_
      simp only [pS, pN, pA, pC, pZ]
      refine gw_pure rfl rfl (.int .i64 ((i : Nat) : Int)) (fun w216 hCw216 => pureAt_of (ex_move _)) ?_
      simp only [pS, pN, pA, pC, pZ]
      refine gw_pure rfl rfl (.bool true) (fun w216 hCw216 => pureAt_of (ex_gtr (m := ((i : Nat) : Int)) (n := (0 : Int)) (b := true) rfl rfl (decide_eq_true (by omega)))) ?_
      simp only [pS, pN, pA, pC, pZ]
      refine gw_pure rfl rfl (.bool true) (fun w216 hCw216 => pureAt_of (ex_move _)) ?_
      simp only [pS, pN, pA, pC, pZ]
      refine gw_pure rfl rfl (.pointer (some ⟨n193, 0, none⟩)) (fun w216 hCw216 => pureAt_of (ex_field (q := ⟨n193, 0, none⟩) rfl (fa_27_0 _ _))) ?_
      simp only [pS, pN, pA, pC, pZ]
      refine gw_pure rfl rfl (.slice xa181 e.name.length xc182) (fun w216 hCw216 => pureAt_of (ex_load rfl (load1 (nagg_25 _) (St.cell (St.tells S197 hCw216) (i := 0) rfl rfl)))) ?_
      simp only [pS, pN, pA, pC, pZ]
      refine gw_pure rfl rfl (.string ⟨e.name.toArray⟩) (fun w216 hCw216 => pureAt_of (ex_convert (v := (.slice xa181 e.name.length xc182)) rfl (run_string Try.underlying25 Try.underlying5 Try.underlying9 ((St.tells S197 hCw216)).sat r183))) ?_
      simp only [pS, pN, pA, pC, pZ]
      refine gw_pure rfl rfl (.slice a126 (chgs (stateC cs k1) (stateC cs k2) ps).length c127) (fun w216 hCw216 => pureAt_of (ex_move _)) ?_
      simp only [pS, pN, pA, pC, pZ]
      refine gw_pure rfl rfl (.int .i64 ((i : Nat) : Int)) (fun w216 hCw216 => pureAt_of (ex_move _)) ?_
      simp only [pS, pN, pA, pC, pZ]
      refine gw_pure rfl rfl (.int .i64 (((i - 1) : Nat) : Int)) (fun w216 hCw216 => pureAt_of (ex_sub (m := ((i : Nat) : Int)) (n := (1 : Int)) (r := (((i - 1) : Nat) : Int)) rfl rfl (by omega) (by omega) (by omega))) ?_
      simp only [pS, pN, pA, pC, pZ]
      refine gw_pure rfl rfl (.pointer (some ⟨b200, o201 + (i - 1) * 4, none⟩)) (fun w216 hCw216 => pureAt_of (ex_at (i := (i - 1)) (sz := 4) Try.underlying47 (sizeof_27 _) rfl ha202 rfl (by omega) rfl)) ?_
      simp only [pS, pN, pA, pC, pZ]
      refine gw_pure rfl rfl (.pointer (some ⟨b200, o201 + (i - 1) * 4, none⟩)) (fun w216 hCw216 => pureAt_of (ex_field (q := ⟨b200, o201 + (i - 1) * 4, none⟩) rfl (fa_27_0 _ _))) ?_
      simp only [pS, pN, pA, pC, pZ]
      refine gw_pure rfl rfl (.slice xa204 e'.name.length xc205) (fun w216 hCw216 => pureAt_of (ex_load rfl (load1 (nagg_25 _) (St.fz (St.tells S197 hCw216) c203)))) ?_
      simp only [pS, pN, pA, pC, pZ]
      refine gw_pure rfl rfl (.string ⟨e'.name.toArray⟩) (fun w216 hCw216 => pureAt_of (ex_convert (v := (.slice xa204 e'.name.length xc205)) rfl (run_string Try.underlying25 Try.underlying5 Try.underlying9 ((St.tells S197 hCw216)).sat r206))) ?_
      simp only [pS, pN, pA, pC, pZ]
      refine gw_nil ?_
      intro w217 hC219 hF220
      clear hF220
      have S218 := St.tells S197 hC219
      simp only [List.drop_succ_cons, List.drop_zero]
      refine do_ rfl (.bool false) (ex_strop (op := .lss) (l := e.name) (m := e'.name) (b := false) (by simp) rfl rfl (by rw [hnn]; exact less_irrefl _)) ?_
      simp only [pS, pN, pA, pC, pZ]
      refine do_ rfl (.bool false) (ex_pick (b := true) rfl) ?_
      simp only [pS, pN, pA, pC, pZ]
      refine do_ rfl (.bool false) (ex_pick (b := false) rfl) ?_
      simp only [pS, pN, pA, pC, pZ]
      refine wl_nil (hK199 _ _ ?_)
      refine wp_cond_false rfl ?_
      refine wp_skip ?_
      refine hK198 _ _ ?_
      refine wp_seq_k (fun K221 hK221 => ?_)
      have hwas := Mk1.was hch hm1 hw
      rw [← hnw0.1, ← hnw0.2.1] at hwas
      have hfs : (getF x e.name e.key).isSome = true := by
       have hne := hch.ne w hmw
       have hgb := hnw0.2.2.1
       rw [hge] at hgb
       rw [hwas, hnw0.1, hnw0.2.1]
       cases h1 : getF (stateC cs k1) w.name w.key with
       | some v => rfl
       | none =>
        cases h2 : getF (stateC cs k2) w.name w.key with
        | some v => rw [h2] at hgb; cases hgb
        | none => rw [h1, h2] at hne; exact absurd rfl hne
      refine region_wl ?_
      refine do_ rfl (.slice xa x.length xc) (ex_move _) ?_
      simp only [pS, pN, pA, pC, pZ]
      refine do_ rfl (.pointer (some ⟨n193, 0, none⟩)) (ex_field (q := ⟨n193, 0, none⟩) rfl (fa_27_0 _ _)) ?_
      simp only [pS, pN, pA, pC, pZ]
      refine do_ rfl (.slice xa181 e.name.length xc182) (ex_load rfl (load1 (nagg_25 _) (St.cell S218 (i := 0) rfl rfl))) ?_
      simp only [pS, pN, pA, pC, pZ]
      refine do_ rfl (.pointer (some ⟨n193, 1, none⟩)) (ex_field (q := ⟨n193, 1, none⟩) rfl (fa_27_1 _ _)) ?_
      simp only [pS, pN, pA, pC, pZ]
      refine do_ rfl (.slice xa185 e.key.length xc186) (ex_load rfl (load1 (nagg_25 _) (St.cell S218 (i := 0) rfl rfl))) ?_
      simp only [pS, pN, pA, pC, pZ]
      refine stGives S218 rfl (ex_fn (vs := #[(.slice xa x.length xc), (.slice xa181 e.name.length xc182), (.slice xa185 e.key.length xc186)]) (map3 rfl rfl rfl) rfl (ent_16 _ _)) (getF_spec _ _ _ _ _ x e.name e.key (S218).sat hfx r183 r187 (hm1.ok.mono (by omega)) (WrOk.name hwo) ⟨WrOk.key1 hwo, WrOk.key2 hwo⟩) ?_
      intro v227 w222 F224 S223 le225 R226
      obtain ⟨_, rfl, a228, c229, hx231, r230⟩ := R226
      rw [hfs] at hx231
      subst hx231
      have r230 : Bs _ (.slice a228 ((getF x e.name e.key).getD []).length c229) ((getF x e.name e.key).getD []) := r230
      simp only [pS, pN, pA, pC, pZ]
      refine do_ rfl (.tuple #[(.agg #[(.bool true), (.slice a228 ((getF x e.name e.key).getD []).length c229)]), (.int .i64 0)]) (ex_move _) ?_
      simp only [pS, pN, pA, pC, pZ]
      refine do_ rfl (.agg #[(.bool true), (.slice a228 ((getF x e.name e.key).getD []).length c229)]) (ex_extract rfl rfl) ?_
      simp only [pS, pN, pA, pC, pZ]
      refine do_ rfl (.int .i64 0) (ex_extract rfl rfl) ?_
      simp only [pS, pN, pA, pC, pZ]
      refine stNew S223 (v := fun n => .pointer (some ⟨n, 0, none⟩)) rfl (ex_alloc (zero_38 _)) (fun n232 w233 S234 => ?_)
      simp only [pS, pN, pA, pC, pZ]
      have S234 : St W (whole W) w233 F224 [⟨n232, [(.bool false), (.slice none 0 0)], 38⟩, ⟨n193, [(.slice xa181 e.name.length xc182), (.slice xa185 e.key.length xc186), (.bool true), (.slice xa190 e.value.length xc191)], 27⟩] [] := S234
      refine stStore (i := 0) (v := (.agg #[(.bool true), (.slice a228 ((getF x e.name e.key).getD []).length c229)])) S234 rfl rfl rfl rfl (size_38) (allc2 rfl rfl) (Nat.le_of_ble_eq_true rfl) (fun w235 S236 => ?_)
      simp only [pS, pN, pA, pC, pZ]
      have S236 : St W (whole W) w235 F224 [⟨n232, [(.bool true), (.slice a228 ((getF x e.name e.key).getD []).length c229)], 38⟩, ⟨n193, [(.slice xa181 e.name.length xc182), (.slice xa185 e.key.length xc186), (.bool true), (.slice xa190 e.value.length xc191)], 27⟩] [] := S236
      refine do_ rfl (.int .i64 0) (ex_assign _) ?_
      simp only [pS, pN, pA, pC, pZ]
      refine wl_nil (hK221 _ _ ?_)
      refine wp_seq_k (fun K237 hK237 => ?_)
      refine wp_seq_k (fun K238 hK238 => region_wl ?_)
      refine do_ rfl (.int .i64 0) (ex_move _) ?_
      simp only [pS, pN, pA, pC, pZ]
      refine do_ rfl (.bool false) (ex_neq (b := false) rfl rfl (by decide)) ?_
      simp only [pS, pN, pA, pC, pZ]
      refine do_ rfl (.bool false) (ex_move _) ?_
      simp only [pS, pN, pA, pC, pZ]
      refine do_ rfl (.pointer (some ⟨n193, 2, none⟩)) (ex_field (q := ⟨n193, 2, none⟩) rfl (fa_27_2 _ _)) ?_
      simp only [pS, pN, pA, pC, pZ]
      refine do_ rfl (.bool true) (ex_load rfl (load1 (nagg_4 _) (St.cell S236 (i := 1) rfl rfl))) ?_
      simp only [pS, pN, pA, pC, pZ]
      refine do_ rfl (.bool true) (ex_move _) ?_
      simp only [pS, pN, pA, pC, pZ]
      refine do_ rfl (.pointer (some ⟨n232, 0, none⟩)) (ex_field (q := ⟨n232, 0, none⟩) rfl (fa_38_0 _ _)) ?_
      simp only [pS, pN, pA, pC, pZ]
      refine do_ rfl (.bool true) (ex_load rfl (load1 (nagg_4 _) (St.cell S236 (i := 0) rfl rfl))) ?_
      simp only [pS, pN, pA, pC, pZ]
      refine do_ rfl (.bool false) (ex_not (b := true) rfl rfl) ?_
      simp only [pS, pN, pA, pC, pZ]
      refine do_ rfl (.bool false) (ex_pick (b := true) rfl) ?_
      simp only [pS, pN, pA, pC, pZ]
      refine do_ rfl (.bool false) (ex_pick (b := false) rfl) ?_
      simp only [pS, pN, pA, pC, pZ]
      refine do_ rfl (.bool false) (ex_move _) ?_
      simp only [pS, pN, pA, pC, pZ]
      refine do_ rfl (.pointer (some ⟨n232, 0, none⟩)) (ex_field (q := ⟨n232, 0, none⟩) rfl (fa_38_0 _ _)) ?_
      simp only [pS, pN, pA, pC, pZ]
      refine do_ rfl (.bool true) (ex_load rfl (load1 (nagg_4 _) (St.cell S236 (i := 0) rfl rfl))) ?_
      simp only [pS, pN, pA, pC, pZ]
      refine do_ rfl (.bool true) (ex_move _) ?_
      simp only [pS, pN, pA, pC, pZ]
      refine do_ rfl (.pointer (some ⟨n193, 2, none⟩)) (ex_field (q := ⟨n193, 2, none⟩) rfl (fa_27_2 _ _)) ?_
      simp only [pS, pN, pA, pC, pZ]
      refine do_ rfl (.bool true) (ex_load rfl (load1 (nagg_4 _) (St.cell S236 (i := 1) rfl rfl))) ?_
      simp only [pS, pN, pA, pC, pZ]
      refine do_ rfl (.bool false) (ex_not (b := true) rfl rfl) ?_
      simp only [pS, pN, pA, pC, pZ]
      refine do_ rfl (.bool false) (ex_pick (b := true) rfl) ?_
      simp only [pS, pN, pA, pC, pZ]
      refine do_ rfl (.bool false) (ex_move _) ?_
      simp only [pS, pN, pA, pC, pZ]
      refine doN (wanted_no rfl rfl rfl (c := false) rfl (by decide)) ?_
      simp only [pS, pN, pA, pC, pZ]
      refine doN (wanted_no rfl rfl rfl (c := false) rfl (by decide)) ?_
      simp only [pS, pN, pA, pC, pZ]
      refine doN (wanted_no rfl rfl rfl (c := false) rfl (by decide)) ?_
      simp only [pS, pN, pA, pC, pZ]
      refine doN (wanted_no rfl rfl rfl (c := false) rfl (by decide)) ?_
      simp only [pS, pN, pA, pC, pZ]
      refine doN (wanted_no rfl rfl rfl (c := false) rfl (by decide)) ?_
      simp only [pS, pN, pA, pC, pZ]
      refine do_ rfl (.bool false) (ex_pick (b := false) rfl) ?_
      simp only [pS, pN, pA, pC, pZ]
      refine do_ rfl (.bool false) (ex_pick (b := false) rfl) ?_
      simp only [pS, pN, pA, pC, pZ]
      refine wl_nil (hK238 _ _ ?_)
      refine wp_cond_false rfl ?_
      refine wp_skip ?_
      refine hK237 _ _ ?_
      refine wp_seq_k (fun K239 hK239 => region_wl ?_)
      refine do_ rfl (.pointer (some ⟨n193, 2, none⟩)) (ex_field (q := ⟨n193, 2, none⟩) rfl (fa_27_2 _ _)) ?_
      simp only [pS, pN, pA, pC, pZ]
      refine do_ rfl (.bool true) (ex_load rfl (load1 (nagg_4 _) (St.cell S236 (i := 1) rfl rfl))) ?_
      simp only [pS, pN, pA, pC, pZ]
      refine wl_nil (hK239 _ _ ?_)
      refine wp_cond_true rfl ?_
      refine wp_seq_k (fun K240 hK240 => ?_)
      obtain ⟨y, hay, hmy⟩ := Mk1.step hch hm1 hw (by rw [← he]; exact hge)
      rw [← he] at hay
      refine region_wl ?_
      refine do_ rfl (.slice xa x.length xc) (ex_move _) ?_
      simp only [pS, pN, pA, pC, pZ]
      refine do_ rfl (.slice a126 (chgs (stateC cs k1) (stateC cs k2) ps).length c127) (ex_move _) ?_
      simp only [pS, pN, pA, pC, pZ]
      refine do_ rfl (.int .i64 ((i : Nat) : Int)) (ex_move _) ?_
      simp only [pS, pN, pA, pC, pZ]
      refine do_ rfl (.int .i64 ((i : Nat) : Int)) (ex_move _) ?_
      simp only [pS, pN, pA, pC, pZ]
      refine do_ rfl (.int .i64 (((i + 1) : Nat) : Int)) (ex_add (m := ((i : Nat) : Int)) (n := (1 : Int)) (r := (((i + 1) : Nat) : Int)) rfl rfl (by omega) (by omega) (by omega)) ?_
      simp only [pS, pN, pA, pC, pZ]
      refine do_ rfl (.slice (if c127 = i then a126 else a126.map (·.add (i * 4))) ((i + 1) - i) (c127 - i)) (ex_slice (l := i) (h := (i + 1)) (sz := 4) Try.underlying47 rfl (sizeof_27 _) (.inr ⟨_, rfl, rfl⟩) (.inr ⟨_, rfl, rfl⟩) (by omega) (by omega) (rfl)) ?_
      simp only [pS, pN, pA, pC, pZ]
      have r241 : Wrs F224 (.slice (if c127 = i then a126 else a126.map (·.add (i * 4))) ((i + 1) - i) (c127 - i)) (((chgs (stateC cs k1) (stateC cs k2) ps).take (i + 1)).drop i) := Sl.cut2 (by decide) (R124.mono (((le135.trans le147).trans le171).trans le225)) (by omega) (by omega)
      rw [one_at hq] at r241
      refine stGives S236 rfl (ex_fn (vs := #[(.slice xa x.length xc), (.slice (if c127 = i then a126 else a126.map (·.add (i * 4))) ((i + 1) - i) (c127 - i))]) (map2 rfl rfl) rfl (ent_17 _ _)) (apply_is (S236).sat (hfx.mono le225) r241 (hm1.ok.mono (by omega)) (all_one hwo) (apply_one hwo hay)) ?_
      intro v247 w242 F244 S243 le245 R246
      obtain ⟨_, rfl, r250⟩ := R246
      obtain ⟨a248, c249, rfl, h251, h252⟩ := Sl.shape r250
      unfold maxLen at h252
      have h251 : y.length ≤ c249 := h251
      have r250 : Tns _ (.slice a248 y.length c249) y := r250
      simp only [pS, pN, pA, pC, pZ]
      refine do_ rfl (.tuple #[(.slice a248 y.length c249), (.int .i64 0)]) (ex_move _) ?_
      simp only [pS, pN, pA, pC, pZ]
      refine do_ rfl (.slice a248 y.length c249) (ex_extract rfl rfl) ?_
      simp only [pS, pN, pA, pC, pZ]
      refine do_ rfl (.int .i64 0) (ex_extract rfl rfl) ?_
      simp only [pS, pN, pA, pC, pZ]
      refine do_ rfl (.slice a248 y.length c249) (ex_assign _) ?_
      simp only [pS, pN, pA, pC, pZ]
      refine do_ rfl (.int .i64 0) (ex_assign _) ?_
      simp only [pS, pN, pA, pC, pZ]
      refine wl_nil (hK240 _ _ ?_)
      refine wp_seq_k (fun K253 hK253 => ?_)
      refine wp_seq_k (fun K254 hK254 => region_wl ?_)
      refine do_ rfl (.int .i64 0) (ex_move _) ?_
      simp only [pS, pN, pA, pC, pZ]
      refine do_ rfl (.bool false) (ex_neq (b := false) rfl rfl (by decide)) ?_
      simp only [pS, pN, pA, pC, pZ]
      refine wl_nil (hK254 _ _ ?_)
      refine wp_cond_false rfl ?_
      refine wp_skip ?_
      refine hK253 _ _ ?_
      refine region_wl ?_
      refine do_ rfl (.slice a248 y.length c249) (ex_move _) ?_
      simp only [pS, pN, pA, pC, pZ]
      refine do_ rfl (.slice a248 y.length c249) (ex_assign _) ?_
      simp only [pS, pN, pA, pC, pZ]
      refine wl_nil (hK175 _ _ ?_)
      refine region_wl ?_
      refine do_ rfl (.int .i64 ((i : Nat) : Int)) (ex_move _) ?_
      simp only [pS, pN, pA, pC, pZ]
      refine do_ rfl (.int .i64 (((i + 1) : Nat) : Int)) (ex_add (m := ((i : Nat) : Int)) (n := (1 : Int)) (r := (((i + 1) : Nat) : Int)) rfl rfl (by omega) (by omega) (by omega)) ?_
      simp only [pS, pN, pA, pC, pZ]
      refine do_ rfl (.int .i64 (((i + 1) : Nat) : Int)) (ex_assign _) ?_
      simp only [pS, pN, pA, pC, pZ]
      refine wl_nil ?_
      have S243 := St.drop S243 (L' := []) (.cons _ (.cons _ (List.Sublist.refl _)))
      exact hK172 _ _ _ (by omega) ⟨(i + 1), y, a248, c249, F244, _, rfl, rfl, rfl, S243, ((le171.trans le225).trans le245), (by omega), hmy, r250⟩
     ·have hnl : Lt e'.name e.name := by
       rcases hlt with k | ⟨k, _⟩
       ·rw [hnw.1, hnw.2.2.1]; exact k
       ·exact absurd (by rw [hnw.1, hnw.2.2.1]; exact k.symm) hnn
      refine region_gw F164 42 [] (by kernel_rfl) (by kernel_rfl) ?_
      simp only [List.take_succ_cons, List.take_zero]
      refine gw_pure rfl rfl (.int .i64 ((i : Nat) : Int)) (fun w255 hCw255 => pureAt_of (ex_move _)) ?_
      simp only [pS, pN, pA, pC, pZ]
      refine gw_pure rfl rfl (.bool true) (fun w255 hCw255 => pureAt_of (ex_gtr (m := ((i : Nat) : Int)) (n := (0 : Int)) (b := true) rfl rfl (decide_eq_true (by omega)))) ?_
      simp only [pS, pN, pA, pC, pZ]
      refine gw_pure rfl rfl (.bool true) (fun w255 hCw255 => pureAt_of (ex_move _)) ?_
      simp only [pS, pN, pA, pC, pZ]
      refine gw_pure rfl rfl (.pointer (some ⟨n193, 0, none⟩)) (fun w255 hCw255 => pureAt_of (ex_field (q := ⟨n193, 0, none⟩) rfl (fa_27_0 _ _))) ?_
      simp only [pS, pN, pA, pC, pZ]
      refine gw_pure rfl rfl (.slice xa181 e.name.length xc182) (fun w255 hCw255 => pureAt_of (ex_load rfl (load1 (nagg_25 _) (St.cell (St.tells S197 hCw255) (i := 0) rfl rfl)))) ?_
      simp only [pS, pN, pA, pC, pZ]
      refine gw_pure rfl rfl (.string ⟨e.name.toArray⟩) (fun w255 hCw255 => pureAt_of (ex_convert (v := (.slice xa181 e.name.length xc182)) rfl (run_string Try.underlying25 Try.underlying5 Try.underlying9 ((St.tells S197 hCw255)).sat r183))) ?_
      simp only [pS, pN, pA, pC, pZ]
      refine gw_pure rfl rfl (.slice a126 (chgs (stateC cs k1) (stateC cs k2) ps).length c127) (fun w255 hCw255 => pureAt_of (ex_move _)) ?_
      simp only [pS, pN, pA, pC, pZ]
      refine gw_pure rfl rfl (.int .i64 ((i : Nat) : Int)) (fun w255 hCw255 => pureAt_of (ex_move _)) ?_
      simp only [pS, pN, pA, pC, pZ]
      refine gw_pure rfl rfl (.int .i64 (((i - 1) : Nat) : Int)) (fun w255 hCw255 => pureAt_of (ex_sub (m := ((i : Nat) : Int)) (n := (1 : Int)) (r := (((i - 1) : Nat) : Int)) rfl rfl (by omega) (by omega) (by omega))) ?_
      simp only [pS, pN, pA, pC, pZ]
      refine gw_pure rfl rfl (.pointer (some ⟨b200, o201 + (i - 1) * 4, none⟩)) (fun w255 hCw255 => pureAt_of (ex_at (i := (i - 1)) (sz := 4) Try.underlying47 (sizeof_27 _) rfl ha202 rfl (by omega) rfl)) ?_
      simp only [pS, pN, pA, pC, pZ]
      refine gw_pure rfl rfl (.pointer (some ⟨b200, o201 + (i - 1) * 4, none⟩)) (fun w255 hCw255 => pureAt_of (ex_field (q := ⟨b200, o201 + (i - 1) * 4, none⟩) rfl (fa_27_0 _ _))) ?_
      simp only [pS, pN, pA, pC, pZ]
      refine gw_pure rfl rfl (.slice xa204 e'.name.length xc205) (fun w255 hCw255 => pureAt_of (ex_load rfl (load1 (nagg_25 _) (St.fz (St.tells S197 hCw255) c203)))) ?_
      simp only [pS, pN, pA, pC, pZ]
      refine gw_pure rfl rfl (.string ⟨e'.name.toArray⟩) (fun w255 hCw255 => pureAt_of (ex_convert (v := (.slice xa204 e'.name.length xc205)) rfl (run_string Try.underlying25 Try.underlying5 Try.underlying9 ((St.tells S197 hCw255)).sat r206))) ?_
      simp only [pS, pN, pA, pC, pZ]
      refine gw_pure rfl rfl (.bool false) (fun w255 hCw255 => pureAt_of (ex_strop (op := .eql) (l := e.name) (m := e'.name) (b := false) (by simp) rfl rfl (beq_eq_false_iff_ne.2 hnn))) ?_
      simp only [pS, pN, pA, pC, pZ]
      refine gw_pure rfl rfl (.bool false) (fun w255 hCw255 => pureAt_of (ex_pick (b := true) rfl)) ?_
      simp only [pS, pN, pA, pC, pZ]
      refine gw_pure rfl rfl (.bool false) (fun w255 hCw255 => pureAt_of (ex_move _)) ?_
      simp only [pS, pN, pA, pC, pZ]
      refine gw_skip (wanted_no rfl rfl rfl (c := false) rfl (by decide)) ?_
      simp only [pS, pN, pA, pC, pZ]
      refine gw_skip (wanted_no rfl rfl rfl (c := false) rfl (by decide)) ?_
      simp only [pS, pN, pA, pC, pZ]
      refine gw_skip (wanted_no rfl rfl rfl (c := false) rfl (by decide)) ?_
      simp only [pS, pN, pA, pC, pZ]
      refine gw_skip (wanted_no rfl rfl rfl (c := false) rfl (by decide)) ?_
      simp only [pS, pN, pA, pC, pZ]
      refine gw_skip (wanted_no rfl rfl rfl (c := false) rfl (by decide)) ?_
      simp only [pS, pN, pA, pC, pZ]
      refine gw_skip (wanted_no rfl rfl rfl (c := false) rfl (by decide)) ?_
      simp only [pS, pN, pA, pC, pZ]
      refine gw_skip (wanted_no rfl rfl rfl (c := false) rfl (by decide)) ?_
      simp only [pS, pN, pA, pC, pZ]
      refine gw_skip (wanted_no rfl rfl rfl (c := false) rfl (by decide)) ?_
      simp only [pS, pN, pA, pC, pZ]
      refine gw_skip (wanted_no rfl rfl rfl (c := false) rfl (by decide)) ?_
      simp only [pS, pN, pA, pC, pZ]
      refine gw_skip (wanted_no rfl rfl rfl (c := false) rfl (by decide)) ?_
      simp only [pS, pN, pA, pC, pZ]
      refine gw_skip (wanted_no rfl rfl rfl (c := false) rfl (by decide)) ?_
      simp only [pS, pN, pA, pC, pZ]
      refine gw_pure rfl rfl (.bool false) (fun w255 hCw255 => pureAt_of (ex_pick (b := false) rfl)) ?_
      simp only [pS, pN, pA, pC, pZ]
      refine gw_pure rfl rfl (.bool false) (fun w255 hCw255 => pureAt_of (ex_move _)) ?_
      simp only [pS, pN, pA, pC, pZ]
      refine gw_pure rfl rfl (.int .i64 ((i : Nat) : Int)) (fun w255 hCw255 => pureAt_of (ex_move _)) ?_
      simp only [pS, pN, pA, pC, pZ]
      refine gw_pure rfl rfl (.bool true) (fun w255 hCw255 => pureAt_of (ex_gtr (m := ((i : Nat) : Int)) (n := (0 : Int)) (b := true) rfl rfl (decide_eq_true (by omega)))) ?_
      simp only [pS, pN, pA, pC, pZ]
      refine gw_pure rfl rfl (.bool true) (fun w255 hCw255 => pureAt_of (ex_move _)) ?_
      simp only [pS, pN, pA, pC, pZ]
      refine gw_pure rfl rfl (.pointer (some ⟨n193, 0, none⟩)) (fun w255 hCw255 => pureAt_of (ex_field (q := ⟨n193, 0, none⟩) rfl (fa_27_0 _ _))) ?_
      simp only [pS, pN, pA, pC, pZ]
      refine gw_pure rfl rfl (.slice xa181 e.name.length xc182) (fun w255 hCw255 => pureAt_of (ex_load rfl (load1 (nagg_25 _) (St.cell (St.tells S197 hCw255) (i := 0) rfl rfl)))) ?_
      simp only [pS, pN, pA, pC, pZ]
      refine gw_pure rfl rfl (.string ⟨e.name.toArray⟩) (fun w255 hCw255 => pureAt_of (ex_convert (v := (.slice xa181 e.name.length xc182)) rfl (run_string Try.underlying25 Try.underlying5 Try.underlying9 ((St.tells S197 hCw255)).sat r183))) ?_
      simp only [pS, pN, pA, pC, pZ]
      refine gw_pure rfl rfl (.slice a126 (chgs (stateC cs k1) (stateC cs k2) ps).length c127) (fun w255 hCw255 => pureAt_of (ex_move _)) ?_
      simp only [pS, pN, pA, pC, pZ]
      refine gw_pure rfl rfl (.int .i64 ((i : Nat) : Int)) (fun w255 hCw255 => pureAt_of (ex_move _)) ?_
      simp only [pS, pN, pA, pC, pZ]
      refine gw_pure rfl rfl (.int .i64 (((i - 1) : Nat) : Int)) (fun w255 hCw255 => pureAt_of (ex_sub (m := ((i : Nat) : Int)) (n := (1 : Int)) (r := (((i - 1) : Nat) : Int)) rfl rfl (by omega) (by omega) (by omega))) ?_
      simp only [pS, pN, pA, pC, pZ]
      refine gw_pure rfl rfl (.pointer (some ⟨b200, o201 + (i - 1) * 4, none⟩)) (fun w255 hCw255 => pureAt_of (ex_at (i := (i - 1)) (sz := 4) Try.underlying47 (sizeof_27 _) rfl ha202 rfl (by omega) rfl)) ?_
      simp only [pS, pN, pA, pC, pZ]
      refine gw_pure rfl rfl (.pointer (some ⟨b200, o201 + (i - 1) * 4, none⟩)) (fun w255 hCw255 => pureAt_of (ex_field (q := ⟨b200, o201 + (i - 1) * 4, none⟩) rfl (fa_27_0 _ _))) ?_
      simp only [pS, pN, pA, pC, pZ]
      refine gw_pure rfl rfl (.slice xa204 e'.name.length xc205) (fun w255 hCw255 => pureAt_of (ex_load rfl (load1 (nagg_25 _) (St.fz (St.tells S197 hCw255) c203)))) ?_
      simp only [pS, pN, pA, pC, pZ]
      refine gw_pure rfl rfl (.string ⟨e'.name.toArray⟩) (fun w255 hCw255 => pureAt_of (ex_convert (v := (.slice xa204 e'.name.length xc205)) rfl (run_string Try.underlying25 Try.underlying5 Try.underlying9 ((St.tells S197 hCw255)).sat r206))) ?_
      simp only [pS, pN, pA, pC, pZ]
      refine gw_nil ?_
      intro w256 hC258 hF259
      clear hF259
      have S257 := St.tells S197 hC258
      simp only [List.drop_succ_cons, List.drop_zero]
      refine do_ rfl (.bool false) (ex_strop (op := .lss) (l := e.name) (m := e'.name) (b := false) (by simp) rfl rfl (lss_no hnl)) ?_
      simp only [pS, pN, pA, pC, pZ]
      refine do_ rfl (.bool false) (ex_pick (b := true) rfl) ?_
      simp only [pS, pN, pA, pC, pZ]
      refine do_ rfl (.bool false) (ex_pick (b := false) rfl) ?_
      simp only [pS, pN, pA, pC, pZ]
      refine wl_nil (hK199 _ _ ?_)
      refine wp_cond_false rfl ?_
      refine wp_skip ?_
      refine hK198 _ _ ?_
      refine wp_seq_k (fun K260 hK260 => ?_)
      have hwas := Mk1.was hch hm1 hw
      rw [← hnw0.1, ← hnw0.2.1] at hwas
      have hfs : (getF x e.name e.key).isSome = true := by
       have hne := hch.ne w hmw
       have hgb := hnw0.2.2.1
       rw [hge] at hgb
       rw [hwas, hnw0.1, hnw0.2.1]
       cases h1 : getF (stateC cs k1) w.name w.key with
       | some v => rfl
       | none =>
        cases h2 : getF (stateC cs k2) w.name w.key with
        | some v => rw [h2] at hgb; cases hgb
        | none => rw [h1, h2] at hne; exact absurd rfl hne
      refine region_wl ?_
      refine do_ rfl (.slice xa x.length xc) (ex_move _) ?_
      simp only [pS, pN, pA, pC, pZ]
      refine do_ rfl (.pointer (some ⟨n193, 0, none⟩)) (ex_field (q := ⟨n193, 0, none⟩) rfl (fa_27_0 _ _)) ?_
      simp only [pS, pN, pA, pC, pZ]
      refine do_ rfl (.slice xa181 e.name.length xc182) (ex_load rfl (load1 (nagg_25 _) (St.cell S257 (i := 0) rfl rfl))) ?_
      simp only [pS, pN, pA, pC, pZ]
      refine do_ rfl (.pointer (some ⟨n193, 1, none⟩)) (ex_field (q := ⟨n193, 1, none⟩) rfl (fa_27_1 _ _)) ?_
      simp only [pS, pN, pA, pC, pZ]
      refine do_ rfl (.slice xa185 e.key.length xc186) (ex_load rfl (load1 (nagg_25 _) (St.cell S257 (i := 0) rfl rfl))) ?_
      simp only [pS, pN, pA, pC, pZ]
      refine stGives S257 rfl (ex_fn (vs := #[(.slice xa x.length xc), (.slice xa181 e.name.length xc182), (.slice xa185 e.key.length xc186)]) (map3 rfl rfl rfl) rfl (ent_16 _ _)) (getF_spec _ _ _ _ _ x e.name e.key (S257).sat hfx r183 r187 (hm1.ok.mono (by omega)) (WrOk.name hwo) ⟨WrOk.key1 hwo, WrOk.key2 hwo⟩) ?_
      intro v266 w261 F263 S262 le264 R265
      obtain ⟨_, rfl, a267, c268, hx270, r269⟩ := R265
      rw [hfs] at hx270
      subst hx270
      have r269 : Bs _ (.slice a267 ((getF x e.name e.key).getD []).length c268) ((getF x e.name e.key).getD []) := r269
      simp only [pS, pN, pA, pC, pZ]
      refine do_ rfl (.tuple #[(.agg #[(.bool true), (.slice a267 ((getF x e.name e.key).getD []).length c268)]), (.int .i64 0)]) (ex_move _) ?_
      simp only [pS, pN, pA, pC, pZ]
      refine do_ rfl (.agg #[(.bool true), (.slice a267 ((getF x e.name e.key).getD []).length c268)]) (ex_extract rfl rfl) ?_
      simp only [pS, pN, pA, pC, pZ]
      refine do_ rfl (.int .i64 0) (ex_extract rfl rfl) ?_
      simp only [pS, pN, pA, pC, pZ]
      refine stNew S262 (v := fun n => .pointer (some ⟨n, 0, none⟩)) rfl (ex_alloc (zero_38 _)) (fun n271 w272 S273 => ?_)
      simp only [pS, pN, pA, pC, pZ]
      have S273 : St W (whole W) w272 F263 [⟨n271, [(.bool false), (.slice none 0 0)], 38⟩, ⟨n193, [(.slice xa181 e.name.length xc182), (.slice xa185 e.key.length xc186), (.bool true), (.slice xa190 e.value.length xc191)], 27⟩] [] := S273
      refine stStore (i := 0) (v := (.agg #[(.bool true), (.slice a267 ((getF x e.name e.key).getD []).length c268)])) S273 rfl rfl rfl rfl (size_38) (allc2 rfl rfl) (Nat.le_of_ble_eq_true rfl) (fun w274 S275 => ?_)
      simp only [pS, pN, pA, pC, pZ]
      have S275 : St W (whole W) w274 F263 [⟨n271, [(.bool true), (.slice a267 ((getF x e.name e.key).getD []).length c268)], 38⟩, ⟨n193, [(.slice xa181 e.name.length xc182), (.slice xa185 e.key.length xc186), (.bool true), (.slice xa190 e.value.length xc191)], 27⟩] [] := S275
      refine do_ rfl (.int .i64 0) (ex_assign _) ?_
      simp only [pS, pN, pA, pC, pZ]
      refine wl_nil (hK260 _ _ ?_)
      refine wp_seq_k (fun K276 hK276 => ?_)
      refine wp_seq_k (fun K277 hK277 => region_wl ?_)
      refine do_ rfl (.int .i64 0) (ex_move _) ?_
      simp only [pS, pN, pA, pC, pZ]
      refine do_ rfl (.bool false) (ex_neq (b := false) rfl rfl (by decide)) ?_
      simp only [pS, pN, pA, pC, pZ]
      refine do_ rfl (.bool false) (ex_move _) ?_
      simp only [pS, pN, pA, pC, pZ]
      refine do_ rfl (.pointer (some ⟨n193, 2, none⟩)) (ex_field (q := ⟨n193, 2, none⟩) rfl (fa_27_2 _ _)) ?_
      simp only [pS, pN, pA, pC, pZ]
      refine do_ rfl (.bool true) (ex_load rfl (load1 (nagg_4 _) (St.cell S275 (i := 1) rfl rfl))) ?_
      simp only [pS, pN, pA, pC, pZ]
      refine do_ rfl (.bool true) (ex_move _) ?_
      simp only [pS, pN, pA, pC, pZ]
      refine do_ rfl (.pointer (some ⟨n271, 0, none⟩)) (ex_field (q := ⟨n271, 0, none⟩) rfl (fa_38_0 _ _)) ?_
      simp only [pS, pN, pA, pC, pZ]
      refine do_ rfl (.bool true) (ex_load rfl (load1 (nagg_4 _) (St.cell S275 (i := 0) rfl rfl))) ?_
      simp only [pS, pN, pA, pC, pZ]
      refine do_ rfl (.bool false) (ex_not (b := true) rfl rfl) ?_
      simp only [pS, pN, pA, pC, pZ]
      refine do_ rfl (.bool false) (ex_pick (b := true) rfl) ?_
      simp only [pS, pN, pA, pC, pZ]
      refine do_ rfl (.bool false) (ex_pick (b := false) rfl) ?_
      simp only [pS, pN, pA, pC, pZ]
      refine do_ rfl (.bool false) (ex_move _) ?_
      simp only [pS, pN, pA, pC, pZ]
      refine do_ rfl (.pointer (some ⟨n271, 0, none⟩)) (ex_field (q := ⟨n271, 0, none⟩) rfl (fa_38_0 _ _)) ?_
      simp only [pS, pN, pA, pC, pZ]
      refine do_ rfl (.bool true) (ex_load rfl (load1 (nagg_4 _) (St.cell S275 (i := 0) rfl rfl))) ?_
      simp only [pS, pN, pA, pC, pZ]
      refine do_ rfl (.bool true) (ex_move _) ?_
      simp only [pS, pN, pA, pC, pZ]
      refine do_ rfl (.pointer (some ⟨n193, 2, none⟩)) (ex_field (q := ⟨n193, 2, none⟩) rfl (fa_27_2 _ _)) ?_
      simp only [pS, pN, pA, pC, pZ]
      refine do_ rfl (.bool true) (ex_load rfl (load1 (nagg_4 _) (St.cell S275 (i := 1) rfl rfl))) ?_
      simp only [pS, pN, pA, pC, pZ]
      refine do_ rfl (.bool false) (ex_not (b := true) rfl rfl) ?_
      simp only [pS, pN, pA, pC, pZ]
      refine do_ rfl (.bool false) (ex_pick (b := true) rfl) ?_
      simp only [pS, pN, pA, pC, pZ]
      refine do_ rfl (.bool false) (ex_move _) ?_
      simp only [pS, pN, pA, pC, pZ]
      refine doN (wanted_no rfl rfl rfl (c := false) rfl (by decide)) ?_
      simp only [pS, pN, pA, pC, pZ]
      refine doN (wanted_no rfl rfl rfl (c := false) rfl (by decide)) ?_
      simp only [pS, pN, pA, pC, pZ]
      refine doN (wanted_no rfl rfl rfl (c := false) rfl (by decide)) ?_
      simp only [pS, pN, pA, pC, pZ]
      refine doN (wanted_no rfl rfl rfl (c := false) rfl (by decide)) ?_
      simp only [pS, pN, pA, pC, pZ]
      refine doN (wanted_no rfl rfl rfl (c := false) rfl (by decide)) ?_
      simp only [pS, pN, pA, pC, pZ]
      refine do_ rfl (.bool false) (ex_pick (b := false) rfl) ?_
      simp only [pS, pN, pA, pC, pZ]
      refine do_ rfl (.bool false) (ex_pick (b := false) rfl) ?_
      simp only [pS, pN, pA, pC, pZ]
      refine wl_nil (hK277 _ _ ?_)
      refine wp_cond_false rfl ?_
      refine wp_skip ?_
      refine hK276 _ _ ?_
      refine wp_seq_k (fun K278 hK278 => region_wl ?_)
      refine do_ rfl (.pointer (some ⟨n193, 2, none⟩)) (ex_field (q := ⟨n193, 2, none⟩) rfl (fa_27_2 _ _)) ?_
      simp only [pS, pN, pA, pC, pZ]
      refine do_ rfl (.bool true) (ex_load rfl (load1 (nagg_4 _) (St.cell S275 (i := 1) rfl rfl))) ?_
      simp only [pS, pN, pA, pC, pZ]
      refine wl_nil (hK278 _ _ ?_)
      refine wp_cond_true rfl ?_
      refine wp_seq_k (fun K279 hK279 => ?_)
      obtain ⟨y, hay, hmy⟩ := Mk1.step hch hm1 hw (by rw [← he]; exact hge)
      rw [← he] at hay
      refine region_wl ?_
      refine do_ rfl (.slice xa x.length xc) (ex_move _) ?_
      simp only [pS, pN, pA, pC, pZ]
      refine do_ rfl (.slice a126 (chgs (stateC cs k1) (stateC cs k2) ps).length c127) (ex_move _) ?_
      simp only [pS, pN, pA, pC, pZ]
      refine do_ rfl (.int .i64 ((i : Nat) : Int)) (ex_move _) ?_
      simp only [pS, pN, pA, pC, pZ]
      refine do_ rfl (.int .i64 ((i : Nat) : Int)) (ex_move _) ?_
      simp only [pS, pN, pA, pC, pZ]
      refine do_ rfl (.int .i64 (((i + 1) : Nat) : Int)) (ex_add (m := ((i : Nat) : Int)) (n := (1 : Int)) (r := (((i + 1) : Nat) : Int)) rfl rfl (by omega) (by omega) (by omega)) ?_
      simp only [pS, pN, pA, pC, pZ]
      refine do_ rfl (.slice (if c127 = i then a126 else a126.map (·.add (i * 4))) ((i + 1) - i) (c127 - i)) (ex_slice (l := i) (h := (i + 1)) (sz := 4) Try.underlying47 rfl (sizeof_27 _) (.inr ⟨_, rfl, rfl⟩) (.inr ⟨_, rfl, rfl⟩) (by omega) (by omega) (rfl)) ?_
      simp only [pS, pN, pA, pC, pZ]
      have r280 : Wrs F263 (.slice (if c127 = i then a126 else a126.map (·.add (i * 4))) ((i + 1) - i) (c127 - i)) (((chgs (stateC cs k1) (stateC cs k2) ps).take (i + 1)).drop i) := Sl.cut2 (by decide) (R124.mono (((le135.trans le147).trans le171).trans le264)) (by omega) (by omega)
      rw [one_at hq] at r280
      refine stGives S275 rfl (ex_fn (vs := #[(.slice xa x.length xc), (.slice (if c127 = i then a126 else a126.map (·.add (i * 4))) ((i + 1) - i) (c127 - i))]) (map2 rfl rfl) rfl (ent_17 _ _)) (apply_is (S275).sat (hfx.mono le264) r280 (hm1.ok.mono (by omega)) (all_one hwo) (apply_one hwo hay)) ?_
      intro v286 w281 F283 S282 le284 R285
      obtain ⟨_, rfl, r289⟩ := R285
      obtain ⟨a287, c288, rfl, h290, h291⟩ := Sl.shape r289
      unfold maxLen at h291
      have h290 : y.length ≤ c288 := h290
      have r289 : Tns _ (.slice a287 y.length c288) y := r289
      simp only [pS, pN, pA, pC, pZ]
      refine do_ rfl (.tuple #[(.slice a287 y.length c288), (.int .i64 0)]) (ex_move _) ?_
      simp only [pS, pN, pA, pC, pZ]
      refine do_ rfl (.slice a287 y.length c288) (ex_extract rfl rfl) ?_
      simp only [pS, pN, pA, pC, pZ]
      refine do_ rfl (.int .i64 0) (ex_extract rfl rfl) ?_
      simp only [pS, pN, pA, pC, pZ]
      refine do_ rfl (.slice a287 y.length c288) (ex_assign _) ?_
      simp only [pS, pN, pA, pC, pZ]
      refine do_ rfl (.int .i64 0) (ex_assign _) ?_
      simp only [pS, pN, pA, pC, pZ]
      refine wl_nil (hK279 _ _ ?_)
      refine wp_seq_k (fun K292 hK292 => ?_)
      refine wp_seq_k (fun K293 hK293 => region_wl ?_)
      refine do_ rfl (.int .i64 0) (ex_move _) ?_
      simp only [pS, pN, pA, pC, pZ]
      refine do_ rfl (.bool false) (ex_neq (b := false) rfl rfl (by decide)) ?_
      simp only [pS, pN, pA, pC, pZ]
      refine wl_nil (hK293 _ _ ?_)
      refine wp_cond_false rfl ?_
      refine wp_skip ?_
      refine hK292 _ _ ?_
      refine region_wl ?_
      refine do_ rfl (.slice a287 y.length c288) (ex_move _) ?_
      simp only [pS, pN, pA, pC, pZ]
      refine do_ rfl (.slice a287 y.length c288) (ex_assign _) ?_
      simp only [pS, pN, pA, pC, pZ]
      refine wl_nil (hK175 _ _ ?_)
      refine region_wl ?_
      refine do_ rfl (.int .i64 ((i : Nat) : Int)) (ex_move _) ?_
      simp only [pS, pN, pA, pC, pZ]
      refine do_ rfl (.int .i64 (((i + 1) : Nat) : Int)) (ex_add (m := ((i : Nat) : Int)) (n := (1 : Int)) (r := (((i + 1) : Nat) : Int)) rfl rfl (by omega) (by omega) (by omega)) ?_
      simp only [pS, pN, pA, pC, pZ]
      refine do_ rfl (.int .i64 (((i + 1) : Nat) : Int)) (ex_assign _) ?_
      simp only [pS, pN, pA, pC, pZ]
      refine wl_nil ?_
      have S282 := St.drop S282 (L' := []) (.cons _ (.cons _ (List.Sublist.refl _)))
      exact hK172 _ _ _ (by omega) ⟨(i + 1), y, a287, c288, F283, _, rfl, rfl, rfl, S282, ((le171.trans le264).trans le284), (by omega), hmy, r289⟩
    ·refine region_gw F164 42 [] (by kernel_rfl) (by kernel_rfl) ?_
     simp only [List.take_succ_cons, List.take_zero]
     refine gw_pure rfl rfl (.int .i64 ((i : Nat) : Int)) (fun w294 hCw294 => pureAt_of (ex_move _)) ?_
     simp only [pS, pN, pA, pC, pZ]
     refine gw_pure rfl rfl (.bool false) (fun w294 hCw294 => pureAt_of (ex_gtr (m := ((i : Nat) : Int)) (n := (0 : Int)) (b := false) rfl rfl (decide_eq_false (by omega)))) ?_
     simp only [pS, pN, pA, pC, pZ]
     refine gw_pure rfl rfl (.bool false) (fun w294 hCw294 => pureAt_of (ex_move _)) ?_
     simp only [pS, pN, pA, pC, pZ]
     refine gw_skip (wanted_no rfl rfl rfl (c := false) rfl (by decide)) ?_
     simp only [pS, pN, pA, pC, pZ]
     refine gw_skip (wanted_no rfl rfl rfl (c := false) rfl (by decide)) ?_
     simp only [pS, pN, pA, pC, pZ]
     refine gw_skip (wanted_no rfl rfl rfl (c := false) rfl (by decide)) ?_
     simp only [pS, pN, pA, pC, pZ]
     refine gw_skip (wanted_no rfl rfl rfl (c := false) rfl (by decide)) ?_
     simp only [pS, pN, pA, pC, pZ]
     refine gw_skip (wanted_no rfl rfl rfl (c := false) rfl (by decide)) ?_
     simp only [pS, pN, pA, pC, pZ]
     refine gw_skip (wanted_no rfl rfl rfl (c := false) rfl (by decide)) ?_
     simp only [pS, pN, pA, pC, pZ]
     refine gw_skip (wanted_no rfl rfl rfl (c := false) rfl (by decide)) ?_
     simp only [pS, pN, pA, pC, pZ]
     refine gw_skip (wanted_no rfl rfl rfl (c := false) rfl (by decide)) ?_
     simp only [pS, pN, pA, pC, pZ]
     refine gw_skip (wanted_no rfl rfl rfl (c := false) rfl (by decide)) ?_
     simp only [pS, pN, pA, pC, pZ]
     refine gw_skip (wanted_no rfl rfl rfl (c := false) rfl (by decide)) ?_
     simp only [pS, pN, pA, pC, pZ]
     refine gw_skip (wanted_no rfl rfl rfl (c := false) rfl (by decide)) ?_
     simp only [pS, pN, pA, pC, pZ]
     refine gw_pure rfl rfl (.bool false) (fun w294 hCw294 => pureAt_of (ex_pick (b := false) rfl)) ?_
     simp only [pS, pN, pA, pC, pZ]
     refine gw_pure rfl rfl (.bool false) (fun w294 hCw294 => pureAt_of (ex_move _)) ?_
     simp only [pS, pN, pA, pC, pZ]
     refine gw_skip (wanted_no rfl rfl rfl (c := false) rfl (by decide)) ?_
     simp only [pS, pN, pA, pC, pZ]
     refine gw_skip (wanted_no rfl rfl rfl (c := false) rfl (by decide)) ?_
     simp only [pS, pN, pA, pC, pZ]
     refine gw_skip (wanted_no rfl rfl rfl (c := false) rfl (by decide)) ?_
     simp only [pS, pN, pA, pC, pZ]
     refine gw_skip (wanted_no rfl rfl rfl (c := false) rfl (by decide)) ?_
     simp only [pS, pN, pA, pC, pZ]
     refine gw_skip (wanted_no rfl rfl rfl (c := false) rfl (by decide)) ?_
     simp only [pS, pN, pA, pC, pZ]
     refine gw_skip (wanted_no rfl rfl rfl (c := false) rfl (by decide)) ?_
     simp only [pS, pN, pA, pC, pZ]
     refine gw_skip (wanted_no rfl rfl rfl (c := false) rfl (by decide)) ?_
     simp only [pS, pN, pA, pC, pZ]
     refine gw_skip (wanted_no rfl rfl rfl (c := false) rfl (by decide)) ?_
     simp only [pS, pN, pA, pC, pZ]
     refine gw_skip (wanted_no rfl rfl rfl (c := false) rfl (by decide)) ?_
     simp only [pS, pN, pA, pC, pZ]
     refine gw_skip (wanted_no rfl rfl rfl (c := false) rfl (by decide)) ?_
     simp only [pS, pN, pA, pC, pZ]
     refine gw_skip (wanted_no rfl rfl rfl (c := false) rfl (by decide)) ?_
     simp only [pS, pN, pA, pC, pZ]
     refine gw_pure rfl rfl (.bool false) (fun w294 hCw294 => pureAt_of (ex_pick (b := false) rfl)) ?_
     simp only [pS, pN, pA, pC, pZ]
     refine gw_pure rfl rfl (.bool false) (fun w294 hCw294 => pureAt_of (ex_move _)) ?_
     simp only [pS, pN, pA, pC, pZ]
     refine gw_pure rfl rfl (.int .i64 ((i : Nat) : Int)) (fun w294 hCw294 => pureAt_of (ex_move _)) ?_
     simp only [pS, pN, pA, pC, pZ]
     refine gw_pure rfl rfl (.bool false) (fun w294 hCw294 => pureAt_of (ex_gtr (m := ((i : Nat) : Int)) (n := (0 : Int)) (b := false) rfl rfl (decide_eq_false (by omega)))) ?_
     simp only [pS, pN, pA, pC, pZ]
     refine gw_pure rfl rfl (.bool false) (fun w294 hCw294 => pureAt_of (ex_move _)) ?_
     simp only [pS, pN, pA, pC, pZ]
     refine gw_skip (wanted_no rfl rfl rfl (c := false) rfl (by decide)) ?_
     simp only [pS, pN, pA, pC, pZ]
     refine gw_skip (wanted_no rfl rfl rfl (c := false) rfl (by decide)) ?_
     simp only [pS, pN, pA, pC, pZ]
     refine gw_skip (wanted_no rfl rfl rfl (c := false) rfl (by decide)) ?_
     simp only [pS, pN, pA, pC, pZ]
     refine gw_skip (wanted_no rfl rfl rfl (c := false) rfl (by decide)) ?_
     simp only [pS, pN, pA, pC, pZ]
     refine gw_skip (wanted_no rfl rfl rfl (c := false) rfl (by decide)) ?_
     simp only [pS, pN, pA, pC, pZ]
     refine gw_skip (wanted_no rfl rfl rfl (c := false) rfl (by decide)) ?_
     simp only [pS, pN, pA, pC, pZ]
     refine gw_skip (wanted_no rfl rfl rfl (c := false) rfl (by decide)) ?_
     simp only [pS, pN, pA, pC, pZ]
     refine gw_skip (wanted_no rfl rfl rfl (c := false) rfl (by decide)) ?_
     simp only [pS, pN, pA, pC, pZ]
     refine gw_skip (wanted_no rfl rfl rfl (c := false) rfl (by decide)) ?_
     simp only [pS, pN, pA, pC, pZ]
     refine gw_skip (wanted_no rfl rfl rfl (c := false) rfl (by decide)) ?_
     simp only [pS, pN, pA, pC, pZ]
     refine gw_nil ?_
     intro w295 hC297 hF298
     clear hF298
     have S296 := St.tells S197 hC297
     simp only [List.drop_succ_cons, List.drop_zero]
     refine doN (wanted_no rfl rfl rfl (c := false) rfl (by decide)) ?_
     simp only [pS, pN, pA, pC, pZ]
     refine do_ rfl (.bool false) (ex_pick (b := false) rfl) ?_
     simp only [pS, pN, pA, pC, pZ]
     refine do_ rfl (.bool false) (ex_pick (b := false) rfl) ?_
     simp only [pS, pN, pA, pC, pZ]
     refine wl_nil (hK199 _ _ ?_)
     refine wp_cond_false rfl ?_
     refine wp_skip ?_
     refine hK198 _ _ ?_
     refine wp_seq_k (fun K299 hK299 => ?_)
     have hwas := Mk1.was hch hm1 hw
     rw [← hnw0.1, ← hnw0.2.1] at hwas
     have hfs : (getF x e.name e.key).isSome = true := by
      have hne := hch.ne w hmw
      have hgb := hnw0.2.2.1
      rw [hge] at hgb
      rw [hwas, hnw0.1, hnw0.2.1]
      cases h1 : getF (stateC cs k1) w.name w.key with
      | some v => rfl
      | none =>
       cases h2 : getF (stateC cs k2) w.name w.key with
       | some v => rw [h2] at hgb; cases hgb
       | none => rw [h1, h2] at hne; exact absurd rfl hne
     refine region_wl ?_
     refine do_ rfl (.slice xa x.length xc) (ex_move _) ?_
     simp only [pS, pN, pA, pC, pZ]
     refine do_ rfl (.pointer (some ⟨n193, 0, none⟩)) (ex_field (q := ⟨n193, 0, none⟩) rfl (fa_27_0 _ _)) ?_
     simp only [pS, pN, pA, pC, pZ]
     refine do_ rfl (.slice xa181 e.name.length xc182) (ex_load rfl (load1 (nagg_25 _) (St.cell S296 (i := 0) rfl rfl))) ?_
     simp only [pS, pN, pA, pC, pZ]
     refine do_ rfl (.pointer (some ⟨n193, 1, none⟩)) (ex_field (q := ⟨n193, 1, none⟩) rfl (fa_27_1 _ _)) ?_
     simp only [pS, pN, pA, pC, pZ]
     refine do_ rfl (.slice xa185 e.key.length xc186) (ex_load rfl (load1 (nagg_25 _) (St.cell S296 (i := 0) rfl rfl))) ?_
     simp only [pS, pN, pA, pC, pZ]
     refine stGives S296 rfl (ex_fn (vs := #[(.slice xa x.length xc), (.slice xa181 e.name.length xc182), (.slice xa185 e.key.length xc186)]) (map3 rfl rfl rfl) rfl (ent_16 _ _)) (getF_spec _ _ _ _ _ x e.name e.key (S296).sat hfx r183 r187 (hm1.ok.mono (by omega)) (WrOk.name hwo) ⟨WrOk.key1 hwo, WrOk.key2 hwo⟩) ?_
     intro v305 w300 F302 S301 le303 R304
     obtain ⟨_, rfl, a306, c307, hx309, r308⟩ := R304
     rw [hfs] at hx309
     subst hx309
     have r308 : Bs _ (.slice a306 ((getF x e.name e.key).getD []).length c307) ((getF x e.name e.key).getD []) := r308
     simp only [pS, pN, pA, pC, pZ]
     refine do_ rfl (.tuple #[(.agg #[(.bool true), (.slice a306 ((getF x e.name e.key).getD []).length c307)]), (.int .i64 0)]) (ex_move _) ?_
     simp only [pS, pN, pA, pC, pZ]
     refine do_ rfl (.agg #[(.bool true), (.slice a306 ((getF x e.name e.key).getD []).length c307)]) (ex_extract rfl rfl) ?_
     simp only [pS, pN, pA, pC, pZ]
     refine do_ rfl (.int .i64 0) (ex_extract rfl rfl) ?_
     simp only [pS, pN, pA, pC, pZ]
     refine stNew S301 (v := fun n => .pointer (some ⟨n, 0, none⟩)) rfl (ex_alloc (zero_38 _)) (fun n310 w311 S312 => ?_)
     simp only [pS, pN, pA, pC, pZ]
     have S312 : St W (whole W) w311 F302 [⟨n310, [(.bool false), (.slice none 0 0)], 38⟩, ⟨n193, [(.slice xa181 e.name.length xc182), (.slice xa185 e.key.length xc186), (.bool true), (.slice xa190 e.value.length xc191)], 27⟩] [] := S312
     refine stStore (i := 0) (v := (.agg #[(.bool true), (.slice a306 ((getF x e.name e.key).getD []).length c307)])) S312 rfl rfl rfl rfl (size_38) (allc2 rfl rfl) (Nat.le_of_ble_eq_true rfl) (fun w313 S314 => ?_)
     simp only [pS, pN, pA, pC, pZ]
     have S314 : St W (whole W) w313 F302 [⟨n310, [(.bool true), (.slice a306 ((getF x e.name e.key).getD []).length c307)], 38⟩, ⟨n193, [(.slice xa181 e.name.length xc182), (.slice xa185 e.key.length xc186), (.bool true), (.slice xa190 e.value.length xc191)], 27⟩] [] := S314
     refine do_ rfl (.int .i64 0) (ex_assign _) ?_
     simp only [pS, pN, pA, pC, pZ]
     refine wl_nil (hK299 _ _ ?_)
     refine wp_seq_k (fun K315 hK315 => ?_)
     refine wp_seq_k (fun K316 hK316 => region_wl ?_)
     refine do_ rfl (.int .i64 0) (ex_move _) ?_
     simp only [pS, pN, pA, pC, pZ]
     refine do_ rfl (.bool false) (ex_neq (b := false) rfl rfl (by decide)) ?_
     simp only [pS, pN, pA, pC, pZ]
     refine do_ rfl (.bool false) (ex_move _) ?_
     simp only [pS, pN, pA, pC, pZ]
     refine do_ rfl (.pointer (some ⟨n193, 2, none⟩)) (ex_field (q := ⟨n193, 2, none⟩) rfl (fa_27_2 _ _)) ?_
     simp only [pS, pN, pA, pC, pZ]
     refine do_ rfl (.bool true) (ex_load rfl (load1 (nagg_4 _) (St.cell S314 (i := 1) rfl rfl))) ?_
     simp only [pS, pN, pA, pC, pZ]
     refine do_ rfl (.bool true) (ex_move _) ?_
     simp only [pS, pN, pA, pC, pZ]
     refine do_ rfl (.pointer (some ⟨n310, 0, none⟩)) (ex_field (q := ⟨n310, 0, none⟩) rfl (fa_38_0 _ _)) ?_
     simp only [pS, pN, pA, pC, pZ]
     refine do_ rfl (.bool true) (ex_load rfl (load1 (nagg_4 _) (St.cell S314 (i := 0) rfl rfl))) ?_
     simp only [pS, pN, pA, pC, pZ]
     refine do_ rfl (.bool false) (ex_not (b := true) rfl rfl) ?_
     simp only [pS, pN, pA, pC, pZ]
     refine do_ rfl (.bool false) (ex_pick (b := true) rfl) ?_
     simp only [pS, pN, pA, pC, pZ]
     refine do_ rfl (.bool false) (ex_pick (b := false) rfl) ?_
     simp only [pS, pN, pA, pC, pZ]
     refine do_ rfl (.bool false) (ex_move _) ?_
     simp only [pS, pN, pA, pC, pZ]
     refine do_ rfl (.pointer (some ⟨n310, 0, none⟩)) (ex_field (q := ⟨n310, 0, none⟩) rfl (fa_38_0 _ _)) ?_
     simp only [pS, pN, pA, pC, pZ]
     refine do_ rfl (.bool true) (ex_load rfl (load1 (nagg_4 _) (St.cell S314 (i := 0) rfl rfl))) ?_
     simp only [pS, pN, pA, pC, pZ]
     refine do_ rfl (.bool true) (ex_move _) ?_
     simp only [pS, pN, pA, pC, pZ]
     refine do_ rfl (.pointer (some ⟨n193, 2, none⟩)) (ex_field (q := ⟨n193, 2, none⟩) rfl (fa_27_2 _ _)) ?_
     simp only [pS, pN, pA, pC, pZ]
     refine do_ rfl (.bool true) (ex_load rfl (load1 (nagg_4 _) (St.cell S314 (i := 1) rfl rfl))) ?_
     simp only [pS, pN, pA, pC, pZ]
     refine do_ rfl (.bool false) (ex_not (b := true) rfl rfl) ?_
     simp only [pS, pN, pA, pC, pZ]
     refine do_ rfl (.bool false) (ex_pick (b := true) rfl) ?_
     simp only [pS, pN, pA, pC, pZ]
     refine do_ rfl (.bool false) (ex_move _) ?_
     simp only [pS, pN, pA, pC, pZ]
     refine doN (wanted_no rfl rfl rfl (c := false) rfl (by decide)) ?_
     simp only [pS, pN, pA, pC, pZ]
     refine doN (wanted_no rfl rfl rfl (c := false) rfl (by decide)) ?_
     simp only [pS, pN, pA, pC, pZ]
     refine doN (wanted_no rfl rfl rfl (c := false) rfl (by decide)) ?_
     simp only [pS, pN, pA, pC, pZ]
     refine doN (wanted_no rfl rfl rfl (c := false) rfl (by decide)) ?_
     simp only [pS, pN, pA, pC, pZ]
     refine doN (wanted_no rfl rfl rfl (c := false) rfl (by decide)) ?_
     simp only [pS, pN, pA, pC, pZ]
     refine do_ rfl (.bool false) (ex_pick (b := false) rfl) ?_
     simp only [pS, pN, pA, pC, pZ]
     refine do_ rfl (.bool false) (ex_pick (b := false) rfl) ?_
     simp only [pS, pN, pA, pC, pZ]
     refine wl_nil (hK316 _ _ ?_)
     refine wp_cond_false rfl ?_
     refine wp_skip ?_
     refine hK315 _ _ ?_
     refine wp_seq_k (fun K317 hK317 => region_wl ?_)
     refine do_ rfl (.pointer (some ⟨n193, 2, none⟩)) (ex_field (q := ⟨n193, 2, none⟩) rfl (fa_27_2 _ _)) ?_
     simp only [pS, pN, pA, pC, pZ]
     refine do_ rfl (.bool true) (ex_load rfl (load1 (nagg_4 _) (St.cell S314 (i := 1) rfl rfl))) ?_
     simp only [pS, pN, pA, pC, pZ]
     refine wl_nil (hK317 _ _ ?_)
     refine wp_cond_true rfl ?_
     refine wp_seq_k (fun K318 hK318 => ?_)
     obtain ⟨y, hay, hmy⟩ := Mk1.step hch hm1 hw (by rw [← he]; exact hge)
     rw [← he] at hay
     refine region_wl ?_
     refine do_ rfl (.slice xa x.length xc) (ex_move _) ?_
     simp only [pS, pN, pA, pC, pZ]
     refine do_ rfl (.slice a126 (chgs (stateC cs k1) (stateC cs k2) ps).length c127) (ex_move _) ?_
     simp only [pS, pN, pA, pC, pZ]
     refine do_ rfl (.int .i64 ((i : Nat) : Int)) (ex_move _) ?_
     simp only [pS, pN, pA, pC, pZ]
     refine do_ rfl (.int .i64 ((i : Nat) : Int)) (ex_move _) ?_
     simp only [pS, pN, pA, pC, pZ]
     refine do_ rfl (.int .i64 (((i + 1) : Nat) : Int)) (ex_add (m := ((i : Nat) : Int)) (n := (1 : Int)) (r := (((i + 1) : Nat) : Int)) rfl rfl (by omega) (by omega) (by omega)) ?_
     simp only [pS, pN, pA, pC, pZ]
     refine do_ rfl (.slice (if c127 = i then a126 else a126.map (·.add (i * 4))) ((i + 1) - i) (c127 - i)) (ex_slice (l := i) (h := (i + 1)) (sz := 4) Try.underlying47 rfl (sizeof_27 _) (.inr ⟨_, rfl, rfl⟩) (.inr ⟨_, rfl, rfl⟩) (by omega) (by omega) (rfl)) ?_
     simp only [pS, pN, pA, pC, pZ]
     have r319 : Wrs F302 (.slice (if c127 = i then a126 else a126.map (·.add (i * 4))) ((i + 1) - i) (c127 - i)) (((chgs (stateC cs k1) (stateC cs k2) ps).take (i + 1)).drop i) := Sl.cut2 (by decide) (R124.mono (((le135.trans le147).trans le171).trans le303)) (by omega) (by omega)
     rw [one_at hq] at r319
     refine stGives S314 rfl (ex_fn (vs := #[(.slice xa x.length xc), (.slice (if c127 = i then a126 else a126.map (·.add (i * 4))) ((i + 1) - i) (c127 - i))]) (map2 rfl rfl) rfl (ent_17 _ _)) (apply_is (S314).sat (hfx.mono le303) r319 (hm1.ok.mono (by omega)) (all_one hwo) (apply_one hwo hay)) ?_
     intro v325 w320 F322 S321 le323 R324
     obtain ⟨_, rfl, r328⟩ := R324
     obtain ⟨a326, c327, rfl, h329, h330⟩ := Sl.shape r328
     unfold maxLen at h330
     have h329 : y.length ≤ c327 := h329
     have r328 : Tns _ (.slice a326 y.length c327) y := r328
     simp only [pS, pN, pA, pC, pZ]
     refine do_ rfl (.tuple #[(.slice a326 y.length c327), (.int .i64 0)]) (ex_move _) ?_
     simp only [pS, pN, pA, pC, pZ]
     refine do_ rfl (.slice a326 y.length c327) (ex_extract rfl rfl) ?_
     simp only [pS, pN, pA, pC, pZ]
     refine do_ rfl (.int .i64 0) (ex_extract rfl rfl) ?_
     simp only [pS, pN, pA, pC, pZ]
     refine do_ rfl (.slice a326 y.length c327) (ex_assign _) ?_
     simp only [pS, pN, pA, pC, pZ]
     refine do_ rfl (.int .i64 0) (ex_assign _) ?_
     simp only [pS, pN, pA, pC, pZ]
     refine wl_nil (hK318 _ _ ?_)
     refine wp_seq_k (fun K331 hK331 => ?_)
     refine wp_seq_k (fun K332 hK332 => region_wl ?_)
     refine do_ rfl (.int .i64 0) (ex_move _) ?_
     simp only [pS, pN, pA, pC, pZ]
     refine do_ rfl (.bool false) (ex_neq (b := false) rfl rfl (by decide)) ?_
     simp only [pS, pN, pA, pC, pZ]
     refine wl_nil (hK332 _ _ ?_)
     refine wp_cond_false rfl ?_
     refine wp_skip ?_
     refine hK331 _ _ ?_
     refine region_wl ?_
     refine do_ rfl (.slice a326 y.length c327) (ex_move _) ?_
     simp only [pS, pN, pA, pC, pZ]
     refine do_ rfl (.slice a326 y.length c327) (ex_assign _) ?_
     simp only [pS, pN, pA, pC, pZ]
     refine wl_nil (hK175 _ _ ?_)
     refine region_wl ?_
     refine do_ rfl (.int .i64 ((i : Nat) : Int)) (ex_move _) ?_
     simp only [pS, pN, pA, pC, pZ]
     refine do_ rfl (.int .i64 (((i + 1) : Nat) : Int)) (ex_add (m := ((i : Nat) : Int)) (n := (1 : Int)) (r := (((i + 1) : Nat) : Int)) rfl rfl (by omega) (by omega) (by omega)) ?_
     simp only [pS, pN, pA, pC, pZ]
     refine do_ rfl (.int .i64 (((i + 1) : Nat) : Int)) (ex_assign _) ?_
     simp only [pS, pN, pA, pC, pZ]
     refine wl_nil ?_
     have S321 := St.drop S321 (L' := []) (.cons _ (.cons _ (List.Sublist.refl _)))
     exact hK172 _ _ _ (by omega) ⟨(i + 1), y, a326, c327, F322, _, rfl, rfl, rfl, S321, ((le171.trans le303).trans le323), (by omega), hmy, r328⟩
   ·have hge : e.gone = false := by simpa using hge
    obtain ⟨b333, o334, ha335, xa337, xc338, xa341, xc342, xa346, xc347, c336, c340, c344, c345, r339, r343, r348⟩ := Wrs.get (R124.mono ((le135.trans le147).trans le171)) hq
    refine region_wl ?_
    refine do_ rfl (.slice a126 (chgs (stateC cs k1) (stateC cs k2) ps).length c127) (ex_move _) ?_
    simp only [pS, pN, pA, pC, pZ]
    refine do_ rfl (.int .i64 ((i : Nat) : Int)) (ex_move _) ?_
    simp only [pS, pN, pA, pC, pZ]
    refine do_ rfl (.pointer (some ⟨b333, o334 + i * 4, none⟩)) (ex_at (i := i) (sz := 4) Try.underlying47 (sizeof_27 _) rfl ha335 rfl (by omega) rfl) ?_
    simp only [pS, pN, pA, pC, pZ]
    refine do_ rfl (.agg #[(.slice xa337 e.name.length xc338), (.slice xa341 e.key.length xc342), (.bool false), (.slice xa346 e.value.length xc347)]) (ex_load rfl (loadN (cs := [(.slice xa337 e.name.length xc338), (.slice xa341 e.key.length xc342), (.bool false), (.slice xa346 e.value.length xc347)]) Try.underlying27 rfl (size_27) (range4 (St.fz S170 c336) (St.fz S170 c340) (St.fz S170 (hge ▸ c344)) (St.fz S170 c345)))) ?_
    simp only [pS, pN, pA, pC, pZ]
    refine stNew S170 (v := fun n => .pointer (some ⟨n, 0, none⟩)) rfl (ex_alloc (zero_27 _)) (fun n349 w350 S351 => ?_)
    simp only [pS, pN, pA, pC, pZ]
    have S351 : St W (whole W) w350 F164 [⟨n349, [(.slice none 0 0), (.slice none 0 0), (.bool false), (.slice none 0 0)], 27⟩] [] := S351
    refine stStore (i := 0) (v := (.agg #[(.slice xa337 e.name.length xc338), (.slice xa341 e.key.length xc342), (.bool false), (.slice xa346 e.value.length xc347)])) S351 rfl rfl rfl rfl (size_27) (allc4 rfl rfl rfl rfl) (Nat.le_of_ble_eq_true rfl) (fun w352 S353 => ?_)
    simp only [pS, pN, pA, pC, pZ]
    have S353 : St W (whole W) w352 F164 [⟨n349, [(.slice xa337 e.name.length xc338), (.slice xa341 e.key.length xc342), (.bool false), (.slice xa346 e.value.length xc347)], 27⟩] [] := S353
    refine wl_nil (hK176 _ _ ?_)
    refine wp_seq_k (fun K354 hK354 => ?_)
    refine wp_seq_k (fun K355 hK355 => ?_)
    by_cases hi0 : 0 < i
    ·obtain ⟨w', e', hw', he', hq'⟩ := chg_at (a := (stateC cs k1)) (b := (stateC cs k2)) (ps := ps) (i := i - 1) (by omega)
     have hlt := chg_lt hch.rise hi0 hw hw'
     have hnw : e.name = w.name ∧ e.key = w.key ∧ e'.name = w'.name ∧ e'.key = w'.key := by rw [he, he']; exact ⟨rfl, rfl, rfl, rfl⟩
     obtain ⟨b356, o357, ha358, xa360, xc361, xa364, xc365, xa369, xc370, c359, c363, c367, c368, r362, r366, r371⟩ := Wrs.get (R124.mono ((le135.trans le147).trans le171)) hq'
     by_cases hnn : e.name = e'.name
     ·have hkl : Lt e'.key e.key := by
       rcases hlt with k | ⟨_, k⟩
       ·rw [← hnw.1, ← hnw.2.2.1, hnn] at k; exact absurd rfl (less_ne k)
       ·rw [hnw.2.1, hnw.2.2.2]; exact k
      refine region_gw F164 42 [] (by kernel_rfl) (by kernel_rfl) ?_
      simp only [List.take_succ_cons, List.take_zero]
      refine gw_pure rfl rfl (.int .i64 ((i : Nat) : Int)) (fun w372 hCw372 => pureAt_of (ex_move _)) ?_
      simp only [pS, pN, pA, pC, pZ]
      refine gw_pure rfl rfl (.bool true) (fun w372 hCw372 => pureAt_of (ex_gtr (m := ((i : Nat) : Int)) (n := (0 : Int)) (b := true) rfl rfl (decide_eq_true (by omega)))) ?_
      simp only [pS, pN, pA, pC, pZ]
      refine gw_pure rfl rfl (.bool true) (fun w372 hCw372 => pureAt_of (ex_move _)) ?_
      simp only [pS, pN, pA, pC, pZ]
      refine gw_pure rfl rfl (.pointer (some ⟨n349, 0, none⟩)) (fun w372 hCw372 => pureAt_of (ex_field (q := ⟨n349, 0, none⟩) rfl (fa_27_0 _ _))) ?_
      simp only [pS, pN, pA, pC, pZ]
      refine gw_pure rfl rfl (.slice xa337 e.name.length xc338) (fun w372 hCw372 => pureAt_of (ex_load rfl (load1 (nagg_25 _) (St.cell (St.tells S353 hCw372) (i := 0) rfl rfl)))) ?_
      simp only [pS, pN, pA, pC, pZ]
      refine gw_pure rfl rfl (.string ⟨e.name.toArray⟩) (fun w372 hCw372 => pureAt_of (ex_convert (v := (.slice xa337 e.name.length xc338)) rfl (run_string Try.underlying25 Try.underlying5 Try.underlying9 ((St.tells S353 hCw372)).sat r339))) ?_
      simp only [pS, pN, pA, pC, pZ]
      refine gw_pure rfl rfl (.slice a126 (chgs (stateC cs k1) (stateC cs k2) ps).length c127) (fun w372 hCw372 => pureAt_of (ex_move _)) ?_
      simp only [pS, pN, pA, pC, pZ]
      refine gw_pure rfl rfl (.int .i64 ((i : Nat) : Int)) (fun w372 hCw372 => pureAt_of (ex_move _)) ?_
      simp only [pS, pN, pA, pC, pZ]
      refine gw_pure rfl rfl (.int .i64 (((i - 1) : Nat) : Int)) (fun w372 hCw372 => pureAt_of (ex_sub (m := ((i : Nat) : Int)) (n := (1 : Int)) (r := (((i - 1) : Nat) : Int)) rfl rfl (by omega) (by omega) (by omega))) ?_
      simp only [pS, pN, pA, pC, pZ]
      refine gw_pure rfl rfl (.pointer (some ⟨b356, o357 + (i - 1) * 4, none⟩)) (fun w372 hCw372 => pureAt_of (ex_at (i := (i - 1)) (sz := 4) Try.underlying47 (sizeof_27 _) rfl ha358 rfl (by omega) rfl)) ?_
      simp only [pS, pN, pA, pC, pZ]
      refine gw_pure rfl rfl (.pointer (some ⟨b356, o357 + (i - 1) * 4, none⟩)) (fun w372 hCw372 => pureAt_of (ex_field (q := ⟨b356, o357 + (i - 1) * 4, none⟩) rfl (fa_27_0 _ _))) ?_
      simp only [pS, pN, pA, pC, pZ]
      refine gw_pure rfl rfl (.slice xa360 e'.name.length xc361) (fun w372 hCw372 => pureAt_of (ex_load rfl (load1 (nagg_25 _) (St.fz (St.tells S353 hCw372) c359)))) ?_
      simp only [pS, pN, pA, pC, pZ]
      refine gw_pure rfl rfl (.string ⟨e'.name.toArray⟩) (fun w372 hCw372 => pureAt_of (ex_convert (v := (.slice xa360 e'.name.length xc361)) rfl (run_string Try.underlying25 Try.underlying5 Try.underlying9 ((St.tells S353 hCw372)).sat r362))) ?_
      simp only [pS, pN, pA, pC, pZ]
      refine gw_pure rfl rfl (.bool true) (fun w372 hCw372 => pureAt_of (ex_strop (op := .eql) (l := e.name) (m := e'.name) (b := true) (by simp) rfl rfl (beq_iff_eq.2 hnn))) ?_
      simp only [pS, pN, pA, pC, pZ]
      refine gw_pure rfl rfl (.bool true) (fun w372 hCw372 => pureAt_of (ex_pick (b := true) rfl)) ?_
      simp only [pS, pN, pA, pC, pZ]
      refine gw_pure rfl rfl (.bool true) (fun w372 hCw372 => pureAt_of (ex_move _)) ?_
      simp only [pS, pN, pA, pC, pZ]
      refine gw_pure rfl rfl (.pointer (some ⟨n349, 1, none⟩)) (fun w372 hCw372 => pureAt_of (ex_field (q := ⟨n349, 1, none⟩) rfl (fa_27_1 _ _))) ?_
      simp only [pS, pN, pA, pC, pZ]
      refine gw_pure rfl rfl (.slice xa341 e.key.length xc342) (fun w372 hCw372 => pureAt_of (ex_load rfl (load1 (nagg_25 _) (St.cell (St.tells S353 hCw372) (i := 0) rfl rfl)))) ?_
      simp only [pS, pN, pA, pC, pZ]
      refine gw_pure rfl rfl (.string ⟨e.key.toArray⟩) (fun w372 hCw372 => pureAt_of (ex_convert (v := (.slice xa341 e.key.length xc342)) rfl (run_string Try.underlying25 Try.underlying5 Try.underlying9 ((St.tells S353 hCw372)).sat r343))) ?_
      simp only [pS, pN, pA, pC, pZ]
      refine gw_pure rfl rfl (.slice a126 (chgs (stateC cs k1) (stateC cs k2) ps).length c127) (fun w372 hCw372 => pureAt_of (ex_move _)) ?_
      simp only [pS, pN, pA, pC, pZ]
      refine gw_pure rfl rfl (.int .i64 ((i : Nat) : Int)) (fun w372 hCw372 => pureAt_of (ex_move _)) ?_
      simp only [pS, pN, pA, pC, pZ]
      refine gw_pure rfl rfl (.int .i64 (((i - 1) : Nat) : Int)) (fun w372 hCw372 => pureAt_of (ex_sub (m := ((i : Nat) : Int)) (n := (1 : Int)) (r := (((i - 1) : Nat) : Int)) rfl rfl (by omega) (by omega) (by omega))) ?_
      simp only [pS, pN, pA, pC, pZ]
      refine gw_pure rfl rfl (.pointer (some ⟨b356, o357 + (i - 1) * 4, none⟩)) (fun w372 hCw372 => pureAt_of (ex_at (i := (i - 1)) (sz := 4) Try.underlying47 (sizeof_27 _) rfl ha358 rfl (by omega) rfl)) ?_
      simp only [pS, pN, pA, pC, pZ]
      refine gw_pure rfl rfl (.pointer (some ⟨b356, o357 + (i - 1) * 4 + 1, none⟩)) (fun w372 hCw372 => pureAt_of (ex_field (q := ⟨b356, o357 + (i - 1) * 4 + 1, none⟩) rfl (fa_27_1 _ _))) ?_
      simp only [pS, pN, pA, pC, pZ]
      refine gw_pure rfl rfl (.slice xa364 e'.key.length xc365) (fun w372 hCw372 => pureAt_of (ex_load rfl (load1 (nagg_25 _) (St.fz (St.tells S353 hCw372) c363)))) ?_
      simp only [pS, pN, pA, pC, pZ]
      refine gw_pure rfl rfl (.string ⟨e'.key.toArray⟩) (fun w372 hCw372 => pureAt_of (ex_convert (v := (.slice xa364 e'.key.length xc365)) rfl (run_string Try.underlying25 Try.underlying5 Try.underlying9 ((St.tells S353 hCw372)).sat r366))) ?_
      simp only [pS, pN, pA, pC, pZ]
      refine gw_pure rfl rfl (.bool false) (fun w372 hCw372 => pureAt_of (ex_strop (op := .leq) (l := e.key) (m := e'.key) (b := false) (by simp) rfl rfl (leq_no hkl))) ?_
      simp only [pS, pN, pA, pC, pZ]
      refine gw_pure rfl rfl (.bool false) (fun w372 hCw372 => pureAt_of (ex_pick (b := true) rfl)) ?_
      simp only [pS, pN, pA, pC, pZ]
      refine gw_pure rfl rfl (.bool false) (fun w372 hCw372 => pureAt_of (ex_move _)) ?_
      simp only [pS, pN, pA, pC, pZ]
      refine gw_pure rfl rfl (.int .i64 ((i : Nat) : Int)) (fun w372 hCw372 => pureAt_of (ex_move _)) ?_
      simp only [pS, pN, pA, pC, pZ]
      refine gw_pure rfl rfl (.bool true) (fun w372 hCw372 => pureAt_of (ex_gtr (m := ((i : Nat) : Int)) (n := (0 : Int)) (b := true) rfl rfl (decide_eq_true (by omega)))) ?_
      simp only [pS, pN, pA, pC, pZ]
      refine gw_pure rfl rfl (.bool true) (fun w372 hCw372 => pureAt_of (ex_move _)) ?_
      simp only [pS, pN, pA, pC, pZ]
      refine gw_pure rfl rfl (.pointer (some ⟨n349, 0, none⟩)) (fun w372 hCw372 => pureAt_of (ex_field (q := ⟨n349, 0, none⟩) rfl (fa_27_0 _ _))) ?_
      simp only [pS, pN, pA, pC, pZ]
      refine gw_pure rfl rfl (.slice xa337 e.name.length xc338) (fun w372 hCw372 => pureAt_of (ex_load rfl (load1 (nagg_25 _) (St.cell (St.tells S353 hCw372) (i := 0) rfl rfl)))) ?_
      simp only [pS, pN, pA, pC, pZ]
      refine gw_pure rfl rfl (.string ⟨e.name.toArray⟩) (fun w372 hCw372 => pureAt_of (ex_convert (v := (.slice xa337 e.name.length xc338)) rfl (run_string Try.underlying25 Try.underlying5 Try.underlying9 ((St.tells S353 hCw372)).sat r339))) ?_
      simp only [pS, pN, pA, pC, pZ]
      refine gw_pure rfl rfl (.slice a126 (chgs (stateC cs k1) (stateC cs k2) ps).length c127) (fun w372 hCw372 => pureAt_of (ex_move _)) ?_
      simp only [pS, pN, pA, pC, pZ]
      refine gw_pure rfl rfl (.int .i64 ((i : Nat) : Int)) (fun w372 hCw372 => pureAt_of (ex_move _)) ?_
      simp only [pS, pN, pA, pC, pZ]
      refine gw_pure rfl rfl (.int .i64 (((i - 1) : Nat) : Int)) (fun w372 hCw372 => pureAt_of (ex_sub (m := ((i : Nat) : Int)) (n := (1 : Int)) (r := (((i - 1) : Nat) : Int)) rfl rfl (by omega) (by omega) (by omega))) ?_
      simp only [pS, pN, pA, pC, pZ]
      refine gw_pure rfl rfl (.pointer (some ⟨b356, o357 + (i - 1) * 4, none⟩)) (fun w372 hCw372 => pureAt_of (ex_at (i := (i - 1)) (sz := 4) Try.underlying47 (sizeof_27 _) rfl ha358 rfl (by omega) rfl)) ?_
      simp only [pS, pN, pA, pC, pZ]
      refine gw_pure rfl rfl (.pointer (some ⟨b356, o357 + (i - 1) * 4, none⟩)) (fun w372 hCw372 => pureAt_of (ex_field (q := ⟨b356, o357 + (i - 1) * 4, none⟩) rfl (fa_27_0 _ _))) ?_
      simp only [pS, pN, pA, pC, pZ]
      refine gw_pure rfl rfl (.slice xa360 e'.name.length xc361) (fun w372 hCw372 => pureAt_of (ex_load rfl (load1 (nagg_25 _) (St.fz (St.tells S353 hCw372) c359)))) ?_
      simp only [pS, pN, pA, pC, pZ]
      refine gw_pure rfl rfl (.string ⟨e'.name.toArray⟩) (fun w372 hCw372 => pureAt_of (ex_convert (v := (.slice xa360 e'.name.length xc361)) rfl (run_string Try.underlying25 Try.underlying5 Try.underlying9 ((St.tells S353 hCw372)).sat r362))) ?_
      simp only [pS, pN, pA, pC, pZ]
      refine gw_nil ?_
      intro w373 hC375 hF376
      clear hF376
      have S374 := St.tells S353 hC375
      simp only [List.drop_succ_cons, List.drop_zero]
      refine do_ rfl (.bool false) (ex_strop (op := .lss) (l := e.name) (m := e'.name) (b := false) (by simp) rfl rfl (by rw [hnn]; exact less_irrefl _)) ?_
      simp only [pS, pN, pA, pC, pZ]
      refine do_ rfl (.bool false) (ex_pick (b := true) rfl) ?_
      simp only [pS, pN, pA, pC, pZ]
      refine do_ rfl (.bool false) (ex_pick (b := false) rfl) ?_
      simp only [pS, pN, pA, pC, pZ]
      refine wl_nil (hK355 _ _ ?_)
      refine wp_cond_false rfl ?_
      refine wp_skip ?_
      refine hK354 _ _ ?_
      refine wp_seq_k (fun K377 hK377 => ?_)
      have hwas := Mk1.was hch hm1 hw
      rw [← hnw0.1, ← hnw0.2.1] at hwas
      by_cases hfs : (getF x e.name e.key).isSome = true
      ·have hvne : ¬ (getF x e.name e.key).getD [] = e.value := by
        intro hv
        have hne := hch.ne w hmw
        have hgb := hnw0.2.2.1
        rw [hge] at hgb
        rw [hwas, hnw0.1, hnw0.2.1] at hv hfs
        rw [hnw0.2.2.2] at hv
        have hs2 : (getF (stateC cs k2) w.name w.key).isSome = true := by simpa using hgb
        exact hne (chg_skip.1 ⟨by rw [hfs, hs2], hv⟩)
       refine region_wl ?_
       refine do_ rfl (.slice xa x.length xc) (ex_move _) ?_
       simp only [pS, pN, pA, pC, pZ]
       refine do_ rfl (.pointer (some ⟨n349, 0, none⟩)) (ex_field (q := ⟨n349, 0, none⟩) rfl (fa_27_0 _ _)) ?_
       simp only [pS, pN, pA, pC, pZ]
       refine do_ rfl (.slice xa337 e.name.length xc338) (ex_load rfl (load1 (nagg_25 _) (St.cell S374 (i := 0) rfl rfl))) ?_
       simp only [pS, pN, pA, pC, pZ]
       refine do_ rfl (.pointer (some ⟨n349, 1, none⟩)) (ex_field (q := ⟨n349, 1, none⟩) rfl (fa_27_1 _ _)) ?_
       simp only [pS, pN, pA, pC, pZ]
       refine do_ rfl (.slice xa341 e.key.length xc342) (ex_load rfl (load1 (nagg_25 _) (St.cell S374 (i := 0) rfl rfl))) ?_
       simp only [pS, pN, pA, pC, pZ]
       refine stGives S374 rfl (ex_fn (vs := #[(.slice xa x.length xc), (.slice xa337 e.name.length xc338), (.slice xa341 e.key.length xc342)]) (map3 rfl rfl rfl) rfl (ent_16 _ _)) (getF_spec _ _ _ _ _ x e.name e.key (S374).sat hfx r339 r343 (hm1.ok.mono (by omega)) (WrOk.name hwo) ⟨WrOk.key1 hwo, WrOk.key2 hwo⟩) ?_
       intro v383 w378 F380 S379 le381 R382
       obtain ⟨_, rfl, a384, c385, hx387, r386⟩ := R382
       rw [hfs] at hx387
       subst hx387
       have r386 : Bs _ (.slice a384 ((getF x e.name e.key).getD []).length c385) ((getF x e.name e.key).getD []) := r386
       simp only [pS, pN, pA, pC, pZ]
       refine do_ rfl (.tuple #[(.agg #[(.bool true), (.slice a384 ((getF x e.name e.key).getD []).length c385)]), (.int .i64 0)]) (ex_move _) ?_
       simp only [pS, pN, pA, pC, pZ]
       refine do_ rfl (.agg #[(.bool true), (.slice a384 ((getF x e.name e.key).getD []).length c385)]) (ex_extract rfl rfl) ?_
       simp only [pS, pN, pA, pC, pZ]
       refine do_ rfl (.int .i64 0) (ex_extract rfl rfl) ?_
       simp only [pS, pN, pA, pC, pZ]
       refine stNew S379 (v := fun n => .pointer (some ⟨n, 0, none⟩)) rfl (ex_alloc (zero_38 _)) (fun n388 w389 S390 => ?_)
       simp only [pS, pN, pA, pC, pZ]
       have S390 : St W (whole W) w389 F380 [⟨n388, [(.bool false), (.slice none 0 0)], 38⟩, ⟨n349, [(.slice xa337 e.name.length xc338), (.slice xa341 e.key.length xc342), (.bool false), (.slice xa346 e.value.length xc347)], 27⟩] [] := S390
       refine stStore (i := 0) (v := (.agg #[(.bool true), (.slice a384 ((getF x e.name e.key).getD []).length c385)])) S390 rfl rfl rfl rfl (size_38) (allc2 rfl rfl) (Nat.le_of_ble_eq_true rfl) (fun w391 S392 => ?_)
       simp only [pS, pN, pA, pC, pZ]
       have S392 : St W (whole W) w391 F380 [⟨n388, [(.bool true), (.slice a384 ((getF x e.name e.key).getD []).length c385)], 38⟩, ⟨n349, [(.slice xa337 e.name.length xc338), (.slice xa341 e.key.length xc342), (.bool false), (.slice xa346 e.value.length xc347)], 27⟩] [] := S392
       refine do_ rfl (.int .i64 0) (ex_assign _) ?_
       simp only [pS, pN, pA, pC, pZ]
       refine wl_nil (hK377 _ _ ?_)
       refine wp_seq_k (fun K393 hK393 => ?_)
       refine wp_seq_k (fun K394 hK394 => region_wl ?_)
       refine do_ rfl (.int .i64 0) (ex_move _) ?_
       simp only [pS, pN, pA, pC, pZ]
       refine do_ rfl (.bool false) (ex_neq (b := false) rfl rfl (by decide)) ?_
       simp only [pS, pN, pA, pC, pZ]
       refine do_ rfl (.bool false) (ex_move _) ?_
       simp only [pS, pN, pA, pC, pZ]
       refine do_ rfl (.pointer (some ⟨n349, 2, none⟩)) (ex_field (q := ⟨n349, 2, none⟩) rfl (fa_27_2 _ _)) ?_
       simp only [pS, pN, pA, pC, pZ]
       refine do_ rfl (.bool false) (ex_load rfl (load1 (nagg_4 _) (St.cell S392 (i := 1) rfl rfl))) ?_
       simp only [pS, pN, pA, pC, pZ]
       refine do_ rfl (.bool false) (ex_move _) ?_
       simp only [pS, pN, pA, pC, pZ]
       refine doN (wanted_no rfl rfl rfl (c := false) rfl (by decide)) ?_
       simp only [pS, pN, pA, pC, pZ]
       refine doN (wanted_no rfl rfl rfl (c := false) rfl (by decide)) ?_
       simp only [pS, pN, pA, pC, pZ]
       refine doN (wanted_no rfl rfl rfl (c := false) rfl (by decide)) ?_
       simp only [pS, pN, pA, pC, pZ]
       refine do_ rfl (.bool false) (ex_pick (b := false) rfl) ?_
       simp only [pS, pN, pA, pC, pZ]
       refine do_ rfl (.bool false) (ex_pick (b := false) rfl) ?_
       simp only [pS, pN, pA, pC, pZ]
       refine do_ rfl (.bool false) (ex_move _) ?_
       simp only [pS, pN, pA, pC, pZ]
       refine do_ rfl (.pointer (some ⟨n388, 0, none⟩)) (ex_field (q := ⟨n388, 0, none⟩) rfl (fa_38_0 _ _)) ?_
       simp only [pS, pN, pA, pC, pZ]
       refine do_ rfl (.bool true) (ex_load rfl (load1 (nagg_4 _) (St.cell S392 (i := 0) rfl rfl))) ?_
       simp only [pS, pN, pA, pC, pZ]
       refine do_ rfl (.bool true) (ex_move _) ?_
       simp only [pS, pN, pA, pC, pZ]
       refine do_ rfl (.pointer (some ⟨n349, 2, none⟩)) (ex_field (q := ⟨n349, 2, none⟩) rfl (fa_27_2 _ _)) ?_
       simp only [pS, pN, pA, pC, pZ]
       refine do_ rfl (.bool false) (ex_load rfl (load1 (nagg_4 _) (St.cell S392 (i := 1) rfl rfl))) ?_
       simp only [pS, pN, pA, pC, pZ]
       refine do_ rfl (.bool true) (ex_not (b := false) rfl rfl) ?_
       simp only [pS, pN, pA, pC, pZ]
       refine do_ rfl (.bool true) (ex_pick (b := true) rfl) ?_
       simp only [pS, pN, pA, pC, pZ]
       refine do_ rfl (.bool true) (ex_move _) ?_
       simp only [pS, pN, pA, pC, pZ]
       refine do_ rfl (.pointer (some ⟨n388, 1, none⟩)) (ex_field (q := ⟨n388, 1, none⟩) rfl (fa_38_1 _ _)) ?_
       simp only [pS, pN, pA, pC, pZ]
       refine do_ rfl (.slice a384 ((getF x e.name e.key).getD []).length c385) (ex_load rfl (load1 (nagg_25 _) (St.cell S392 (i := 0) rfl rfl))) ?_
       simp only [pS, pN, pA, pC, pZ]
       refine do_ rfl (.pointer (some ⟨n349, 3, none⟩)) (ex_field (q := ⟨n349, 3, none⟩) rfl (fa_27_3 _ _)) ?_
       simp only [pS, pN, pA, pC, pZ]
       refine do_ rfl (.slice xa346 e.value.length xc347) (ex_load rfl (load1 (nagg_25 _) (St.cell S392 (i := 1) rfl rfl))) ?_
       simp only [pS, pN, pA, pC, pZ]
       refine stTells (v := (.bool false)) S392 rfl (ex_fn (vs := #[(.slice a384 ((getF x e.name e.key).getD []).length c385), (.slice xa346 e.value.length xc347)]) (map2 rfl rfl) rfl (ent_14 _ _)) (tells_bool (tells_same (same_spec _ _ _ _ ((getF x e.name e.key).getD []) e.value (S392).sat r386 (r348.mono le381))) (beq_eq_false_iff_ne.2 hvne)) (fun w395 S396 => ?_)
       simp only [pS, pN, pA, pC, pZ]
       refine do_ rfl (.bool false) (ex_pick (b := true) rfl) ?_
       simp only [pS, pN, pA, pC, pZ]
       refine do_ rfl (.bool false) (ex_pick (b := false) rfl) ?_
       simp only [pS, pN, pA, pC, pZ]
       refine wl_nil (hK394 _ _ ?_)
       refine wp_cond_false rfl ?_
       refine wp_skip ?_
       refine hK393 _ _ ?_
       refine wp_seq_k (fun K397 hK397 => region_wl ?_)
       refine do_ rfl (.pointer (some ⟨n349, 2, none⟩)) (ex_field (q := ⟨n349, 2, none⟩) rfl (fa_27_2 _ _)) ?_
       simp only [pS, pN, pA, pC, pZ]
       refine do_ rfl (.bool false) (ex_load rfl (load1 (nagg_4 _) (St.cell S396 (i := 1) rfl rfl))) ?_
       simp only [pS, pN, pA, pC, pZ]
       refine wl_nil (hK397 _ _ ?_)
       refine wp_cond_false rfl ?_
       refine wp_skip ?_
       refine hK175 _ _ ?_
       refine region_wl ?_
       refine do_ rfl (.int .i64 ((i : Nat) : Int)) (ex_move _) ?_
       simp only [pS, pN, pA, pC, pZ]
       refine do_ rfl (.int .i64 (((i + 1) : Nat) : Int)) (ex_add (m := ((i : Nat) : Int)) (n := (1 : Int)) (r := (((i + 1) : Nat) : Int)) rfl rfl (by omega) (by omega) (by omega)) ?_
       simp only [pS, pN, pA, pC, pZ]
       refine do_ rfl (.int .i64 (((i + 1) : Nat) : Int)) (ex_assign _) ?_
       simp only [pS, pN, pA, pC, pZ]
       refine wl_nil ?_
       have S396 := St.drop S396 (L' := []) (.cons _ (.cons _ (List.Sublist.refl _)))
       exact hK172 _ _ _ (by omega) ⟨(i + 1), x, xa, xc, F380, _, rfl, rfl, rfl, S396, (le171.trans le381), (by omega), (Mk1.stay hch hm1 hw (by rw [← he]; exact hge)), (hfx.mono le381)⟩
      ·have hfs : (getF x e.name e.key).isSome = false := by simpa using hfs
       refine region_wl ?_
       refine do_ rfl (.slice xa x.length xc) (ex_move _) ?_
       simp only [pS, pN, pA, pC, pZ]
       refine do_ rfl (.pointer (some ⟨n349, 0, none⟩)) (ex_field (q := ⟨n349, 0, none⟩) rfl (fa_27_0 _ _)) ?_
       simp only [pS, pN, pA, pC, pZ]
       refine do_ rfl (.slice xa337 e.name.length xc338) (ex_load rfl (load1 (nagg_25 _) (St.cell S374 (i := 0) rfl rfl))) ?_
       simp only [pS, pN, pA, pC, pZ]
       refine do_ rfl (.pointer (some ⟨n349, 1, none⟩)) (ex_field (q := ⟨n349, 1, none⟩) rfl (fa_27_1 _ _)) ?_
       simp only [pS, pN, pA, pC, pZ]
       refine do_ rfl (.slice xa341 e.key.length xc342) (ex_load rfl (load1 (nagg_25 _) (St.cell S374 (i := 0) rfl rfl))) ?_
       simp only [pS, pN, pA, pC, pZ]
       refine stGives S374 rfl (ex_fn (vs := #[(.slice xa x.length xc), (.slice xa337 e.name.length xc338), (.slice xa341 e.key.length xc342)]) (map3 rfl rfl rfl) rfl (ent_16 _ _)) (getF_spec _ _ _ _ _ x e.name e.key (S374).sat hfx r339 r343 (hm1.ok.mono (by omega)) (WrOk.name hwo) ⟨WrOk.key1 hwo, WrOk.key2 hwo⟩) ?_
       intro v403 w398 F400 S399 le401 R402
       obtain ⟨_, rfl, a404, c405, hx407, r406⟩ := R402
       rw [hfs] at hx407
       subst hx407
       have r406 : Bs _ (.slice a404 ((getF x e.name e.key).getD []).length c405) ((getF x e.name e.key).getD []) := r406
       simp only [pS, pN, pA, pC, pZ]
       refine do_ rfl (.tuple #[(.agg #[(.bool false), (.slice a404 ((getF x e.name e.key).getD []).length c405)]), (.int .i64 0)]) (ex_move _) ?_
       simp only [pS, pN, pA, pC, pZ]
       refine do_ rfl (.agg #[(.bool false), (.slice a404 ((getF x e.name e.key).getD []).length c405)]) (ex_extract rfl rfl) ?_
       simp only [pS, pN, pA, pC, pZ]
       refine do_ rfl (.int .i64 0) (ex_extract rfl rfl) ?_
       simp only [pS, pN, pA, pC, pZ]
       refine stNew S399 (v := fun n => .pointer (some ⟨n, 0, none⟩)) rfl (ex_alloc (zero_38 _)) (fun n408 w409 S410 => ?_)
       simp only [pS, pN, pA, pC, pZ]
       have S410 : St W (whole W) w409 F400 [⟨n408, [(.bool false), (.slice none 0 0)], 38⟩, ⟨n349, [(.slice xa337 e.name.length xc338), (.slice xa341 e.key.length xc342), (.bool false), (.slice xa346 e.value.length xc347)], 27⟩] [] := S410
       refine stStore (i := 0) (v := (.agg #[(.bool false), (.slice a404 ((getF x e.name e.key).getD []).length c405)])) S410 rfl rfl rfl rfl (size_38) (allc2 rfl rfl) (Nat.le_of_ble_eq_true rfl) (fun w411 S412 => ?_)
       simp only [pS, pN, pA, pC, pZ]
       have S412 : St W (whole W) w411 F400 [⟨n408, [(.bool false), (.slice a404 ((getF x e.name e.key).getD []).length c405)], 38⟩, ⟨n349, [(.slice xa337 e.name.length xc338), (.slice xa341 e.key.length xc342), (.bool false), (.slice xa346 e.value.length xc347)], 27⟩] [] := S412
       refine do_ rfl (.int .i64 0) (ex_assign _) ?_
       simp only [pS, pN, pA, pC, pZ]
       refine wl_nil (hK377 _ _ ?_)
       refine wp_seq_k (fun K413 hK413 => ?_)
       refine wp_seq_k (fun K414 hK414 => region_wl ?_)
       refine do_ rfl (.int .i64 0) (ex_move _) ?_
       simp only [pS, pN, pA, pC, pZ]
       refine do_ rfl (.bool false) (ex_neq (b := false) rfl rfl (by decide)) ?_
       simp only [pS, pN, pA, pC, pZ]
       refine do_ rfl (.bool false) (ex_move _) ?_
       simp only [pS, pN, pA, pC, pZ]
       refine do_ rfl (.pointer (some ⟨n349, 2, none⟩)) (ex_field (q := ⟨n349, 2, none⟩) rfl (fa_27_2 _ _)) ?_
       simp only [pS, pN, pA, pC, pZ]
       refine do_ rfl (.bool false) (ex_load rfl (load1 (nagg_4 _) (St.cell S412 (i := 1) rfl rfl))) ?_
       simp only [pS, pN, pA, pC, pZ]
       refine do_ rfl (.bool false) (ex_move _) ?_
       simp only [pS, pN, pA, pC, pZ]
       refine doN (wanted_no rfl rfl rfl (c := false) rfl (by decide)) ?_
       simp only [pS, pN, pA, pC, pZ]
       refine doN (wanted_no rfl rfl rfl (c := false) rfl (by decide)) ?_
       simp only [pS, pN, pA, pC, pZ]
       refine doN (wanted_no rfl rfl rfl (c := false) rfl (by decide)) ?_
       simp only [pS, pN, pA, pC, pZ]
       refine do_ rfl (.bool false) (ex_pick (b := false) rfl) ?_
       simp only [pS, pN, pA, pC, pZ]
       refine do_ rfl (.bool false) (ex_pick (b := false) rfl) ?_
       simp only [pS, pN, pA, pC, pZ]
       refine do_ rfl (.bool false) (ex_move _) ?_
       simp only [pS, pN, pA, pC, pZ]
       refine do_ rfl (.pointer (some ⟨n408, 0, none⟩)) (ex_field (q := ⟨n408, 0, none⟩) rfl (fa_38_0 _ _)) ?_
       simp only [pS, pN, pA, pC, pZ]
       refine do_ rfl (.bool false) (ex_load rfl (load1 (nagg_4 _) (St.cell S412 (i := 0) rfl rfl))) ?_
       simp only [pS, pN, pA, pC, pZ]
       refine do_ rfl (.bool false) (ex_move _) ?_
       simp only [pS, pN, pA, pC, pZ]
       refine doN (wanted_no rfl rfl rfl (c := false) rfl (by decide)) ?_
       simp only [pS, pN, pA, pC, pZ]
       refine doN (wanted_no rfl rfl rfl (c := false) rfl (by decide)) ?_
       simp only [pS, pN, pA, pC, pZ]
       refine doN (wanted_no rfl rfl rfl (c := false) rfl (by decide)) ?_
       simp only [pS, pN, pA, pC, pZ]
       refine do_ rfl (.bool false) (ex_pick (b := false) rfl) ?_
       simp only [pS, pN, pA, pC, pZ]
       refine do_ rfl (.bool false) (ex_move _) ?_
       simp only [pS, pN, pA, pC, pZ]
       refine doN (wanted_no rfl rfl rfl (c := false) rfl (by decide)) ?_
       simp only [pS, pN, pA, pC, pZ]
       refine doN (wanted_no rfl rfl rfl (c := false) rfl (by decide)) ?_
       simp only [pS, pN, pA, pC, pZ]
       refine doN (wanted_no rfl rfl rfl (c := false) rfl (by decide)) ?_
       simp only [pS, pN, pA, pC, pZ]
       refine doN (wanted_no rfl rfl rfl (c := false) rfl (by decide)) ?_
       simp only [pS, pN, pA, pC, pZ]
       refine doN (wanted_no rfl rfl rfl (c := false) rfl (by decide)) ?_
       simp only [pS, pN, pA, pC, pZ]
       refine do_ rfl (.bool false) (ex_pick (b := false) rfl) ?_
       simp only [pS, pN, pA, pC, pZ]
       refine do_ rfl (.bool false) (ex_pick (b := false) rfl) ?_
       simp only [pS, pN, pA, pC, pZ]
       refine wl_nil (hK414 _ _ ?_)
       refine wp_cond_false rfl ?_
       refine wp_skip ?_
       refine hK413 _ _ ?_
       refine wp_seq_k (fun K415 hK415 => region_wl ?_)
       refine do_ rfl (.pointer (some ⟨n349, 2, none⟩)) (ex_field (q := ⟨n349, 2, none⟩) rfl (fa_27_2 _ _)) ?_
       simp only [pS, pN, pA, pC, pZ]
       refine do_ rfl (.bool false) (ex_load rfl (load1 (nagg_4 _) (St.cell S412 (i := 1) rfl rfl))) ?_
       simp only [pS, pN, pA, pC, pZ]
       refine wl_nil (hK415 _ _ ?_)
       refine wp_cond_false rfl ?_
       refine wp_skip ?_
       refine hK175 _ _ ?_
       refine region_wl ?_
       refine do_ rfl (.int .i64 ((i : Nat) : Int)) (ex_move _) ?_
       simp only [pS, pN, pA, pC, pZ]
       refine do_ rfl (.int .i64 (((i + 1) : Nat) : Int)) (ex_add (m := ((i : Nat) : Int)) (n := (1 : Int)) (r := (((i + 1) : Nat) : Int)) rfl rfl (by omega) (by omega) (by omega)) ?_
       simp only [pS, pN, pA, pC, pZ]
       refine do_ rfl (.int .i64 (((i + 1) : Nat) : Int)) (ex_assign _) ?_
       simp only [pS, pN, pA, pC, pZ]
       refine wl_nil ?_
       have S412 := St.drop S412 (L' := []) (.cons _ (.cons _ (List.Sublist.refl _)))
       exact hK172 _ _ _ (by omega) ⟨(i + 1), x, xa, xc, F400, _, rfl, rfl, rfl, S412, (le171.trans le401), (by omega), (Mk1.stay hch hm1 hw (by rw [← he]; exact hge)), (hfx.mono le401)⟩
     ·have hnl : Lt e'.name e.name := by
       rcases hlt with k | ⟨k, _⟩
       ·rw [hnw.1, hnw.2.2.1]; exact k
       ·exact absurd (by rw [hnw.1, hnw.2.2.1]; exact k.symm) hnn
      refine region_gw F164 42 [] (by kernel_rfl) (by kernel_rfl) ?_
      simp only [List.take_succ_cons, List.take_zero]
      refine gw_pure rfl rfl (.int .i64 ((i : Nat) : Int)) (fun w416 hCw416 => pureAt_of (ex_move _)) ?_
      simp only [pS, pN, pA, pC, pZ]
      refine gw_pure rfl rfl (.bool true) (fun w416 hCw416 => pureAt_of (ex_gtr (m := ((i : Nat) : Int)) (n := (0 : Int)) (b := true) rfl rfl (decide_eq_true (by omega)))) ?_
      simp only [pS, pN, pA, pC, pZ]
      refine gw_pure rfl rfl (.bool true) (fun w416 hCw416 => pureAt_of (ex_move _)) ?_
      simp only [pS, pN, pA, pC, pZ]
      refine gw_pure rfl rfl (.pointer (some ⟨n349, 0, none⟩)) (fun w416 hCw416 => pureAt_of (ex_field (q := ⟨n349, 0, none⟩) rfl (fa_27_0 _ _))) ?_
      simp only [pS, pN, pA, pC, pZ]
      refine gw_pure rfl rfl (.slice xa337 e.name.length xc338) (fun w416 hCw416 => pureAt_of (ex_load rfl (load1 (nagg_25 _) (St.cell (St.tells S353 hCw416) (i := 0) rfl rfl)))) ?_
      simp only [pS, pN, pA, pC, pZ]
      refine gw_pure rfl rfl (.string ⟨e.name.toArray⟩) (fun w416 hCw416 => pureAt_of (ex_convert (v := (.slice xa337 e.name.length xc338)) rfl (run_string Try.underlying25 Try.underlying5 Try.underlying9 ((St.tells S353 hCw416)).sat r339))) ?_
      simp only [pS, pN, pA, pC, pZ]
      refine gw_pure rfl rfl (.slice a126 (chgs (stateC cs k1) (stateC cs k2) ps).length c127) (fun w416 hCw416 => pureAt_of (ex_move _)) ?_
      simp only [pS, pN, pA, pC, pZ]
      refine gw_pure rfl rfl (.int .i64 ((i : Nat) : Int)) (fun w416 hCw416 => pureAt_of (ex_move _)) ?_
      simp only [pS, pN, pA, pC, pZ]
      refine gw_pure rfl rfl (.int .i64 (((i - 1) : Nat) : Int)) (fun w416 hCw416 => pureAt_of (ex_sub (m := ((i : Nat) : Int)) (n := (1 : Int)) (r := (((i - 1) : Nat) : Int)) rfl rfl (by omega) (by omega) (by omega))) ?_
      simp only [pS, pN, pA, pC, pZ]
      refine gw_pure rfl rfl (.pointer (some ⟨b356, o357 + (i - 1) * 4, none⟩)) (fun w416 hCw416 => pureAt_of (ex_at (i := (i - 1)) (sz := 4) Try.underlying47 (sizeof_27 _) rfl ha358 rfl (by omega) rfl)) ?_
      simp only [pS, pN, pA, pC, pZ]
      refine gw_pure rfl rfl (.pointer (some ⟨b356, o357 + (i - 1) * 4, none⟩)) (fun w416 hCw416 => pureAt_of (ex_field (q := ⟨b356, o357 + (i - 1) * 4, none⟩) rfl (fa_27_0 _ _))) ?_
      simp only [pS, pN, pA, pC, pZ]
      refine gw_pure rfl rfl (.slice xa360 e'.name.length xc361) (fun w416 hCw416 => pureAt_of (ex_load rfl (load1 (nagg_25 _) (St.fz (St.tells S353 hCw416) c359)))) ?_
      simp only [pS, pN, pA, pC, pZ]
      refine gw_pure rfl rfl (.string ⟨e'.name.toArray⟩) (fun w416 hCw416 => pureAt_of (ex_convert (v := (.slice xa360 e'.name.length xc361)) rfl (run_string Try.underlying25 Try.underlying5 Try.underlying9 ((St.tells S353 hCw416)).sat r362))) ?_
      simp only [pS, pN, pA, pC, pZ]
      refine gw_pure rfl rfl (.bool false) (fun w416 hCw416 => pureAt_of (ex_strop (op := .eql) (l := e.name) (m := e'.name) (b := false) (by simp) rfl rfl (beq_eq_false_iff_ne.2 hnn))) ?_
      simp only [pS, pN, pA, pC, pZ]
      refine gw_pure rfl rfl (.bool false) (fun w416 hCw416 => pureAt_of (ex_pick (b := true) rfl)) ?_
      simp only [pS, pN, pA, pC, pZ]
      refine gw_pure rfl rfl (.bool false) (fun w416 hCw416 => pureAt_of (ex_move _)) ?_
      simp only [pS, pN, pA, pC, pZ]
      refine gw_skip (wanted_no rfl rfl rfl (c := false) rfl (by decide)) ?_
      simp only [pS, pN, pA, pC, pZ]
      refine gw_skip (wanted_no rfl rfl rfl (c := false) rfl (by decide)) ?_
      simp only [pS, pN, pA, pC, pZ]
      refine gw_skip (wanted_no rfl rfl rfl (c := false) rfl (by decide)) ?_
      simp only [pS, pN, pA, pC, pZ]
      refine gw_skip (wanted_no rfl rfl rfl (c := false) rfl (by decide)) ?_
      simp only [pS, pN, pA, pC, pZ]
      refine gw_skip (wanted_no rfl rfl rfl (c := false) rfl (by decide)) ?_
      simp only [pS, pN, pA, pC, pZ]
      refine gw_skip (wanted_no rfl rfl rfl (c := false) rfl (by decide)) ?_
      simp only [pS, pN, pA, pC, pZ]
      refine gw_skip (wanted_no rfl rfl rfl (c := false) rfl (by decide)) ?_
      simp only [pS, pN, pA, pC, pZ]
      refine gw_skip (wanted_no rfl rfl rfl (c := false) rfl (by decide)) ?_
      simp only [pS, pN, pA, pC, pZ]
      refine gw_skip (wanted_no rfl rfl rfl (c := false) rfl (by decide)) ?_
      simp only [pS, pN, pA, pC, pZ]
      refine gw_skip (wanted_no rfl rfl rfl (c := false) rfl (by decide)) ?_
      simp only [pS, pN, pA, pC, pZ]
      refine gw_skip (wanted_no rfl rfl rfl (c := false) rfl (by decide)) ?_
      simp only [pS, pN, pA, pC, pZ]
      refine gw_pure rfl rfl (.bool false) (fun w416 hCw416 => pureAt_of (ex_pick (b := false) rfl)) ?_
      simp only [pS, pN, pA, pC, pZ]
      refine gw_pure rfl rfl (.bool false) (fun w416 hCw416 => pureAt_of (ex_move _)) ?_
      simp only [pS, pN, pA, pC, pZ]
      refine gw_pure rfl rfl (.int .i64 ((i : Nat) : Int)) (fun w416 hCw416 => pureAt_of (ex_move _)) ?_
      simp only [pS, pN, pA, pC, pZ]
      refine gw_pure rfl rfl (.bool true) (fun w416 hCw416 => pureAt_of (ex_gtr (m := ((i : Nat) : Int)) (n := (0 : Int)) (b := true) rfl rfl (decide_eq_true (by omega)))) ?_
      simp only [pS, pN, pA, pC, pZ]
      refine gw_pure rfl rfl (.bool true) (fun w416 hCw416 => pureAt_of (ex_move _)) ?_
      simp only [pS, pN, pA, pC, pZ]
      refine gw_pure rfl rfl (.pointer (some ⟨n349, 0, none⟩)) (fun w416 hCw416 => pureAt_of (ex_field (q := ⟨n349, 0, none⟩) rfl (fa_27_0 _ _))) ?_
      simp only [pS, pN, pA, pC, pZ]
      refine gw_pure rfl rfl (.slice xa337 e.name.length xc338) (fun w416 hCw416 => pureAt_of (ex_load rfl (load1 (nagg_25 _) (St.cell (St.tells S353 hCw416) (i := 0) rfl rfl)))) ?_
      simp only [pS, pN, pA, pC, pZ]
      refine gw_pure rfl rfl (.string ⟨e.name.toArray⟩) (fun w416 hCw416 => pureAt_of (ex_convert (v := (.slice xa337 e.name.length xc338)) rfl (run_string Try.underlying25 Try.underlying5 Try.underlying9 ((St.tells S353 hCw416)).sat r339))) ?_
      simp only [pS, pN, pA, pC, pZ]
      refine gw_pure rfl rfl (.slice a126 (chgs (stateC cs k1) (stateC cs k2) ps).length c127) (fun w416 hCw416 => pureAt_of (ex_move _)) ?_
      simp only [pS, pN, pA, pC, pZ]
      refine gw_pure rfl rfl (.int .i64 ((i : Nat) : Int)) (fun w416 hCw416 => pureAt_of (ex_move _)) ?_
      simp only [pS, pN, pA, pC, pZ]
      refine gw_pure rfl rfl (.int .i64 (((i - 1) : Nat) : Int)) (fun w416 hCw416 => pureAt_of (ex_sub (m := ((i : Nat) : Int)) (n := (1 : Int)) (r := (((i - 1) : Nat) : Int)) rfl rfl (by omega) (by omega) (by omega))) ?_
      simp only [pS, pN, pA, pC, pZ]
      refine gw_pure rfl rfl (.pointer (some ⟨b356, o357 + (i - 1) * 4, none⟩)) (fun w416 hCw416 => pureAt_of (ex_at (i := (i - 1)) (sz := 4) Try.underlying47 (sizeof_27 _) rfl ha358 rfl (by omega) rfl)) ?_
      simp only [pS, pN, pA, pC, pZ]
      refine gw_pure rfl rfl (.pointer (some ⟨b356, o357 + (i - 1) * 4, none⟩)) (fun w416 hCw416 => pureAt_of (ex_field (q := ⟨b356, o357 + (i - 1) * 4, none⟩) rfl (fa_27_0 _ _))) ?_
      simp only [pS, pN, pA, pC, pZ]
      refine gw_pure rfl rfl (.slice xa360 e'.name.length xc361) (fun w416 hCw416 => pureAt_of (ex_load rfl (load1 (nagg_25 _) (St.fz (St.tells S353 hCw416) c359)))) ?_
      simp only [pS, pN, pA, pC, pZ]
      refine gw_pure rfl rfl (.string ⟨e'.name.toArray⟩) (fun w416 hCw416 => pureAt_of (ex_convert (v := (.slice xa360 e'.name.length xc361)) rfl (run_string Try.underlying25 Try.underlying5 Try.underlying9 ((St.tells S353 hCw416)).sat r362))) ?_
      simp only [pS, pN, pA, pC, pZ]
      refine gw_nil ?_
      intro w417 hC419 hF420
      clear hF420
      have S418 := St.tells S353 hC419
      simp only [List.drop_succ_cons, List.drop_zero]
      refine do_ rfl (.bool false) (ex_strop (op := .lss) (l := e.name) (m := e'.name) (b := false) (by simp) rfl rfl (lss_no hnl)) ?_
      simp only [pS, pN, pA, pC, pZ]
      refine do_ rfl (.bool false) (ex_pick (b := true) rfl) ?_
      simp only [pS, pN, pA, pC, pZ]
      refine do_ rfl (.bool false) (ex_pick (b := false) rfl) ?_
      simp only [pS, pN, pA, pC, pZ]
      refine wl_nil (hK355 _ _ ?_)
      refine wp_cond_false rfl ?_
      refine wp_skip ?_
      refine hK354 _ _ ?_
      refine wp_seq_k (fun K421 hK421 => ?_)
      have hwas := Mk1.was hch hm1 hw
      rw [← hnw0.1, ← hnw0.2.1] at hwas
      by_cases hfs : (getF x e.name e.key).isSome = true
      ·have hvne : ¬ (getF x e.name e.key).getD [] = e.value := by
        intro hv
        have hne := hch.ne w hmw
        have hgb := hnw0.2.2.1
        rw [hge] at hgb
        rw [hwas, hnw0.1, hnw0.2.1] at hv hfs
        rw [hnw0.2.2.2] at hv
        have hs2 : (getF (stateC cs k2) w.name w.key).isSome = true := by simpa using hgb
        exact hne (chg_skip.1 ⟨by rw [hfs, hs2], hv⟩)
       refine region_wl ?_
       refine do_ rfl (.slice xa x.length xc) (ex_move _) ?_
       simp only [pS, pN, pA, pC, pZ]
       refine do_ rfl (.pointer (some ⟨n349, 0, none⟩)) (ex_field (q := ⟨n349, 0, none⟩) rfl (fa_27_0 _ _)) ?_
       simp only [pS, pN, pA, pC, pZ]
       refine do_ rfl (.slice xa337 e.name.length xc338) (ex_load rfl (load1 (nagg_25 _) (St.cell S418 (i := 0) rfl rfl))) ?_
       simp only [pS, pN, pA, pC, pZ]
       refine do_ rfl (.pointer (some ⟨n349, 1, none⟩)) (ex_field (q := ⟨n349, 1, none⟩) rfl (fa_27_1 _ _)) ?_
       simp only [pS, pN, pA, pC, pZ]
       refine do_ rfl (.slice xa341 e.key.length xc342) (ex_load rfl (load1 (nagg_25 _) (St.cell S418 (i := 0) rfl rfl))) ?_
       simp only [pS, pN, pA, pC, pZ]
       refine stGives S418 rfl (ex_fn (vs := #[(.slice xa x.length xc), (.slice xa337 e.name.length xc338), (.slice xa341 e.key.length xc342)]) (map3 rfl rfl rfl) rfl (ent_16 _ _)) (getF_spec _ _ _ _ _ x e.name e.key (S418).sat hfx r339 r343 (hm1.ok.mono (by omega)) (WrOk.name hwo) ⟨WrOk.key1 hwo, WrOk.key2 hwo⟩) ?_
       intro v427 w422 F424 S423 le425 R426
       obtain ⟨_, rfl, a428, c429, hx431, r430⟩ := R426
       rw [hfs] at hx431
       subst hx431
       have r430 : Bs _ (.slice a428 ((getF x e.name e.key).getD []).length c429) ((getF x e.name e.key).getD []) := r430
       simp only [pS, pN, pA, pC, pZ]
       refine do_ rfl (.tuple #[(.agg #[(.bool true), (.slice a428 ((getF x e.name e.key).getD []).length c429)]), (.int .i64 0)]) (ex_move _) ?_
       simp only [pS, pN, pA, pC, pZ]
       refine do_ rfl (.agg #[(.bool true), (.slice a428 ((getF x e.name e.key).getD []).length c429)]) (ex_extract rfl rfl) ?_
       simp only [pS, pN, pA, pC, pZ]
       refine do_ rfl (.int .i64 0) (ex_extract rfl rfl) ?_
       simp only [pS, pN, pA, pC, pZ]
       refine stNew S423 (v := fun n => .pointer (some ⟨n, 0, none⟩)) rfl (ex_alloc (zero_38 _)) (fun n432 w433 S434 => ?_)
       simp only [pS, pN, pA, pC, pZ]
       have S434 : St W (whole W) w433 F424 [⟨n432, [(.bool false), (.slice none 0 0)], 38⟩, ⟨n349, [(.slice xa337 e.name.length xc338), (.slice xa341 e.key.length xc342), (.bool false), (.slice xa346 e.value.length xc347)], 27⟩] [] := S434
       refine stStore (i := 0) (v := (.agg #[(.bool true), (.slice a428 ((getF x e.name e.key).getD []).length c429)])) S434 rfl rfl rfl rfl (size_38) (allc2 rfl rfl) (Nat.le_of_ble_eq_true rfl) (fun w435 S436 => ?_)
       simp only [pS, pN, pA, pC, pZ]
       have S436 : St W (whole W) w435 F424 [⟨n432, [(.bool true), (.slice a428 ((getF x e.name e.key).getD []).length c429)], 38⟩, ⟨n349, [(.slice xa337 e.name.length xc338), (.slice xa341 e.key.length xc342), (.bool false), (.slice xa346 e.value.length xc347)], 27⟩] [] := S436
       refine do_ rfl (.int .i64 0) (ex_assign _) ?_
       simp only [pS, pN, pA, pC, pZ]
       refine wl_nil (hK421 _ _ ?_)
       refine wp_seq_k (fun K437 hK437 => ?_)
       refine wp_seq_k (fun K438 hK438 => region_wl ?_)
       refine do_ rfl (.int .i64 0) (ex_move _) ?_
       simp only [pS, pN, pA, pC, pZ]
       refine do_ rfl (.bool false) (ex_neq (b := false) rfl rfl (by decide)) ?_
       simp only [pS, pN, pA, pC, pZ]
       refine do_ rfl (.bool false) (ex_move _) ?_
       simp only [pS, pN, pA, pC, pZ]
       refine do_ rfl (.pointer (some ⟨n349, 2, none⟩)) (ex_field (q := ⟨n349, 2, none⟩) rfl (fa_27_2 _ _)) ?_
       simp only [pS, pN, pA, pC, pZ]
       refine do_ rfl (.bool false) (ex_load rfl (load1 (nagg_4 _) (St.cell S436 (i := 1) rfl rfl))) ?_
       simp only [pS, pN, pA, pC, pZ]
       refine do_ rfl (.bool false) (ex_move _) ?_
       simp only [pS, pN, pA, pC, pZ]
       refine doN (wanted_no rfl rfl rfl (c := false) rfl (by decide)) ?_
       simp only [pS, pN, pA, pC, pZ]
       refine doN (wanted_no rfl rfl rfl (c := false) rfl (by decide)) ?_
       simp only [pS, pN, pA, pC, pZ]
       refine doN (wanted_no rfl rfl rfl (c := false) rfl (by decide)) ?_
       simp only [pS, pN, pA, pC, pZ]
       refine do_ rfl (.bool false) (ex_pick (b := false) rfl) ?_
       simp only [pS, pN, pA, pC, pZ]
       refine do_ rfl (.bool false) (ex_pick (b := false) rfl) ?_
       simp only [pS, pN, pA, pC, pZ]
       refine do_ rfl (.bool false) (ex_move _) ?_
       simp only [pS, pN, pA, pC, pZ]
       refine do_ rfl (.pointer (some ⟨n432, 0, none⟩)) (ex_field (q := ⟨n432, 0, none⟩) rfl (fa_38_0 _ _)) ?_
       simp only [pS, pN, pA, pC, pZ]
       refine do_ rfl (.bool true) (ex_load rfl (load1 (nagg_4 _) (St.cell S436 (i := 0) rfl rfl))) ?_
       simp only [pS, pN, pA, pC, pZ]
       refine do_ rfl (.bool true) (ex_move _) ?_
       simp only [pS, pN, pA, pC, pZ]
       refine do_ rfl (.pointer (some ⟨n349, 2, none⟩)) (ex_field (q := ⟨n349, 2, none⟩) rfl (fa_27_2 _ _)) ?_
       simp only [pS, pN, pA, pC, pZ]
       refine do_ rfl (.bool false) (ex_load rfl (load1 (nagg_4 _) (St.cell S436 (i := 1) rfl rfl))) ?_
       simp only [pS, pN, pA, pC, pZ]
       refine do_ rfl (.bool true) (ex_not (b := false) rfl rfl) ?_
       simp only [pS, pN, pA, pC, pZ]
       refine do_ rfl (.bool true) (ex_pick (b := true) rfl) ?_
       simp only [pS, pN, pA, pC, pZ]
       refine do_ rfl (.bool true) (ex_move _) ?_
       simp only [pS, pN, pA, pC, pZ]
       refine do_ rfl (.pointer (some ⟨n432, 1, none⟩)) (ex_field (q := ⟨n432, 1, none⟩) rfl (fa_38_1 _ _)) ?_
       simp only [pS, pN, pA, pC, pZ]
       refine do_ rfl (.slice a428 ((getF x e.name e.key).getD []).length c429) (ex_load rfl (load1 (nagg_25 _) (St.cell S436 (i := 0) rfl rfl))) ?_
       simp only [pS, pN, pA, pC, pZ]
       refine do_ rfl (.pointer (some ⟨n349, 3, none⟩)) (ex_field (q := ⟨n349, 3, none⟩) rfl (fa_27_3 _ _)) ?_
       simp only [pS, pN, pA, pC, pZ]
       refine do_ rfl (.slice xa346 e.value.length xc347) (ex_load rfl (load1 (nagg_25 _) (St.cell S436 (i := 1) rfl rfl))) ?_
       simp only [pS, pN, pA, pC, pZ]
       refine stTells (v := (.bool false)) S436 rfl (ex_fn (vs := #[(.slice a428 ((getF x e.name e.key).getD []).length c429), (.slice xa346 e.value.length xc347)]) (map2 rfl rfl) rfl (ent_14 _ _)) (tells_bool (tells_same (same_spec _ _ _ _ ((getF x e.name e.key).getD []) e.value (S436).sat r430 (r348.mono le425))) (beq_eq_false_iff_ne.2 hvne)) (fun w439 S440 => ?_)
       simp only [pS, pN, pA, pC, pZ]
       refine do_ rfl (.bool false) (ex_pick (b := true) rfl) ?_
       simp only [pS, pN, pA, pC, pZ]
       refine do_ rfl (.bool false) (ex_pick (b := false) rfl) ?_
       simp only [pS, pN, pA, pC, pZ]
       refine wl_nil (hK438 _ _ ?_)
       refine wp_cond_false rfl ?_
       refine wp_skip ?_
       refine hK437 _ _ ?_
       refine wp_seq_k (fun K441 hK441 => region_wl ?_)
       refine do_ rfl (.pointer (some ⟨n349, 2, none⟩)) (ex_field (q := ⟨n349, 2, none⟩) rfl (fa_27_2 _ _)) ?_
       simp only [pS, pN, pA, pC, pZ]
       refine do_ rfl (.bool false) (ex_load rfl (load1 (nagg_4 _) (St.cell S440 (i := 1) rfl rfl))) ?_
       simp only [pS, pN, pA, pC, pZ]
       refine wl_nil (hK441 _ _ ?_)
       refine wp_cond_false rfl ?_
       refine wp_skip ?_
       refine hK175 _ _ ?_
       refine region_wl ?_
       refine do_ rfl (.int .i64 ((i : Nat) : Int)) (ex_move _) ?_
       simp only [pS, pN, pA, pC, pZ]
       refine do_ rfl (.int .i64 (((i + 1) : Nat) : Int)) (ex_add (m := ((i : Nat) : Int)) (n := (1 : Int)) (r := (((i + 1) : Nat) : Int)) rfl rfl (by omega) (by omega) (by omega)) ?_
       simp only [pS, pN, pA, pC, pZ]
       refine do_ rfl (.int .i64 (((i + 1) : Nat) : Int)) (ex_assign _) ?_
       simp only [pS, pN, pA, pC, pZ]
       refine wl_nil ?_
       have S440 := St.drop S440 (L' := []) (.cons _ (.cons _ (List.Sublist.refl _)))
       exact hK172 _ _ _ (by omega) ⟨(i + 1), x, xa, xc, F424, _, rfl, rfl, rfl, S440, (le171.trans le425), (by omega), (Mk1.stay hch hm1 hw (by rw [← he]; exact hge)), (hfx.mono le425)⟩
      ·have hfs : (getF x e.name e.key).isSome = false := by simpa using hfs
       refine region_wl ?_
       refine do_ rfl (.slice xa x.length xc) (ex_move _) ?_
       simp only [pS, pN, pA, pC, pZ]
       refine do_ rfl (.pointer (some ⟨n349, 0, none⟩)) (ex_field (q := ⟨n349, 0, none⟩) rfl (fa_27_0 _ _)) ?_
       simp only [pS, pN, pA, pC, pZ]
       refine do_ rfl (.slice xa337 e.name.length xc338) (ex_load rfl (load1 (nagg_25 _) (St.cell S418 (i := 0) rfl rfl))) ?_
       simp only [pS, pN, pA, pC, pZ]
       refine do_ rfl (.pointer (some ⟨n349, 1, none⟩)) (ex_field (q := ⟨n349, 1, none⟩) rfl (fa_27_1 _ _)) ?_
       simp only [pS, pN, pA, pC, pZ]
       refine do_ rfl (.slice xa341 e.key.length xc342) (ex_load rfl (load1 (nagg_25 _) (St.cell S418 (i := 0) rfl rfl))) ?_
       simp only [pS, pN, pA, pC, pZ]
       refine stGives S418 rfl (ex_fn (vs := #[(.slice xa x.length xc), (.slice xa337 e.name.length xc338), (.slice xa341 e.key.length xc342)]) (map3 rfl rfl rfl) rfl (ent_16 _ _)) (getF_spec _ _ _ _ _ x e.name e.key (S418).sat hfx r339 r343 (hm1.ok.mono (by omega)) (WrOk.name hwo) ⟨WrOk.key1 hwo, WrOk.key2 hwo⟩) ?_
       intro v447 w442 F444 S443 le445 R446
       obtain ⟨_, rfl, a448, c449, hx451, r450⟩ := R446
       rw [hfs] at hx451
       subst hx451
       have r450 : Bs _ (.slice a448 ((getF x e.name e.key).getD []).length c449) ((getF x e.name e.key).getD []) := r450
       simp only [pS, pN, pA, pC, pZ]
       refine do_ rfl (.tuple #[(.agg #[(.bool false), (.slice a448 ((getF x e.name e.key).getD []).length c449)]), (.int .i64 0)]) (ex_move _) ?_
       simp only [pS, pN, pA, pC, pZ]
       refine do_ rfl (.agg #[(.bool false), (.slice a448 ((getF x e.name e.key).getD []).length c449)]) (ex_extract rfl rfl) ?_
       simp only [pS, pN, pA, pC, pZ]
       refine do_ rfl (.int .i64 0) (ex_extract rfl rfl) ?_
       simp only [pS, pN, pA, pC, pZ]
       refine stNew S443 (v := fun n => .pointer (some ⟨n, 0, none⟩)) rfl (ex_alloc (zero_38 _)) (fun n452 w453 S454 => ?_)
       simp only [pS, pN, pA, pC, pZ]
       have S454 : St W (whole W) w453 F444 [⟨n452, [(.bool false), (.slice none 0 0)], 38⟩, ⟨n349, [(.slice xa337 e.name.length xc338), (.slice xa341 e.key.length xc342), (.bool false), (.slice xa346 e.value.length xc347)], 27⟩] [] := S454
       refine stStore (i := 0) (v := (.agg #[(.bool false), (.slice a448 ((getF x e.name e.key).getD []).length c449)])) S454 rfl rfl rfl rfl (size_38) (allc2 rfl rfl) (Nat.le_of_ble_eq_true rfl) (fun w455 S456 => ?_)
       simp only [pS, pN, pA, pC, pZ]
       have S456 : St W (whole W) w455 F444 [⟨n452, [(.bool false), (.slice a448 ((getF x e.name e.key).getD []).length c449)], 38⟩, ⟨n349, [(.slice xa337 e.name.length xc338), (.slice xa341 e.key.length xc342), (.bool false), (.slice xa346 e.value.length xc347)], 27⟩] [] := S456
       refine do_ rfl (.int .i64 0) (ex_assign _) ?_
       simp only [pS, pN, pA, pC, pZ]
       refine wl_nil (hK421 _ _ ?_)
       refine wp_seq_k (fun K457 hK457 => ?_)
       refine wp_seq_k (fun K458 hK458 => region_wl ?_)
       refine do_ rfl (.int .i64 0) (ex_move _) ?_
       simp only [pS, pN, pA, pC, pZ]
       refine do_ rfl (.bool false) (ex_neq (b := false) rfl rfl (by decide)) ?_
       simp only [pS, pN, pA, pC, pZ]
       refine do_ rfl (.bool false) (ex_move _) ?_
       simp only [pS, pN, pA, pC, pZ]
       refine do_ rfl (.pointer (some ⟨n349, 2, none⟩)) (ex_field (q := ⟨n349, 2, none⟩) rfl (fa_27_2 _ _)) ?_
       simp only [pS, pN, pA, pC, pZ]
       refine do_ rfl (.bool false) (ex_load rfl (load1 (nagg_4 _) (St.cell S456 (i := 1) rfl rfl))) ?_
       simp only [pS, pN, pA, pC, pZ]
       refine do_ rfl (.bool false) (ex_move _) ?_
       simp only [pS, pN, pA, pC, pZ]
       refine doN (wanted_no rfl rfl rfl (c := false) rfl (by decide)) ?_
       simp only [pS, pN, pA, pC, pZ]
       refine doN (wanted_no rfl rfl rfl (c := false) rfl (by decide)) ?_
       simp only [pS, pN, pA, pC, pZ]
       refine doN (wanted_no rfl rfl rfl (c := false) rfl (by decide)) ?_
       simp only [pS, pN, pA, pC, pZ]
       refine do_ rfl (.bool false) (ex_pick (b := false) rfl) ?_
       simp only [pS, pN, pA, pC, pZ]
       refine do_ rfl (.bool false) (ex_pick (b := false) rfl) ?_
       simp only [pS, pN, pA, pC, pZ]
       refine do_ rfl (.bool false) (ex_move _) ?_
       simp only [pS, pN, pA, pC, pZ]
       refine do_ rfl (.pointer (some ⟨n452, 0, none⟩)) (ex_field (q := ⟨n452, 0, none⟩) rfl (fa_38_0 _ _)) ?_
       simp only [pS, pN, pA, pC, pZ]
       refine do_ rfl (.bool false) (ex_load rfl (load1 (nagg_4 _) (St.cell S456 (i := 0) rfl rfl))) ?_
       simp only [pS, pN, pA, pC, pZ]
       refine do_ rfl (.bool false) (ex_move _) ?_
       simp only [pS, pN, pA, pC, pZ]
       refine doN (wanted_no rfl rfl rfl (c := false) rfl (by decide)) ?_
       simp only [pS, pN, pA, pC, pZ]
       refine doN (wanted_no rfl rfl rfl (c := false) rfl (by decide)) ?_
       simp only [pS, pN, pA, pC, pZ]
       refine doN (wanted_no rfl rfl rfl (c := false) rfl (by decide)) ?_
       simp only [pS, pN, pA, pC, pZ]
       refine do_ rfl (.bool false) (ex_pick (b := false) rfl) ?_
       simp only [pS, pN, pA, pC, pZ]
       refine do_ rfl (.bool false) (ex_move _) ?_
       simp only [pS, pN, pA, pC, pZ]
       refine doN (wanted_no rfl rfl rfl (c := false) rfl (by decide)) ?_
       simp only [pS, pN, pA, pC, pZ]
       refine doN (wanted_no rfl rfl rfl (c := false) rfl (by decide)) ?_
       simp only [pS, pN, pA, pC, pZ]
       refine doN (wanted_no rfl rfl rfl (c := false) rfl (by decide)) ?_
       simp only [pS, pN, pA, pC, pZ]
       refine doN (wanted_no rfl rfl rfl (c := false) rfl (by decide)) ?_
       simp only [pS, pN, pA, pC, pZ]
       refine doN (wanted_no rfl rfl rfl (c := false) rfl (by decide)) ?_
       simp only [pS, pN, pA, pC, pZ]
       refine do_ rfl (.bool false) (ex_pick (b := false) rfl) ?_
       simp only [pS, pN, pA, pC, pZ]
       refine do_ rfl (.bool false) (ex_pick (b := false) rfl) ?_
       simp only [pS, pN, pA, pC, pZ]
       refine wl_nil (hK458 _ _ ?_)
       refine wp_cond_false rfl ?_
       refine wp_skip ?_
       refine hK457 _ _ ?_
       refine wp_seq_k (fun K459 hK459 => region_wl ?_)
       refine do_ rfl (.pointer (some ⟨n349, 2, none⟩)) (ex_field (q := ⟨n349, 2, none⟩) rfl (fa_27_2 _ _)) ?_
       simp only [pS, pN, pA, pC, pZ]
       refine do_ rfl (.bool false) (ex_load rfl (load1 (nagg_4 _) (St.cell S456 (i := 1) rfl rfl))) ?_
       simp only [pS, pN, pA, pC, pZ]
       refine wl_nil (hK459 _ _ ?_)
       refine wp_cond_false rfl ?_
       refine wp_skip ?_
       refine hK175 _ _ ?_
       refine region_wl ?_
       refine do_ rfl (.int .i64 ((i : Nat) : Int)) (ex_move _) ?_
       simp only [pS, pN, pA, pC, pZ]
       refine do_ rfl (.int .i64 (((i + 1) : Nat) : Int)) (ex_add (m := ((i : Nat) : Int)) (n := (1 : Int)) (r := (((i + 1) : Nat) : Int)) rfl rfl (by omega) (by omega) (by omega)) ?_
       simp only [pS, pN, pA, pC, pZ]
       refine do_ rfl (.int .i64 (((i + 1) : Nat) : Int)) (ex_assign _) ?_
       simp only [pS, pN, pA, pC, pZ]
       refine wl_nil ?_
       have S456 := St.drop S456 (L' := []) (.cons _ (.cons _ (List.Sublist.refl _)))
       exact hK172 _ _ _ (by omega) ⟨(i + 1), x, xa, xc, F444, _, rfl, rfl, rfl, S456, (le171.trans le445), (by omega), (Mk1.stay hch hm1 hw (by rw [← he]; exact hge)), (hfx.mono le445)⟩
    ·refine region_gw F164 42 [] (by kernel_rfl) (by kernel_rfl) ?_
     simp only [List.take_succ_cons, List.take_zero]
     refine gw_pure rfl rfl (.int .i64 ((i : Nat) : Int)) (fun w460 hCw460 => pureAt_of (ex_move _)) ?_
     simp only [pS, pN, pA, pC, pZ]
     refine gw_pure rfl rfl (.bool false) (fun w460 hCw460 => pureAt_of (ex_gtr (m := ((i : Nat) : Int)) (n := (0 : Int)) (b := false) rfl rfl (decide_eq_false (by omega)))) ?_
     simp only [pS, pN, pA, pC, pZ]
     refine gw_pure rfl rfl (.bool false) (fun w460 hCw460 => pureAt_of (ex_move _)) ?_
     simp only [pS, pN, pA, pC, pZ]
     refine gw_skip (wanted_no rfl rfl rfl (c := false) rfl (by decide)) ?_
     simp only [pS, pN, pA, pC, pZ]
     refine gw_skip (wanted_no rfl rfl rfl (c := false) rfl (by decide)) ?_
     simp only [pS, pN, pA, pC, pZ]
     refine gw_skip (wanted_no rfl rfl rfl (c := false) rfl (by decide)) ?_
     simp only [pS, pN, pA, pC, pZ]
     refine gw_skip (wanted_no rfl rfl rfl (c := false) rfl (by decide)) ?_
     simp only [pS, pN, pA, pC, pZ]
     refine gw_skip (wanted_no rfl rfl rfl (c := false) rfl (by decide)) ?_
     simp only [pS, pN, pA, pC, pZ]
     refine gw_skip (wanted_no rfl rfl rfl (c := false) rfl (by decide)) ?_
     simp only [pS, pN, pA, pC, pZ]
     refine gw_skip (wanted_no rfl rfl rfl (c := false) rfl (by decide)) ?_
     simp only [pS, pN, pA, pC, pZ]
     refine gw_skip (wanted_no rfl rfl rfl (c := false) rfl (by decide)) ?_
     simp only [pS, pN, pA, pC, pZ]
     refine gw_skip (wanted_no rfl rfl rfl (c := false) rfl (by decide)) ?_
     simp only [pS, pN, pA, pC, pZ]
     refine gw_skip (wanted_no rfl rfl rfl (c := false) rfl (by decide)) ?_
     simp only [pS, pN, pA, pC, pZ]
     refine gw_skip (wanted_no rfl rfl rfl (c := false) rfl (by decide)) ?_
     simp only [pS, pN, pA, pC, pZ]
     refine gw_pure rfl rfl (.bool false) (fun w460 hCw460 => pureAt_of (ex_pick (b := false) rfl)) ?_
     simp only [pS, pN, pA, pC, pZ]
     refine gw_pure rfl rfl (.bool false) (fun w460 hCw460 => pureAt_of (ex_move _)) ?_
     simp only [pS, pN, pA, pC, pZ]
     refine gw_skip (wanted_no rfl rfl rfl (c := false) rfl (by decide)) ?_
     simp only [pS, pN, pA, pC, pZ]
     refine gw_skip (wanted_no rfl rfl rfl (c := false) rfl (by decide)) ?_
     simp only [pS, pN, pA, pC, pZ]
     refine gw_skip (wanted_no rfl rfl rfl (c := false) rfl (by decide)) ?_
     simp only [pS, pN, pA, pC, pZ]
     refine gw_skip (wanted_no rfl rfl rfl (c := false) rfl (by decide)) ?_
     simp only [pS, pN, pA, pC, pZ]
     refine gw_skip (wanted_no rfl rfl rfl (c := false) rfl (by decide)) ?_
     simp only [pS, pN, pA, pC, pZ]
     refine gw_skip (wanted_no rfl rfl rfl (c := false) rfl (by decide)) ?_
     simp only [pS, pN, pA, pC, pZ]
     refine gw_skip (wanted_no rfl rfl rfl (c := false) rfl (by decide)) ?_
     simp only [pS, pN, pA, pC, pZ]
     refine gw_skip (wanted_no rfl rfl rfl (c := false) rfl (by decide)) ?_
     simp only [pS, pN, pA, pC, pZ]
     refine gw_skip (wanted_no rfl rfl rfl (c := false) rfl (by decide)) ?_
     simp only [pS, pN, pA, pC, pZ]
     refine gw_skip (wanted_no rfl rfl rfl (c := false) rfl (by decide)) ?_
     simp only [pS, pN, pA, pC, pZ]
     refine gw_skip (wanted_no rfl rfl rfl (c := false) rfl (by decide)) ?_
     simp only [pS, pN, pA, pC, pZ]
     refine gw_pure rfl rfl (.bool false) (fun w460 hCw460 => pureAt_of (ex_pick (b := false) rfl)) ?_
     simp only [pS, pN, pA, pC, pZ]
     refine gw_pure rfl rfl (.bool false) (fun w460 hCw460 => pureAt_of (ex_move _)) ?_
     simp only [pS, pN, pA, pC, pZ]
     refine gw_pure rfl rfl (.int .i64 ((i : Nat) : Int)) (fun w460 hCw460 => pureAt_of (ex_move _)) ?_
     simp only [pS, pN, pA, pC, pZ]
     refine gw_pure rfl rfl (.bool false) (fun w460 hCw460 => pureAt_of (ex_gtr (m := ((i : Nat) : Int)) (n := (0 : Int)) (b := false) rfl rfl (decide_eq_false (by omega)))) ?_
     simp only [pS, pN, pA, pC, pZ]
     refine gw_pure rfl rfl (.bool false) (fun w460 hCw460 => pureAt_of (ex_move _)) ?_
     simp only [pS, pN, pA, pC, pZ]
     refine gw_skip (wanted_no rfl rfl rfl (c := false) rfl (by decide)) ?_
     simp only [pS, pN, pA, pC, pZ]
     refine gw_skip (wanted_no rfl rfl rfl (c := false) rfl (by decide)) ?_
     simp only [pS, pN, pA, pC, pZ]
     refine gw_skip (wanted_no rfl rfl rfl (c := false) rfl (by decide)) ?_
     simp only [pS, pN, pA, pC, pZ]
     refine gw_skip (wanted_no rfl rfl rfl (c := false) rfl (by decide)) ?_
     simp only [pS, pN, pA, pC, pZ]
     refine gw_skip (wanted_no rfl rfl rfl (c := false) rfl (by decide)) ?_
     simp only [pS, pN, pA, pC, pZ]
     refine gw_skip (wanted_no rfl rfl rfl (c := false) rfl (by decide)) ?_
     simp only [pS, pN, pA, pC, pZ]
     refine gw_skip (wanted_no rfl rfl rfl (c := false) rfl (by decide)) ?_
     simp only [pS, pN, pA, pC, pZ]
     refine gw_skip (wanted_no rfl rfl rfl (c := false) rfl (by decide)) ?_
     simp only [pS, pN, pA, pC, pZ]
     refine gw_skip (wanted_no rfl rfl rfl (c := false) rfl (by decide)) ?_
     simp only [pS, pN, pA, pC, pZ]
     refine gw_skip (wanted_no rfl rfl rfl (c := false) rfl (by decide)) ?_
     simp only [pS, pN, pA, pC, pZ]
     refine gw_nil ?_
     intro w461 hC463 hF464
     clear hF464
     have S462 := St.tells S353 hC463
     simp only [List.drop_succ_cons, List.drop_zero]
     refine doN (wanted_no rfl rfl rfl (c := false) rfl (by decide)) ?_
     simp only [pS, pN, pA, pC, pZ]
     refine do_ rfl (.bool false) (ex_pick (b := false) rfl) ?_
     simp only [pS, pN, pA, pC, pZ]
     refine do_ rfl (.bool false) (ex_pick (b := false) rfl) ?_
     simp only [pS, pN, pA, pC, pZ]
     refine wl_nil (hK355 _ _ ?_)
     refine wp_cond_false rfl ?_
     refine wp_skip ?_
     refine hK354 _ _ ?_
     refine wp_seq_k (fun K465 hK465 => ?_)
     have hwas := Mk1.was hch hm1 hw
     rw [← hnw0.1, ← hnw0.2.1] at hwas
     by_cases hfs : (getF x e.name e.key).isSome = true
     ·have hvne : ¬ (getF x e.name e.key).getD [] = e.value := by
       intro hv
       have hne := hch.ne w hmw
       have hgb := hnw0.2.2.1
       rw [hge] at hgb
       rw [hwas, hnw0.1, hnw0.2.1] at hv hfs
       rw [hnw0.2.2.2] at hv
       have hs2 : (getF (stateC cs k2) w.name w.key).isSome = true := by simpa using hgb
       exact hne (chg_skip.1 ⟨by rw [hfs, hs2], hv⟩)
      refine region_wl ?_
      refine do_ rfl (.slice xa x.length xc) (ex_move _) ?_
      simp only [pS, pN, pA, pC, pZ]
      refine do_ rfl (.pointer (some ⟨n349, 0, none⟩)) (ex_field (q := ⟨n349, 0, none⟩) rfl (fa_27_0 _ _)) ?_
      simp only [pS, pN, pA, pC, pZ]
      refine do_ rfl (.slice xa337 e.name.length xc338) (ex_load rfl (load1 (nagg_25 _) (St.cell S462 (i := 0) rfl rfl))) ?_
      simp only [pS, pN, pA, pC, pZ]
      refine do_ rfl (.pointer (some ⟨n349, 1, none⟩)) (ex_field (q := ⟨n349, 1, none⟩) rfl (fa_27_1 _ _)) ?_
      simp only [pS, pN, pA, pC, pZ]
      refine do_ rfl (.slice xa341 e.key.length xc342) (ex_load rfl (load1 (nagg_25 _) (St.cell S462 (i := 0) rfl rfl))) ?_
      simp only [pS, pN, pA, pC, pZ]
      refine stGives S462 rfl (ex_fn (vs := #[(.slice xa x.length xc), (.slice xa337 e.name.length xc338), (.slice xa341 e.key.length xc342)]) (map3 rfl rfl rfl) rfl (ent_16 _ _)) (getF_spec _ _ _ _ _ x e.name e.key (S462).sat hfx r339 r343 (hm1.ok.mono (by omega)) (WrOk.name hwo) ⟨WrOk.key1 hwo, WrOk.key2 hwo⟩) ?_
      intro v471 w466 F468 S467 le469 R470
      obtain ⟨_, rfl, a472, c473, hx475, r474⟩ := R470
      rw [hfs] at hx475
      subst hx475
      have r474 : Bs _ (.slice a472 ((getF x e.name e.key).getD []).length c473) ((getF x e.name e.key).getD []) := r474
      simp only [pS, pN, pA, pC, pZ]
      refine do_ rfl (.tuple #[(.agg #[(.bool true), (.slice a472 ((getF x e.name e.key).getD []).length c473)]), (.int .i64 0)]) (ex_move _) ?_
      simp only [pS, pN, pA, pC, pZ]
      refine do_ rfl (.agg #[(.bool true), (.slice a472 ((getF x e.name e.key).getD []).length c473)]) (ex_extract rfl rfl) ?_
      simp only [pS, pN, pA, pC, pZ]
      refine do_ rfl (.int .i64 0) (ex_extract rfl rfl) ?_
      simp only [pS, pN, pA, pC, pZ]
      refine stNew S467 (v := fun n => .pointer (some ⟨n, 0, none⟩)) rfl (ex_alloc (zero_38 _)) (fun n476 w477 S478 => ?_)
      simp only [pS, pN, pA, pC, pZ]
      have S478 : St W (whole W) w477 F468 [⟨n476, [(.bool false), (.slice none 0 0)], 38⟩, ⟨n349, [(.slice xa337 e.name.length xc338), (.slice xa341 e.key.length xc342), (.bool false), (.slice xa346 e.value.length xc347)], 27⟩] [] := S478
      refine stStore (i := 0) (v := (.agg #[(.bool true), (.slice a472 ((getF x e.name e.key).getD []).length c473)])) S478 rfl rfl rfl rfl (size_38) (allc2 rfl rfl) (Nat.le_of_ble_eq_true rfl) (fun w479 S480 => ?_)
      simp only [pS, pN, pA, pC, pZ]
      have S480 : St W (whole W) w479 F468 [⟨n476, [(.bool true), (.slice a472 ((getF x e.name e.key).getD []).length c473)], 38⟩, ⟨n349, [(.slice xa337 e.name.length xc338), (.slice xa341 e.key.length xc342), (.bool false), (.slice xa346 e.value.length xc347)], 27⟩] [] := S480
      refine do_ rfl (.int .i64 0) (ex_assign _) ?_
      simp only [pS, pN, pA, pC, pZ]
      refine wl_nil (hK465 _ _ ?_)
      refine wp_seq_k (fun K481 hK481 => ?_)
      refine wp_seq_k (fun K482 hK482 => region_wl ?_)
      refine do_ rfl (.int .i64 0) (ex_move _) ?_
      simp only [pS, pN, pA, pC, pZ]
      refine do_ rfl (.bool false) (ex_neq (b := false) rfl rfl (by decide)) ?_
      simp only [pS, pN, pA, pC, pZ]
      refine do_ rfl (.bool false) (ex_move _) ?_
      simp only [pS, pN, pA, pC, pZ]
      refine do_ rfl (.pointer (some ⟨n349, 2, none⟩)) (ex_field (q := ⟨n349, 2, none⟩) rfl (fa_27_2 _ _)) ?_
      simp only [pS, pN, pA, pC, pZ]
      refine do_ rfl (.bool false) (ex_load rfl (load1 (nagg_4 _) (St.cell S480 (i := 1) rfl rfl))) ?_
      simp only [pS, pN, pA, pC, pZ]
      refine do_ rfl (.bool false) (ex_move _) ?_
      simp only [pS, pN, pA, pC, pZ]
      refine doN (wanted_no rfl rfl rfl (c := false) rfl (by decide)) ?_
      simp only [pS, pN, pA, pC, pZ]
      refine doN (wanted_no rfl rfl rfl (c := false) rfl (by decide)) ?_
      simp only [pS, pN, pA, pC, pZ]
      refine doN (wanted_no rfl rfl rfl (c := false) rfl (by decide)) ?_
      simp only [pS, pN, pA, pC, pZ]
      refine do_ rfl (.bool false) (ex_pick (b := false) rfl) ?_
      simp only [pS, pN, pA, pC, pZ]
      refine do_ rfl (.bool false) (ex_pick (b := false) rfl) ?_
      simp only [pS, pN, pA, pC, pZ]
      refine do_ rfl (.bool false) (ex_move _) ?_
      simp only [pS, pN, pA, pC, pZ]
      refine do_ rfl (.pointer (some ⟨n476, 0, none⟩)) (ex_field (q := ⟨n476, 0, none⟩) rfl (fa_38_0 _ _)) ?_
      simp only [pS, pN, pA, pC, pZ]
      refine do_ rfl (.bool true) (ex_load rfl (load1 (nagg_4 _) (St.cell S480 (i := 0) rfl rfl))) ?_
      simp only [pS, pN, pA, pC, pZ]
      refine do_ rfl (.bool true) (ex_move _) ?_
      simp only [pS, pN, pA, pC, pZ]
      refine do_ rfl (.pointer (some ⟨n349, 2, none⟩)) (ex_field (q := ⟨n349, 2, none⟩) rfl (fa_27_2 _ _)) ?_
      simp only [pS, pN, pA, pC, pZ]
      refine do_ rfl (.bool false) (ex_load rfl (load1 (nagg_4 _) (St.cell S480 (i := 1) rfl rfl))) ?_
      simp only [pS, pN, pA, pC, pZ]
      refine do_ rfl (.bool true) (ex_not (b := false) rfl rfl) ?_
      simp only [pS, pN, pA, pC, pZ]
      refine do_ rfl (.bool true) (ex_pick (b := true) rfl) ?_
      simp only [pS, pN, pA, pC, pZ]
      refine do_ rfl (.bool true) (ex_move _) ?_
      simp only [pS, pN, pA, pC, pZ]
      refine do_ rfl (.pointer (some ⟨n476, 1, none⟩)) (ex_field (q := ⟨n476, 1, none⟩) rfl (fa_38_1 _ _)) ?_
      simp only [pS, pN, pA, pC, pZ]
      refine do_ rfl (.slice a472 ((getF x e.name e.key).getD []).length c473) (ex_load rfl (load1 (nagg_25 _) (St.cell S480 (i := 0) rfl rfl))) ?_
      simp only [pS, pN, pA, pC, pZ]
      refine do_ rfl (.pointer (some ⟨n349, 3, none⟩)) (ex_field (q := ⟨n349, 3, none⟩) rfl (fa_27_3 _ _)) ?_
      simp only [pS, pN, pA, pC, pZ]
      refine do_ rfl (.slice xa346 e.value.length xc347) (ex_load rfl (load1 (nagg_25 _) (St.cell S480 (i := 1) rfl rfl))) ?_
      simp only [pS, pN, pA, pC, pZ]
      refine stTells (v := (.bool false)) S480 rfl (ex_fn (vs := #[(.slice a472 ((getF x e.name e.key).getD []).length c473), (.slice xa346 e.value.length xc347)]) (map2 rfl rfl) rfl (ent_14 _ _)) (tells_bool (tells_same (same_spec _ _ _ _ ((getF x e.name e.key).getD []) e.value (S480).sat r474 (r348.mono le469))) (beq_eq_false_iff_ne.2 hvne)) (fun w483 S484 => ?_)
      simp only [pS, pN, pA, pC, pZ]
      refine do_ rfl (.bool false) (ex_pick (b := true) rfl) ?_
      simp only [pS, pN, pA, pC, pZ]
      refine do_ rfl (.bool false) (ex_pick (b := false) rfl) ?_
      simp only [pS, pN, pA, pC, pZ]
      refine wl_nil (hK482 _ _ ?_)
      refine wp_cond_false rfl ?_
      refine wp_skip ?_
      refine hK481 _ _ ?_
      refine wp_seq_k (fun K485 hK485 => region_wl ?_)
      refine do_ rfl (.pointer (some ⟨n349, 2, none⟩)) (ex_field (q := ⟨n349, 2, none⟩) rfl (fa_27_2 _ _)) ?_
      simp only [pS, pN, pA, pC, pZ]
      refine do_ rfl (.bool false) (ex_load rfl (load1 (nagg_4 _) (St.cell S484 (i := 1) rfl rfl))) ?_
      simp only [pS, pN, pA, pC, pZ]
      refine wl_nil (hK485 _ _ ?_)
      refine wp_cond_false rfl ?_
      refine wp_skip ?_
      refine hK175 _ _ ?_
      refine region_wl ?_
      refine do_ rfl (.int .i64 ((i : Nat) : Int)) (ex_move _) ?_
      simp only [pS, pN, pA, pC, pZ]
      refine do_ rfl (.int .i64 (((i + 1) : Nat) : Int)) (ex_add (m := ((i : Nat) : Int)) (n := (1 : Int)) (r := (((i + 1) : Nat) : Int)) rfl rfl (by omega) (by omega) (by omega)) ?_
      simp only [pS, pN, pA, pC, pZ]
      refine do_ rfl (.int .i64 (((i + 1) : Nat) : Int)) (ex_assign _) ?_
      simp only [pS, pN, pA, pC, pZ]
      refine wl_nil ?_
      have S484 := St.drop S484 (L' := []) (.cons _ (.cons _ (List.Sublist.refl _)))
      exact hK172 _ _ _ (by omega) ⟨(i + 1), x, xa, xc, F468, _, rfl, rfl, rfl, S484, (le171.trans le469), (by omega), (Mk1.stay hch hm1 hw (by rw [← he]; exact hge)), (hfx.mono le469)⟩
     ·have hfs : (getF x e.name e.key).isSome = false := by simpa using hfs
      refine region_wl ?_
      refine do_ rfl (.slice xa x.length xc) (ex_move _) ?_
      simp only [pS, pN, pA, pC, pZ]
      refine do_ rfl (.pointer (some ⟨n349, 0, none⟩)) (ex_field (q := ⟨n349, 0, none⟩) rfl (fa_27_0 _ _)) ?_
      simp only [pS, pN, pA, pC, pZ]
      refine do_ rfl (.slice xa337 e.name.length xc338) (ex_load rfl (load1 (nagg_25 _) (St.cell S462 (i := 0) rfl rfl))) ?_
      simp only [pS, pN, pA, pC, pZ]
      refine do_ rfl (.pointer (some ⟨n349, 1, none⟩)) (ex_field (q := ⟨n349, 1, none⟩) rfl (fa_27_1 _ _)) ?_
      simp only [pS, pN, pA, pC, pZ]
      refine do_ rfl (.slice xa341 e.key.length xc342) (ex_load rfl (load1 (nagg_25 _) (St.cell S462 (i := 0) rfl rfl))) ?_
      simp only [pS, pN, pA, pC, pZ]
      refine stGives S462 rfl (ex_fn (vs := #[(.slice xa x.length xc), (.slice xa337 e.name.length xc338), (.slice xa341 e.key.length xc342)]) (map3 rfl rfl rfl) rfl (ent_16 _ _)) (getF_spec _ _ _ _ _ x e.name e.key (S462).sat hfx r339 r343 (hm1.ok.mono (by omega)) (WrOk.name hwo) ⟨WrOk.key1 hwo, WrOk.key2 hwo⟩) ?_
      intro v491 w486 F488 S487 le489 R490
      obtain ⟨_, rfl, a492, c493, hx495, r494⟩ := R490
      rw [hfs] at hx495
      subst hx495
      have r494 : Bs _ (.slice a492 ((getF x e.name e.key).getD []).length c493) ((getF x e.name e.key).getD []) := r494
      simp only [pS, pN, pA, pC, pZ]
      refine do_ rfl (.tuple #[(.agg #[(.bool false), (.slice a492 ((getF x e.name e.key).getD []).length c493)]), (.int .i64 0)]) (ex_move _) ?_
      simp only [pS, pN, pA, pC, pZ]
      refine do_ rfl (.agg #[(.bool false), (.slice a492 ((getF x e.name e.key).getD []).length c493)]) (ex_extract rfl rfl) ?_
      simp only [pS, pN, pA, pC, pZ]
      refine do_ rfl (.int .i64 0) (ex_extract rfl rfl) ?_
      simp only [pS, pN, pA, pC, pZ]
      refine stNew S487 (v := fun n => .pointer (some ⟨n, 0, none⟩)) rfl (ex_alloc (zero_38 _)) (fun n496 w497 S498 => ?_)
      simp only [pS, pN, pA, pC, pZ]
      have S498 : St W (whole W) w497 F488 [⟨n496, [(.bool false), (.slice none 0 0)], 38⟩, ⟨n349, [(.slice xa337 e.name.length xc338), (.slice xa341 e.key.length xc342), (.bool false), (.slice xa346 e.value.length xc347)], 27⟩] [] := S498
      refine stStore (i := 0) (v := (.agg #[(.bool false), (.slice a492 ((getF x e.name e.key).getD []).length c493)])) S498 rfl rfl rfl rfl (size_38) (allc2 rfl rfl) (Nat.le_of_ble_eq_true rfl) (fun w499 S500 => ?_)
      simp only [pS, pN, pA, pC, pZ]
      have S500 : St W (whole W) w499 F488 [⟨n496, [(.bool false), (.slice a492 ((getF x e.name e.key).getD []).length c493)], 38⟩, ⟨n349, [(.slice xa337 e.name.length xc338), (.slice xa341 e.key.length xc342), (.bool false), (.slice xa346 e.value.length xc347)], 27⟩] [] := S500
      refine do_ rfl (.int .i64 0) (ex_assign _) ?_
      simp only [pS, pN, pA, pC, pZ]
      refine wl_nil (hK465 _ _ ?_)
      refine wp_seq_k (fun K501 hK501 => ?_)
      refine wp_seq_k (fun K502 hK502 => region_wl ?_)
      refine do_ rfl (.int .i64 0) (ex_move _) ?_
      simp only [pS, pN, pA, pC, pZ]
      refine do_ rfl (.bool false) (ex_neq (b := false) rfl rfl (by decide)) ?_
      simp only [pS, pN, pA, pC, pZ]
      refine do_ rfl (.bool false) (ex_move _) ?_
      simp only [pS, pN, pA, pC, pZ]
      refine do_ rfl (.pointer (some ⟨n349, 2, none⟩)) (ex_field (q := ⟨n349, 2, none⟩) rfl (fa_27_2 _ _)) ?_
      simp only [pS, pN, pA, pC, pZ]
      refine do_ rfl (.bool false) (ex_load rfl (load1 (nagg_4 _) (St.cell S500 (i := 1) rfl rfl))) ?_
      simp only [pS, pN, pA, pC, pZ]
      refine do_ rfl (.bool false) (ex_move _) ?_
      simp only [pS, pN, pA, pC, pZ]
      refine doN (wanted_no rfl rfl rfl (c := false) rfl (by decide)) ?_
      simp only [pS, pN, pA, pC, pZ]
      refine doN (wanted_no rfl rfl rfl (c := false) rfl (by decide)) ?_
      simp only [pS, pN, pA, pC, pZ]
      refine doN (wanted_no rfl rfl rfl (c := false) rfl (by decide)) ?_
      simp only [pS, pN, pA, pC, pZ]
      refine do_ rfl (.bool false) (ex_pick (b := false) rfl) ?_
      simp only [pS, pN, pA, pC, pZ]
      refine do_ rfl (.bool false) (ex_pick (b := false) rfl) ?_
      simp only [pS, pN, pA, pC, pZ]
      refine do_ rfl (.bool false) (ex_move _) ?_
      simp only [pS, pN, pA, pC, pZ]
      refine do_ rfl (.pointer (some ⟨n496, 0, none⟩)) (ex_field (q := ⟨n496, 0, none⟩) rfl (fa_38_0 _ _)) ?_
      simp only [pS, pN, pA, pC, pZ]
      refine do_ rfl (.bool false) (ex_load rfl (load1 (nagg_4 _) (St.cell S500 (i := 0) rfl rfl))) ?_
      simp only [pS, pN, pA, pC, pZ]
      refine do_ rfl (.bool false) (ex_move _) ?_
      simp only [pS, pN, pA, pC, pZ]
      refine doN (wanted_no rfl rfl rfl (c := false) rfl (by decide)) ?_
      simp only [pS, pN, pA, pC, pZ]
      refine doN (wanted_no rfl rfl rfl (c := false) rfl (by decide)) ?_
      simp only [pS, pN, pA, pC, pZ]
      refine doN (wanted_no rfl rfl rfl (c := false) rfl (by decide)) ?_
      simp only [pS, pN, pA, pC, pZ]
      refine do_ rfl (.bool false) (ex_pick (b := false) rfl) ?_
      simp only [pS, pN, pA, pC, pZ]
      refine do_ rfl (.bool false) (ex_move _) ?_
      simp only [pS, pN, pA, pC, pZ]
      refine doN (wanted_no rfl rfl rfl (c := false) rfl (by decide)) ?_
      simp only [pS, pN, pA, pC, pZ]
      refine doN (wanted_no rfl rfl rfl (c := false) rfl (by decide)) ?_
      simp only [pS, pN, pA, pC, pZ]
      refine doN (wanted_no rfl rfl rfl (c := false) rfl (by decide)) ?_
      simp only [pS, pN, pA, pC, pZ]
      refine doN (wanted_no rfl rfl rfl (c := false) rfl (by decide)) ?_
      simp only [pS, pN, pA, pC, pZ]
      refine doN (wanted_no rfl rfl rfl (c := false) rfl (by decide)) ?_
      simp only [pS, pN, pA, pC, pZ]
      refine do_ rfl (.bool false) (ex_pick (b := false) rfl) ?_
      simp only [pS, pN, pA, pC, pZ]
      refine do_ rfl (.bool false) (ex_pick (b := false) rfl) ?_
      simp only [pS, pN, pA, pC, pZ]
      refine wl_nil (hK502 _ _ ?_)
      refine wp_cond_false rfl ?_
      refine wp_skip ?_
      refine hK501 _ _ ?_
      refine wp_seq_k (fun K503 hK503 => region_wl ?_)
      refine do_ rfl (.pointer (some ⟨n349, 2, none⟩)) (ex_field (q := ⟨n349, 2, none⟩) rfl (fa_27_2 _ _)) ?_
      simp only [pS, pN, pA, pC, pZ]
      refine do_ rfl (.bool false) (ex_load rfl (load1 (nagg_4 _) (St.cell S500 (i := 1) rfl rfl))) ?_
      simp only [pS, pN, pA, pC, pZ]
      refine wl_nil (hK503 _ _ ?_)
      refine wp_cond_false rfl ?_
      refine wp_skip ?_
      refine hK175 _ _ ?_
      refine region_wl ?_
      refine do_ rfl (.int .i64 ((i : Nat) : Int)) (ex_move _) ?_
      simp only [pS, pN, pA, pC, pZ]
      refine do_ rfl (.int .i64 (((i + 1) : Nat) : Int)) (ex_add (m := ((i : Nat) : Int)) (n := (1 : Int)) (r := (((i + 1) : Nat) : Int)) rfl rfl (by omega) (by omega) (by omega)) ?_
      simp only [pS, pN, pA, pC, pZ]
      refine do_ rfl (.int .i64 (((i + 1) : Nat) : Int)) (ex_assign _) ?_
      simp only [pS, pN, pA, pC, pZ]
      refine wl_nil ?_
      have S500 := St.drop S500 (L' := []) (.cons _ (.cons _ (List.Sublist.refl _)))
      exact hK172 _ _ _ (by omega) ⟨(i + 1), x, xa, xc, F488, _, rfl, rfl, rfl, S500, (le171.trans le489), (by omega), (Mk1.stay hch hm1 hw (by rw [← he]; exact hge)), (hfx.mono le489)⟩
  ·refine do_ rfl (.bool false) (ex_lss (m := ((i : Nat) : Int)) (n := (((chgs (stateC cs k1) (stateC cs k2) ps).length : Nat) : Int)) (b := false) rfl rfl (decide_eq_false (by omega))) ?_
   simp only [pS, pN, pA, pC, pZ]
   refine wl_nil (hK174 _ _ ?_)
   refine wp_cond_false rfl ?_
   refine wp_exit ?_
   refine hK162 _ _ ?_
   refine wp_seq_k (fun K504 hK504 => ?_)
   refine wp_seq_k (fun K505 hK505 => region_wl ?_)
   refine do_ rfl (.int .i64 0) (ex_assign _) ?_
   simp only [pS, pN, pA, pC, pZ]
   refine wl_nil (hK505 _ _ ?_)
   refine wp_block ?_
   have hil : i = (difP (stateC cs k1) (stateC cs k2) ps).length := by rw [← chg_len]; omega
   rw [hil] at hm1
   refine wp_loop_g (fun mm aa w508 => ∃ (j : Nat) (xx : Forest) (xa2 : Option Addr) (xc2 : Nat) (F506 : Fz) (u507 : Nat → Value), mm = (chgs (stateC cs k1) (stateC cs k2) ps).length - j ∧ u507 = slots aa ∧ aa = ⟨#[(.slice a0 l0.length c0), (.int .i64 x1), (.int .i64 x2), undef, undef, undef, (u507 6), (.slice a109 cs.length c110), (.int .i64 ((k1 : Nat) : Int)), (.int .i64 ((k2 : Nat) : Int)), (.slice a126 (chgs (stateC cs k1) (stateC cs k2) ps).length c127), (.int .i64 0), (.slice xa2 xx.length xc2), (.int .i64 0), (.slice a150 (stateC cs k2).length c151), (.int .i64 0), (.int .i64 ((i : Nat) : Int)), (u165 17), (u165 18), (u165 19), (u165 20), (u165 21), (.int .i64 ((j : Nat) : Int)), (u507 23), (u507 24), (.slice a0 l0.length c0), (.slice a109 cs.length c110), (.int .i64 x1), (.slice a109 cs.length c110), (.int .i64 ((cs.length : Nat) : Int)), (.int .i64 (((cs.length + 1) : Nat) : Int)), (.int .i64 ((k1 : Nat) : Int)), (.int .i64 x2), (.slice a109 cs.length c110), (.int .i64 ((cs.length : Nat) : Int)), (.int .i64 (((cs.length + 1) : Nat) : Int)), (.int .i64 ((k2 : Nat) : Int)), (.tuple #[(.slice a126 (chgs (stateC cs k1) (stateC cs k2) ps).length c127), (.int .i64 0)]), (.slice a109 cs.length c110), (.int .i64 ((k1 : Nat) : Int)), (.int .i64 ((k2 : Nat) : Int)), (.tuple #[(.slice a126 (chgs (stateC cs k1) (stateC cs k2) ps).length c127), (.int .i64 0)]), (.slice a126 (chgs (stateC cs k1) (stateC cs k2) ps).length c127), (.int .i64 0), (.tuple #[(.slice a138 (stateC cs k1).length c139), (.int .i64 0)]), (.slice a109 cs.length c110), (.int .i64 ((k1 : Nat) : Int)), (.tuple #[(.slice a138 (stateC cs k1).length c139), (.int .i64 0)]), (.slice a138 (stateC cs k1).length c139), (.int .i64 0), (.tuple #[(.slice a150 (stateC cs k2).length c151), (.int .i64 0)]), (.slice a109 cs.length c110), (.int .i64 ((k2 : Nat) : Int)), (.tuple #[(.slice a150 (stateC cs k2).length c151), (.int .i64 0)]), (.slice a150 (stateC cs k2).length c151), (.int .i64 0), (u156 56), (u156 57), (u156 58), (u156 59), (u156 60), (u156 61), (u156 62), (u156 63), (u156 64), (u156 65), (u156 66), (u156 67), (u156 68), (u156 69), (u156 70), (u156 71), (u156 72), (u156 73), (u156 74), (u156 75), (.int .i64 ((i : Nat) : Int)), (.slice a126 (chgs (stateC cs k1) (stateC cs k2) ps).length c127), (.int .i64 (((chgs (stateC cs k1) (stateC cs k2) ps).length : Nat) : Int)), (.bool false), (u165 80), (u165 81), (u165 82), (u165 83), (u165 84), (u165 85), (u165 86), (u165 87), (u165 88), (u165 89), (u165 90), (u165 91), (u165 92), (u165 93), (u165 94), (u165 95), (u165 96), (u165 97), (u165 98), (u165 99), (u165 100), (u165 101), (u165 102), (u165 103), (u165 104), (u165 105), (u165 106), (u165 107), (u165 108), (u165 109), (u165 110), (u165 111), (u165 112), (u165 113), (u165 114), (u165 115), (u165 116), (u165 117), (u165 118), (u165 119), (u165 120), (u165 121), (u165 122), (u165 123), (u165 124), (u165 125), (u165 126), (u165 127), (u165 128), (u165 129), (u165 130), (u165 131), (u165 132), (u165 133), (u165 134), (u165 135), (u165 136), (u165 137), (u165 138), (u165 139), (u165 140), (u165 141), (u165 142), (u165 143), (u165 144), (u165 145), (u165 146), (u165 147), (u165 148), (u165 149), (u165 150), (u165 151), (u165 152), (u165 153), (u165 154), (u165 155), (u165 156), (u165 157), (u165 158), (u165 159), (u165 160), (u165 161), (u165 162), (u165 163), (u165 164), (u165 165), (u165 166), (u165 167), (u165 168), (u165 169), (u165 170), (u165 171), (u165 172), (u165 173), (u165 174), (u165 175), (u165 176), (u165 177), (u165 178), (u165 179), (u165 180), (u165 181), (u507 182), (u507 183), (u507 184), (u507 185), (u507 186), (u507 187), (u507 188), (u507 189), (u507 190), (u507 191), (u507 192), (u507 193), (u507 194), (u507 195), (u507 196), (u507 197), (u507 198), (u507 199), (u507 200), (u507 201), (u507 202), (u507 203), (u507 204), (u507 205), undef, undef, undef, undef, undef, undef, undef, undef, undef, undef, undef], []⟩ ∧ St W (whole W) w508 F506 [] [] ∧ Le F164 F506 ∧ (j ≤ (chgs (stateC cs k1) (stateC cs k2) ps).length) ∧ (Mk2 (stateC cs k1) (stateC cs k2) (difP (stateC cs k1) (stateC cs k2) ps) j xx) ∧ (Tns F506 (.slice xa2 xx.length xc2) xx)) _ ⟨0, x, xa, xc, F164, _, rfl, rfl, rfl, S170, Le.refl _, (by omega), (Mk2.start hm1), hfx⟩ ?_
   rintro m509 a510 w511 ⟨j, xx, xa2, xc2, F506, u507, rfl, -, rfl, S512, le513, hj, hm2, hfx2⟩ K514 hK514
   refine wp_seq_k (fun K515 hK515 => ?_)
   refine wp_seq_k (fun K516 hK516 => region_wl ?_)
   refine do_ rfl (.int .i64 ((j : Nat) : Int)) (ex_move _) ?_
   simp only [pS, pN, pA, pC, pZ]
   refine do_ rfl (.slice a126 (chgs (stateC cs k1) (stateC cs k2) ps).length c127) (ex_move _) ?_
   simp only [pS, pN, pA, pC, pZ]
   refine do_ rfl (.int .i64 (((chgs (stateC cs k1) (stateC cs k2) ps).length : Nat) : Int)) (ex_len Try.underlying47 rfl) ?_
   simp only [pS, pN, pA, pC, pZ]
   by_cases hc185 : j < (chgs (stateC cs k1) (stateC cs k2) ps).length
   ·refine do_ rfl (.bool true) (ex_lss (m := ((j : Nat) : Int)) (n := (((chgs (stateC cs k1) (stateC cs k2) ps).length : Nat) : Int)) (b := true) rfl rfl (decide_eq_true (by omega))) ?_
    simp only [pS, pN, pA, pC, pZ]
    refine wl_nil (hK516 _ _ ?_)
    refine wp_cond_true rfl ?_
    refine wp_skip ?_
    refine hK515 _ _ ?_
    refine wp_seq_k (fun K517 hK517 => ?_)
    refine wp_block ?_
    refine wp_seq_k (fun K518 hK518 => ?_)
    refine wp_seq_k (fun K519 hK519 => ?_)
    obtain ⟨w, e, hw, he, hq⟩ := chg_at (a := (stateC cs k1)) (b := (stateC cs k2)) (ps := ps) (i := j) (by omega)
    have hmw := List.mem_of_getElem? hw
    have hwo : WrOk e := by rw [he]; exact hch.wr w hmw
    have hnw0 : e.name = w.name ∧ e.key = w.key ∧ e.gone = !(getF (stateC cs k2) w.name w.key).isSome ∧ e.value = (getF (stateC cs k2) w.name w.key).getD [] := by rw [he]; exact ⟨rfl, rfl, rfl, rfl⟩
    by_cases hge : e.gone = true
    ·obtain ⟨b520, o521, ha522, xa524, xc525, xa528, xc529, xa533, xc534, c523, c527, c531, c532, r526, r530, r535⟩ := Wrs.get (R124.mono (((le135.trans le147).trans le171).trans le513)) hq
     refine region_wl ?_
     refine do_ rfl (.slice a126 (chgs (stateC cs k1) (stateC cs k2) ps).length c127) (ex_move _) ?_
     simp only [pS, pN, pA, pC, pZ]
     refine do_ rfl (.int .i64 ((j : Nat) : Int)) (ex_move _) ?_
     simp only [pS, pN, pA, pC, pZ]
     refine do_ rfl (.pointer (some ⟨b520, o521 + j * 4, none⟩)) (ex_at (i := j) (sz := 4) Try.underlying47 (sizeof_27 _) rfl ha522 rfl (by omega) rfl) ?_
     simp only [pS, pN, pA, pC, pZ]
     refine do_ rfl (.pointer (some ⟨b520, o521 + j * 4 + 2, none⟩)) (ex_field (q := ⟨b520, o521 + j * 4 + 2, none⟩) rfl (fa_27_2 _ _)) ?_
     simp only [pS, pN, pA, pC, pZ]
     refine do_ rfl (.bool true) (ex_load rfl (load1 (nagg_4 _) (St.fz S512 (hge ▸ c531)))) ?_
     simp only [pS, pN, pA, pC, pZ]
     refine wl_nil (hK519 _ _ ?_)
     refine wp_cond_true rfl ?_
     refine wp_exit ?_
     refine hK517 _ _ ?_
     refine region_wl ?_
     refine do_ rfl (.int .i64 ((j : Nat) : Int)) (ex_move _) ?_
     simp only [pS, pN, pA, pC, pZ]
     refine do_ rfl (.int .i64 (((j + 1) : Nat) : Int)) (ex_add (m := ((j : Nat) : Int)) (n := (1 : Int)) (r := (((j + 1) : Nat) : Int)) rfl rfl (by omega) (by omega) (by omega)) ?_
     simp only [pS, pN, pA, pC, pZ]
     refine do_ rfl (.int .i64 (((j + 1) : Nat) : Int)) (ex_assign _) ?_
     simp only [pS, pN, pA, pC, pZ]
     refine wl_nil ?_
     exact hK514 _ _ _ (by omega) ⟨(j + 1), xx, xa2, xc2, F506, _, rfl, rfl, rfl, S512, le513, (by omega), (Mk2.skip hch hm2 hw (by rw [← he]; exact hge)), hfx2⟩
    ·have hge : e.gone = false := by simpa using hge
     obtain ⟨b536, o537, ha538, xa540, xc541, xa544, xc545, xa549, xc550, c539, c543, c547, c548, r542, r546, r551⟩ := Wrs.get (R124.mono (((le135.trans le147).trans le171).trans le513)) hq
     refine region_wl ?_
     refine do_ rfl (.slice a126 (chgs (stateC cs k1) (stateC cs k2) ps).length c127) (ex_move _) ?_
     simp only [pS, pN, pA, pC, pZ]
     refine do_ rfl (.int .i64 ((j : Nat) : Int)) (ex_move _) ?_
     simp only [pS, pN, pA, pC, pZ]
     refine do_ rfl (.pointer (some ⟨b536, o537 + j * 4, none⟩)) (ex_at (i := j) (sz := 4) Try.underlying47 (sizeof_27 _) rfl ha538 rfl (by omega) rfl) ?_
     simp only [pS, pN, pA, pC, pZ]
     refine do_ rfl (.pointer (some ⟨b536, o537 + j * 4 + 2, none⟩)) (ex_field (q := ⟨b536, o537 + j * 4 + 2, none⟩) rfl (fa_27_2 _ _)) ?_
     simp only [pS, pN, pA, pC, pZ]
     refine do_ rfl (.bool false) (ex_load rfl (load1 (nagg_4 _) (St.fz S512 (hge ▸ c547)))) ?_
     simp only [pS, pN, pA, pC, pZ]
     refine wl_nil (hK519 _ _ ?_)
     refine wp_cond_false rfl ?_
     refine wp_skip ?_
     refine hK518 _ _ ?_
     refine wp_seq_k (fun K552 hK552 => ?_)
     obtain ⟨y, hay, hmy⟩ := Mk2.step hch hm2 hw (by rw [← he]; exact hge)
     rw [← he] at hay
     refine region_wl ?_
     refine do_ rfl (.slice xa2 xx.length xc2) (ex_move _) ?_
     simp only [pS, pN, pA, pC, pZ]
     refine do_ rfl (.slice a126 (chgs (stateC cs k1) (stateC cs k2) ps).length c127) (ex_move _) ?_
     simp only [pS, pN, pA, pC, pZ]
     refine do_ rfl (.int .i64 ((j : Nat) : Int)) (ex_move _) ?_
     simp only [pS, pN, pA, pC, pZ]
     refine do_ rfl (.int .i64 ((j : Nat) : Int)) (ex_move _) ?_
     simp only [pS, pN, pA, pC, pZ]
     refine do_ rfl (.int .i64 (((j + 1) : Nat) : Int)) (ex_add (m := ((j : Nat) : Int)) (n := (1 : Int)) (r := (((j + 1) : Nat) : Int)) rfl rfl (by omega) (by omega) (by omega)) ?_
     simp only [pS, pN, pA, pC, pZ]
     refine do_ rfl (.slice (if c127 = j then a126 else a126.map (·.add (j * 4))) ((j + 1) - j) (c127 - j)) (ex_slice (l := j) (h := (j + 1)) (sz := 4) Try.underlying47 rfl (sizeof_27 _) (.inr ⟨_, rfl, rfl⟩) (.inr ⟨_, rfl, rfl⟩) (by omega) (by omega) (rfl)) ?_
     simp only [pS, pN, pA, pC, pZ]
     have r553 : Wrs F506 (.slice (if c127 = j then a126 else a126.map (·.add (j * 4))) ((j + 1) - j) (c127 - j)) (((chgs (stateC cs k1) (stateC cs k2) ps).take (j + 1)).drop j) := Sl.cut2 (by decide) (R124.mono (((le135.trans le147).trans le171).trans le513)) (by omega) (by omega)
     rw [one_at hq] at r553
     refine stGives S512 rfl (ex_fn (vs := #[(.slice xa2 xx.length xc2), (.slice (if c127 = j then a126 else a126.map (·.add (j * 4))) ((j + 1) - j) (c127 - j))]) (map2 rfl rfl) rfl (ent_17 _ _)) (apply_is (S512).sat hfx2 r553 (hm2.ok.mono (by omega)) (all_one hwo) (apply_one hwo hay)) ?_
     intro v559 w554 F556 S555 le557 R558
     obtain ⟨_, rfl, r562⟩ := R558
     obtain ⟨a560, c561, rfl, h563, h564⟩ := Sl.shape r562
     unfold maxLen at h564
     have h563 : y.length ≤ c561 := h563
     have r562 : Tns _ (.slice a560 y.length c561) y := r562
     simp only [pS, pN, pA, pC, pZ]
     refine do_ rfl (.tuple #[(.slice a560 y.length c561), (.int .i64 0)]) (ex_move _) ?_
     simp only [pS, pN, pA, pC, pZ]
     refine do_ rfl (.slice a560 y.length c561) (ex_extract rfl rfl) ?_
     simp only [pS, pN, pA, pC, pZ]
     refine do_ rfl (.int .i64 0) (ex_extract rfl rfl) ?_
     simp only [pS, pN, pA, pC, pZ]
     refine do_ rfl (.slice a560 y.length c561) (ex_assign _) ?_
     simp only [pS, pN, pA, pC, pZ]
     refine do_ rfl (.int .i64 0) (ex_assign _) ?_
     simp only [pS, pN, pA, pC, pZ]
     refine wl_nil (hK552 _ _ ?_)
     refine wp_seq_k (fun K565 hK565 => ?_)
     refine wp_seq_k (fun K566 hK566 => region_wl ?_)
     refine do_ rfl (.int .i64 0) (ex_move _) ?_
     simp only [pS, pN, pA, pC, pZ]
     refine do_ rfl (.bool false) (ex_neq (b := false) rfl rfl (by decide)) ?_
     simp only [pS, pN, pA, pC, pZ]
     refine wl_nil (hK566 _ _ ?_)
     refine wp_cond_false rfl ?_
     refine wp_skip ?_
     refine hK565 _ _ ?_
     refine region_wl ?_
     refine do_ rfl (.slice a560 y.length c561) (ex_move _) ?_
     simp only [pS, pN, pA, pC, pZ]
     refine do_ rfl (.slice a560 y.length c561) (ex_assign _) ?_
     simp only [pS, pN, pA, pC, pZ]
     refine wl_nil (hK517 _ _ ?_)
     refine region_wl ?_
     refine do_ rfl (.int .i64 ((j : Nat) : Int)) (ex_move _) ?_
     simp only [pS, pN, pA, pC, pZ]
     refine do_ rfl (.int .i64 (((j + 1) : Nat) : Int)) (ex_add (m := ((j : Nat) : Int)) (n := (1 : Int)) (r := (((j + 1) : Nat) : Int)) rfl rfl (by omega) (by omega) (by omega)) ?_
     simp only [pS, pN, pA, pC, pZ]
     refine do_ rfl (.int .i64 (((j + 1) : Nat) : Int)) (ex_assign _) ?_
     simp only [pS, pN, pA, pC, pZ]
     refine wl_nil ?_
     exact hK514 _ _ _ (by omega) ⟨(j + 1), y, a560, c561, F556, _, rfl, rfl, rfl, S555, (le513.trans le557), (by omega), hmy, r562⟩
   ·refine do_ rfl (.bool false) (ex_lss (m := ((j : Nat) : Int)) (n := (((chgs (stateC cs k1) (stateC cs k2) ps).length : Nat) : Int)) (b := false) rfl rfl (decide_eq_false (by omega))) ?_
    simp only [pS, pN, pA, pC, pZ]
    refine wl_nil (hK516 _ _ ?_)
    refine wp_cond_false rfl ?_
    refine wp_exit ?_
    refine hK504 _ _ ?_
    refine wp_seq_k (fun K567 hK567 => ?_)
    have hjl : j = (difP (stateC cs k1) (stateC cs k2) ps).length := by rw [← chg_len]; omega
    rw [hjl] at hm2
    have hxb := Mk2.end hch hm2
    refine region_wl ?_
    refine do_ rfl (.slice xa2 xx.length xc2) (ex_move _) ?_
    simp only [pS, pN, pA, pC, pZ]
    refine do_ rfl (.slice a150 (stateC cs k2).length c151) (ex_move _) ?_
    simp only [pS, pN, pA, pC, pZ]
    refine stTells (v := (.bool true)) S512 rfl (ex_fn (vs := #[(.slice xa2 xx.length xc2), (.slice a150 (stateC cs k2).length c151)]) (map2 rfl rfl) rfl (ent_18 _ _)) (tells_bool (sameForest_spec _ _ _ _ xx (stateC cs k2) (S512).sat hfx2 (r152.mono (le171.trans le513)) (by have := ForestOk.len hm2.ok; omega) (fun t ht => by have := (ForestOk.tree hm2.ok t ht).len; omega)) (decide_eq_true hxb)) (fun w568 S569 => ?_)
    simp only [pS, pN, pA, pC, pZ]
    refine do_ rfl (.bool true) (ex_move _) ?_
    simp only [pS, pN, pA, pC, pZ]
    refine do_ rfl (.slice a0 l0.length c0) (ex_move _) ?_
    simp only [pS, pN, pA, pC, pZ]
    refine do_ rfl (.int .i64 ((l0.length : Nat) : Int)) (ex_len Try.underlying22 rfl) ?_
    simp only [pS, pN, pA, pC, pZ]
    by_cases hc212 : l0.length = 0
    ·refine do_ rfl (.bool true) (ex_eql (m := ((l0.length : Nat) : Int)) (n := (0 : Int)) (b := true) rfl rfl (beq_iff_eq.2 (by omega))) ?_
     simp only [pS, pN, pA, pC, pZ]
     refine do_ rfl (.bool true) (ex_move _) ?_
     simp only [pS, pN, pA, pC, pZ]
     refine doN (wanted_no rfl rfl rfl (c := true) rfl (by decide)) ?_
     simp only [pS, pN, pA, pC, pZ]
     refine do_ rfl (.bool true) (ex_pick (b := true) rfl) ?_
     simp only [pS, pN, pA, pC, pZ]
     refine do_ rfl (.bool true) (ex_pick (b := true) rfl) ?_
     simp only [pS, pN, pA, pC, pZ]
     refine do_ rfl (.bool true) (ex_assign _) ?_
     simp only [pS, pN, pA, pC, pZ]
     refine wl_nil (hK567 _ _ ?_)
     refine wp_ret ?_
     (try simp only [Exit.then, Exit.inBlock, ↓reduceIte, Nat.reduceEqDiff])
     refine bodyPost_ret (v := (.bool true)) ?_ rfl ?_
     ·exact res_t rfl rfl
     ·exact ⟨rfl, S569.gr.below⟩
    ·refine do_ rfl (.bool false) (ex_eql (m := ((l0.length : Nat) : Int)) (n := (0 : Int)) (b := false) rfl rfl (beq_eq_false_iff_ne.2 (by omega))) ?_
     simp only [pS, pN, pA, pC, pZ]
     refine do_ rfl (.bool false) (ex_move _) ?_
     simp only [pS, pN, pA, pC, pZ]
     refine stTells (v := (.bool true)) S569 rfl (ex_fn (vs := #[(.int .i64 1), (.int .i64 0)]) (map2 rfl rfl) rfl (ent_19 _ _)) (kept10_spec _ _ (S569).sat) (fun w570 S571 => ?_)
     simp only [pS, pN, pA, pC, pZ]
     refine do_ rfl (.bool true) (ex_pick (b := false) rfl) ?_
     simp only [pS, pN, pA, pC, pZ]
     refine do_ rfl (.bool true) (ex_pick (b := true) rfl) ?_
     simp only [pS, pN, pA, pC, pZ]
     refine do_ rfl (.bool true) (ex_assign _) ?_
     simp only [pS, pN, pA, pC, pZ]
     refine wl_nil (hK567 _ _ ?_)
     refine wp_ret ?_
     (try simp only [Exit.then, Exit.inBlock, ↓reduceIte, Nat.reduceEqDiff])
     refine bodyPost_ret (v := (.bool true)) ?_ rfl ?_
     ·exact res_t rfl rfl
     ·exact ⟨rfl, S571.gr.below⟩
 refine wp_seq_k (fun K572 hK572 => ?_)
 by_cases hkk : k1 = k2
 ·have hl0 : (chgs (stateC cs k1) (stateC cs k2) ps).length = 0 := by rw [hkk]; unfold chgs; rw [difP_self]; rfl
  refine region_wl ?_
  refine do_ rfl (.int .i64 0) (ex_move _) ?_
  simp only [pS, pN, pA, pC, pZ]
  refine do_ rfl (.bool false) (ex_neq (b := false) rfl rfl (by decide)) ?_
  simp only [pS, pN, pA, pC, pZ]
  refine do_ rfl (.bool false) (ex_move _) ?_
  simp only [pS, pN, pA, pC, pZ]
  refine do_ rfl (.int .i64 0) (ex_move _) ?_
  simp only [pS, pN, pA, pC, pZ]
  refine do_ rfl (.bool false) (ex_neq (b := false) rfl rfl (by decide)) ?_
  simp only [pS, pN, pA, pC, pZ]
  refine do_ rfl (.bool false) (ex_pick (b := false) rfl) ?_
  simp only [pS, pN, pA, pC, pZ]
  refine do_ rfl (.bool false) (ex_move _) ?_
  simp only [pS, pN, pA, pC, pZ]
  refine do_ rfl (.int .i64 0) (ex_move _) ?_
  simp only [pS, pN, pA, pC, pZ]
  refine do_ rfl (.bool false) (ex_neq (b := false) rfl rfl (by decide)) ?_
  simp only [pS, pN, pA, pC, pZ]
  refine do_ rfl (.bool false) (ex_pick (b := false) rfl) ?_
  simp only [pS, pN, pA, pC, pZ]
  refine do_ rfl (.bool false) (ex_move _) ?_
  simp only [pS, pN, pA, pC, pZ]
  refine do_ rfl (.int .i64 ((k1 : Nat) : Int)) (ex_move _) ?_
  simp only [pS, pN, pA, pC, pZ]
  refine do_ rfl (.int .i64 ((k2 : Nat) : Int)) (ex_move _) ?_
  simp only [pS, pN, pA, pC, pZ]
  refine do_ rfl (.bool true) (ex_eql (m := ((k1 : Nat) : Int)) (n := ((k2 : Nat) : Int)) (b := true) rfl rfl (beq_iff_eq.2 (by omega))) ?_
  simp only [pS, pN, pA, pC, pZ]
  refine do_ rfl (.bool true) (ex_move _) ?_
  simp only [pS, pN, pA, pC, pZ]
  refine do_ rfl (.slice a126 (chgs (stateC cs k1) (stateC cs k2) ps).length c127) (ex_move _) ?_
  simp only [pS, pN, pA, pC, pZ]
  refine do_ rfl (.int .i64 (((chgs (stateC cs k1) (stateC cs k2) ps).length : Nat) : Int)) (ex_len Try.underlying47 rfl) ?_
  simp only [pS, pN, pA, pC, pZ]
  refine do_ rfl (.bool false) (ex_gtr (m := (((chgs (stateC cs k1) (stateC cs k2) ps).length : Nat) : Int)) (n := (0 : Int)) (b := false) rfl rfl (decide_eq_false (by omega))) ?_
  simp only [pS, pN, pA, pC, pZ]
  refine do_ rfl (.bool false) (ex_pick (b := true) rfl) ?_
  simp only [pS, pN, pA, pC, pZ]
  refine do_ rfl (.bool false) (ex_pick (b := false) rfl) ?_
  simp only [pS, pN, pA, pC, pZ]
  refine wl_nil (hK572 _ _ ?_)
  refine wp_cond_false rfl ?_
  refine wp_skip ?_
  exact hJ161 _ _ ⟨_, rfl, rfl, S145⟩
 ·refine region_wl ?_
  refine do_ rfl (.int .i64 0) (ex_move _) ?_
  simp only [pS, pN, pA, pC, pZ]
  refine do_ rfl (.bool false) (ex_neq (b := false) rfl rfl (by decide)) ?_
  simp only [pS, pN, pA, pC, pZ]
  refine do_ rfl (.bool false) (ex_move _) ?_
  simp only [pS, pN, pA, pC, pZ]
  refine do_ rfl (.int .i64 0) (ex_move _) ?_
  simp only [pS, pN, pA, pC, pZ]
  refine do_ rfl (.bool false) (ex_neq (b := false) rfl rfl (by decide)) ?_
  simp only [pS, pN, pA, pC, pZ]
  refine do_ rfl (.bool false) (ex_pick (b := false) rfl) ?_
  simp only [pS, pN, pA, pC, pZ]
  refine do_ rfl (.bool false) (ex_move _) ?_
  simp only [pS, pN, pA, pC, pZ]
  refine do_ rfl (.int .i64 0) (ex_move _) ?_
  simp only [pS, pN, pA, pC, pZ]
  refine do_ rfl (.bool false) (ex_neq (b := false) rfl rfl (by decide)) ?_
  simp only [pS, pN, pA, pC, pZ]
  refine do_ rfl (.bool false) (ex_pick (b := false) rfl) ?_
  simp only [pS, pN, pA, pC, pZ]
  refine do_ rfl (.bool false) (ex_move _) ?_
  simp only [pS, pN, pA, pC, pZ]
  refine do_ rfl (.int .i64 ((k1 : Nat) : Int)) (ex_move _) ?_
  simp only [pS, pN, pA, pC, pZ]
  refine do_ rfl (.int .i64 ((k2 : Nat) : Int)) (ex_move _) ?_
  simp only [pS, pN, pA, pC, pZ]
  refine do_ rfl (.bool false) (ex_eql (m := ((k1 : Nat) : Int)) (n := ((k2 : Nat) : Int)) (b := false) rfl rfl (beq_eq_false_iff_ne.2 (by omega))) ?_
  simp only [pS, pN, pA, pC, pZ]
  refine do_ rfl (.bool false) (ex_move _) ?_
  simp only [pS, pN, pA, pC, pZ]
  refine doN (wanted_no rfl rfl rfl (c := false) rfl (by decide)) ?_
  simp only [pS, pN, pA, pC, pZ]
  refine doN (wanted_no rfl rfl rfl (c := false) rfl (by decide)) ?_
  simp only [pS, pN, pA, pC, pZ]
  refine doN (wanted_no rfl rfl rfl (c := false) rfl (by decide)) ?_
  simp only [pS, pN, pA, pC, pZ]
  refine do_ rfl (.bool false) (ex_pick (b := false) rfl) ?_
  simp only [pS, pN, pA, pC, pZ]
  refine do_ rfl (.bool false) (ex_pick (b := false) rfl) ?_
  simp only [pS, pN, pA, pC, pZ]
  refine wl_nil (hK572 _ _ ?_)
  refine wp_cond_false rfl ?_
  refine wp_skip ?_
  exact hJ161 _ _ ⟨_, rfl, rfl, S145⟩
end Go.Proofs.Ytlimmmidfhpakaa
