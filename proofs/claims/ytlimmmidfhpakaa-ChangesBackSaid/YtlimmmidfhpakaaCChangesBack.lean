/- The walk of ChangesBack -/
import Derived.Test.YtlimmmidfhpakaaGA8
import Derived.Test.YtlimmmidfhpakaaGA6
namespace Go.Proofs.Ytlimmmidfhpakaa
open Go.RowKit
set_option maxRecDepth 100000
set_option linter.unusedVariables false
set_option linter.unusedSimpArgs false
set_option maxHeartbeats 8000000 in
theorem changesBack_walk (W : World) (v0 : Value) (l0 : List Pl) (z0 : Pls (whole W) v0 l0) (x1 : Int) (b1 : -9223372036854775808 ≤ x1) (b1' : x1 ≤ 9223372036854775807) (x2 : Int) (b2 : -9223372036854775808 ≤ x2) (b2' : x2 ≤ 9223372036854775807) :
    Calls Try.prog 4 #[v0, .int .i64 x1, .int .i64 x2] W (Tells W (.bool true)) := by
 obtain ⟨a0, c0, rfl, q0, q0'⟩ := Sl.shape z0
 unfold maxLen at q0'
 have S := St.start (Sat.whole W)
 go_enter Try.func4, Try.ntmps4
 refine wp_seq_k (fun K101 hK101 => region_wl ?_)
 refine do_ rfl (.bool false) (ex_assign _) ?_
 simp only [pS, pN, pA, pC, pZ]
 refine wl_nil (hK101 _ _ ?_)
 refine wp_seq_k (fun K102 hK102 => region_wl ?_)
 refine do_ rfl (.slice a0 l0.length c0) (ex_move _) ?_
 simp only [pS, pN, pA, pC, pZ]
 refine stGives S rfl (ex_fn (vs := #[(.slice a0 l0.length c0), (.int .i64 16)]) (map2 rfl rfl) rfl (ent_11 _ _)) (commits_spec _ _ _ l0 16 (S).sat z0 (by omega)) ?_
 intro v108 w103 F105 S104 le106 R107
 obtain ⟨cs, R107, hh, hcl⟩ := R107
 obtain ⟨a109, c110, rfl, h111, h112⟩ := Sl.shape R107
 unfold maxLen at h112
 simp only [pS, pN, pA, pC, pZ]
 refine do_ rfl (.slice a109 cs.length c110) (ex_assign _) ?_
 simp only [pS, pN, pA, pC, pZ]
 refine wl_nil (hK102 _ _ ?_)
 refine wp_seq_k (fun K113 hK113 => ?_)
 obtain ⟨hpa1, hpb1⟩ := pick_bd x1 ((cs.length + 1 : Nat) : Int) (by omega)
 obtain ⟨k1, hk1⟩ : ∃ kn : Nat, pick x1 ((cs.length + 1 : Nat) : Int) = (kn : Int) := ⟨(pick x1 ((cs.length + 1 : Nat) : Int)).toNat, (Int.toNat_of_nonneg hpa1).symm⟩
 have hkb1 : k1 ≤ cs.length := by omega
 refine region_wl ?_
 refine do_ rfl (.int .i64 x1) (ex_move _) ?_
 simp only [pS, pN, pA, pC, pZ]
 refine do_ rfl (.slice a109 cs.length c110) (ex_move _) ?_
 simp only [pS, pN, pA, pC, pZ]
 refine do_ rfl (.int .i64 ((cs.length : Nat) : Int)) (ex_len Try.underlying44 rfl) ?_
 simp only [pS, pN, pA, pC, pZ]
 refine do_ rfl (.int .i64 (((cs.length + 1) : Nat) : Int)) (ex_add (m := ((cs.length : Nat) : Int)) (n := (1 : Int)) (r := (((cs.length + 1) : Nat) : Int)) rfl rfl (by omega) (by omega) (by omega)) ?_
 simp only [pS, pN, pA, pC, pZ]
 refine stTells (v := (.int .i64 ((k1 : Nat) : Int))) S104 rfl (ex_fn (vs := #[(.int .i64 x1), (.int .i64 (((cs.length + 1) : Nat) : Int))]) (map2 rfl rfl) rfl (ent_12 _ _)) (hk1 ▸ tells_same (picked_spec x1 (((cs.length + 1) : Nat) : Int) _ b1 b1' (by omega) (by omega))) (fun w114 S115 => ?_)
 simp only [pS, pN, pA, pC, pZ]
 refine do_ rfl (.int .i64 ((k1 : Nat) : Int)) (ex_assign _) ?_
 simp only [pS, pN, pA, pC, pZ]
 refine wl_nil (hK113 _ _ ?_)
 refine wp_seq_k (fun K116 hK116 => ?_)
 obtain ⟨hpa2, hpb2⟩ := pick_bd x2 ((cs.length + 1 : Nat) : Int) (by omega)
 obtain ⟨k2, hk2⟩ : ∃ kn : Nat, pick x2 ((cs.length + 1 : Nat) : Int) = (kn : Int) := ⟨(pick x2 ((cs.length + 1 : Nat) : Int)).toNat, (Int.toNat_of_nonneg hpa2).symm⟩
 have hkb2 : k2 ≤ cs.length := by omega
 refine region_wl ?_
 refine do_ rfl (.int .i64 x2) (ex_move _) ?_
 simp only [pS, pN, pA, pC, pZ]
 refine do_ rfl (.slice a109 cs.length c110) (ex_move _) ?_
 simp only [pS, pN, pA, pC, pZ]
 refine do_ rfl (.int .i64 ((cs.length : Nat) : Int)) (ex_len Try.underlying44 rfl) ?_
 simp only [pS, pN, pA, pC, pZ]
 refine do_ rfl (.int .i64 (((cs.length + 1) : Nat) : Int)) (ex_add (m := ((cs.length : Nat) : Int)) (n := (1 : Int)) (r := (((cs.length + 1) : Nat) : Int)) rfl rfl (by omega) (by omega) (by omega)) ?_
 simp only [pS, pN, pA, pC, pZ]
 refine stTells (v := (.int .i64 ((k2 : Nat) : Int))) S115 rfl (ex_fn (vs := #[(.int .i64 x2), (.int .i64 (((cs.length + 1) : Nat) : Int))]) (map2 rfl rfl) rfl (ent_12 _ _)) (hk2 ▸ tells_same (picked_spec x2 (((cs.length + 1) : Nat) : Int) _ b2 b2' (by omega) (by omega))) (fun w117 S118 => ?_)
 simp only [pS, pN, pA, pC, pZ]
 refine do_ rfl (.int .i64 ((k2 : Nat) : Int)) (ex_assign _) ?_
 simp only [pS, pN, pA, pC, pZ]
 refine wl_nil (hK116 _ _ ?_)
 refine wp_seq_k (fun K119 hK119 => region_wl ?_)
 refine do_ rfl (.slice a109 cs.length c110) (ex_move _) ?_
 simp only [pS, pN, pA, pC, pZ]
 refine do_ rfl (.int .i64 ((k1 : Nat) : Int)) (ex_move _) ?_
 simp only [pS, pN, pA, pC, pZ]
 refine do_ rfl (.int .i64 ((k2 : Nat) : Int)) (ex_move _) ?_
 simp only [pS, pN, pA, pC, pZ]
 refine stGives S118 rfl (ex_fn (vs := #[(.slice a109 cs.length c110), (.int .i64 ((k1 : Nat) : Int)), (.int .i64 ((k2 : Nat) : Int))]) (map3 rfl rfl rfl) rfl (ent_13 _ _)) (changes_spec _ _ _ cs k1 k2 (S118).sat R107 hh (by omega) (by omega) (by omega) (by omega)) ?_
 intro v125 w120 F122 S121 le123 R124
 obtain ⟨ps, _, hp128, rfl, R124⟩ := R124
 obtain ⟨a126, c127, rfl, h129, h130⟩ := Sl.shape R124
 unfold maxLen at h130
 have R124 : Wrs _ (.slice a126 (chgs (stateC cs k1) (stateC cs k2) ps).length c127) (chgs (stateC cs k1) (stateC cs k2) ps) := R124
 simp only [pS, pN, pA, pC, pZ]
 refine do_ rfl (.tuple #[(.slice a126 (chgs (stateC cs k1) (stateC cs k2) ps).length c127), (.int .i64 0)]) (ex_move _) ?_
 simp only [pS, pN, pA, pC, pZ]
 refine do_ rfl (.slice a126 (chgs (stateC cs k1) (stateC cs k2) ps).length c127) (ex_extract rfl rfl) ?_
 simp only [pS, pN, pA, pC, pZ]
 refine do_ rfl (.int .i64 0) (ex_extract rfl rfl) ?_
 simp only [pS, pN, pA, pC, pZ]
 refine do_ rfl (.slice a126 (chgs (stateC cs k1) (stateC cs k2) ps).length c127) (ex_assign _) ?_
 simp only [pS, pN, pA, pC, pZ]
 refine do_ rfl (.int .i64 0) (ex_assign _) ?_
 simp only [pS, pN, pA, pC, pZ]
 refine wl_nil (hK119 _ _ ?_)
 refine wp_seq_k (fun K131 hK131 => region_wl ?_)
 refine do_ rfl (.slice a109 cs.length c110) (ex_move _) ?_
 simp only [pS, pN, pA, pC, pZ]
 refine do_ rfl (.int .i64 ((k2 : Nat) : Int)) (ex_move _) ?_
 simp only [pS, pN, pA, pC, pZ]
 refine do_ rfl (.int .i64 ((k1 : Nat) : Int)) (ex_move _) ?_
 simp only [pS, pN, pA, pC, pZ]
 refine stGives S121 rfl (ex_fn (vs := #[(.slice a109 cs.length c110), (.int .i64 ((k2 : Nat) : Int)), (.int .i64 ((k1 : Nat) : Int))]) (map3 rfl rfl rfl) rfl (ent_13 _ _)) (changes_spec _ _ _ cs k2 k1 (S121).sat (R107.mono le123) hh (by omega) (by omega) (by omega) (by omega)) ?_
 intro v137 w132 F134 S133 le135 R136
 obtain ⟨pz, _, hp140, rfl, R136⟩ := R136
 have hz := IsPl.comm hp128 hp140
 rw [hz] at hp140 R136
 obtain ⟨a138, c139, rfl, h141, h142⟩ := Sl.shape R136
 unfold maxLen at h142
 have R136 : Wrs _ (.slice a138 (chgs (stateC cs k2) (stateC cs k1) ps).length c139) (chgs (stateC cs k2) (stateC cs k1) ps) := R136
 simp only [pS, pN, pA, pC, pZ]
 refine do_ rfl (.tuple #[(.slice a138 (chgs (stateC cs k2) (stateC cs k1) ps).length c139), (.int .i64 0)]) (ex_move _) ?_
 simp only [pS, pN, pA, pC, pZ]
 refine do_ rfl (.slice a138 (chgs (stateC cs k2) (stateC cs k1) ps).length c139) (ex_extract rfl rfl) ?_
 simp only [pS, pN, pA, pC, pZ]
 refine do_ rfl (.int .i64 0) (ex_extract rfl rfl) ?_
 simp only [pS, pN, pA, pC, pZ]
 refine do_ rfl (.slice a138 (chgs (stateC cs k2) (stateC cs k1) ps).length c139) (ex_assign _) ?_
 simp only [pS, pN, pA, pC, pZ]
 refine do_ rfl (.int .i64 0) (ex_assign _) ?_
 simp only [pS, pN, pA, pC, pZ]
 refine wl_nil (hK131 _ _ ?_)
 refine wp_seq_k (fun K143 hK143 => ?_)
 refine wp_seq_k (fun K144 hK144 => region_wl ?_)
 refine do_ rfl (.int .i64 0) (ex_move _) ?_
 simp only [pS, pN, pA, pC, pZ]
 refine do_ rfl (.bool false) (ex_neq (b := false) rfl rfl (by decide)) ?_
 simp only [pS, pN, pA, pC, pZ]
 refine do_ rfl (.bool false) (ex_move _) ?_
 simp only [pS, pN, pA, pC, pZ]
 refine do_ rfl (.int .i64 0) (ex_move _) ?_
 simp only [pS, pN, pA, pC, pZ]
 refine do_ rfl (.bool false) (ex_neq (b := false) rfl rfl (by decide)) ?_
 simp only [pS, pN, pA, pC, pZ]
 refine do_ rfl (.bool false) (ex_pick (b := false) rfl) ?_
 simp only [pS, pN, pA, pC, pZ]
 refine do_ rfl (.bool false) (ex_move _) ?_
 simp only [pS, pN, pA, pC, pZ]
 refine do_ rfl (.slice a126 (chgs (stateC cs k1) (stateC cs k2) ps).length c127) (ex_move _) ?_
 simp only [pS, pN, pA, pC, pZ]
 refine do_ rfl (.int .i64 (((chgs (stateC cs k1) (stateC cs k2) ps).length : Nat) : Int)) (ex_len Try.underlying47 rfl) ?_
 simp only [pS, pN, pA, pC, pZ]
 refine do_ rfl (.slice a138 (chgs (stateC cs k2) (stateC cs k1) ps).length c139) (ex_move _) ?_
 simp only [pS, pN, pA, pC, pZ]
 refine do_ rfl (.int .i64 (((chgs (stateC cs k2) (stateC cs k1) ps).length : Nat) : Int)) (ex_len Try.underlying47 rfl) ?_
 simp only [pS, pN, pA, pC, pZ]
 refine do_ rfl (.bool false) (ex_neq (m := (((chgs (stateC cs k1) (stateC cs k2) ps).length : Nat) : Int)) (n := (((chgs (stateC cs k2) (stateC cs k1) ps).length : Nat) : Int)) (b := false) rfl rfl (bne_eq_false_iff_eq.2 (congrArg (fun n : Nat => (n : Int)) (chgs_lenc (stateC cs k1) (stateC cs k2) ps)))) ?_
 simp only [pS, pN, pA, pC, pZ]
 refine do_ rfl (.bool false) (ex_pick (b := false) rfl) ?_
 simp only [pS, pN, pA, pC, pZ]
 refine wl_nil (hK144 _ _ ?_)
 refine wp_cond_false rfl ?_
 refine wp_skip ?_
 refine hK143 _ _ ?_
 refine wp_seq_k (fun K145 hK145 => ?_)
 refine wp_seq_k (fun K146 hK146 => region_wl ?_)
 refine do_ rfl (.int .i64 0) (ex_assign _) ?_
 simp only [pS, pN, pA, pC, pZ]
 refine wl_nil (hK146 _ _ ?_)
 refine wp_block ?_
 refine wp_loop_g (fun mm aa w149 => ∃ (i : Nat) (F147 : Fz) (u148 : Nat → Value), mm = (chgs (stateC cs k1) (stateC cs k2) ps).length - i ∧ u148 = slots aa ∧ aa = ⟨#[(.slice a0 l0.length c0), (.int .i64 x1), (.int .i64 x2), undef, undef, undef, (u148 6), (.slice a109 cs.length c110), (.int .i64 ((k1 : Nat) : Int)), (.int .i64 ((k2 : Nat) : Int)), (.slice a126 (chgs (stateC cs k1) (stateC cs k2) ps).length c127), (.int .i64 0), (.slice a138 (chgs (stateC cs k2) (stateC cs k1) ps).length c139), (.int .i64 0), (.int .i64 ((i : Nat) : Int)), undef, undef, (.slice a0 l0.length c0), (.slice a109 cs.length c110), (.int .i64 x1), (.slice a109 cs.length c110), (.int .i64 ((cs.length : Nat) : Int)), (.int .i64 (((cs.length + 1) : Nat) : Int)), (.int .i64 ((k1 : Nat) : Int)), (.int .i64 x2), (.slice a109 cs.length c110), (.int .i64 ((cs.length : Nat) : Int)), (.int .i64 (((cs.length + 1) : Nat) : Int)), (.int .i64 ((k2 : Nat) : Int)), (.tuple #[(.slice a126 (chgs (stateC cs k1) (stateC cs k2) ps).length c127), (.int .i64 0)]), (.slice a109 cs.length c110), (.int .i64 ((k1 : Nat) : Int)), (.int .i64 ((k2 : Nat) : Int)), (.tuple #[(.slice a126 (chgs (stateC cs k1) (stateC cs k2) ps).length c127), (.int .i64 0)]), (.slice a126 (chgs (stateC cs k1) (stateC cs k2) ps).length c127), (.int .i64 0), (.tuple #[(.slice a138 (chgs (stateC cs k2) (stateC cs k1) ps).length c139), (.int .i64 0)]), (.slice a109 cs.length c110), (.int .i64 ((k2 : Nat) : Int)), (.int .i64 ((k1 : Nat) : Int)), (.tuple #[(.slice a138 (chgs (stateC cs k2) (stateC cs k1) ps).length c139), (.int .i64 0)]), (.slice a138 (chgs (stateC cs k2) (stateC cs k1) ps).length c139), (.int .i64 0), (.int .i64 0), (.bool false), (.bool false), (.int .i64 0), (.bool false), (.bool false), (.bool false), (.slice a126 (chgs (stateC cs k1) (stateC cs k2) ps).length c127), (.int .i64 (((chgs (stateC cs k1) (stateC cs k2) ps).length : Nat) : Int)), (.slice a138 (chgs (stateC cs k2) (stateC cs k1) ps).length c139), (.int .i64 (((chgs (stateC cs k2) (stateC cs k1) ps).length : Nat) : Int)), (.bool false), (.bool false), (u148 56), (u148 57), (u148 58), (u148 59), (u148 60), (u148 61), (u148 62), (u148 63), (u148 64), (u148 65), (u148 66), (u148 67), (u148 68), (u148 69), (u148 70), (u148 71), (u148 72), (u148 73), (u148 74), (u148 75), (u148 76), (u148 77), (u148 78), (u148 79), (u148 80), (u148 81), (u148 82), (u148 83), (u148 84), (u148 85), (u148 86), (u148 87), (u148 88), (u148 89), (u148 90), (u148 91), (u148 92), (u148 93), (u148 94), (u148 95), (u148 96), (u148 97), (u148 98), (u148 99), (u148 100), (u148 101), undef, undef, undef, undef, undef, undef, undef, undef, undef, undef], []⟩ ∧ St W (whole W) w149 F147 [] [] ∧ Le F134 F147 ∧ (i ≤ (chgs (stateC cs k1) (stateC cs k2) ps).length)) _ ⟨0, F134, _, rfl, rfl, rfl, S133, Le.refl _, (by omega)⟩ ?_
 rintro m150 a151 w152 ⟨i, F147, u148, rfl, -, rfl, S153, le154, hi⟩ K155 hK155
 refine wp_seq_k (fun K156 hK156 => ?_)
 refine wp_seq_k (fun K157 hK157 => region_wl ?_)
 refine do_ rfl (.int .i64 ((i : Nat) : Int)) (ex_move _) ?_
 simp only [pS, pN, pA, pC, pZ]
 refine do_ rfl (.slice a126 (chgs (stateC cs k1) (stateC cs k2) ps).length c127) (ex_move _) ?_
 simp only [pS, pN, pA, pC, pZ]
 refine do_ rfl (.int .i64 (((chgs (stateC cs k1) (stateC cs k2) ps).length : Nat) : Int)) (ex_len Try.underlying47 rfl) ?_
 simp only [pS, pN, pA, pC, pZ]
 by_cases hc59 : i < (chgs (stateC cs k1) (stateC cs k2) ps).length
 ·refine do_ rfl (.bool true) (ex_lss (m := ((i : Nat) : Int)) (n := (((chgs (stateC cs k1) (stateC cs k2) ps).length : Nat) : Int)) (b := true) rfl rfl (decide_eq_true (by omega))) ?_
  simp only [pS, pN, pA, pC, pZ]
  refine wl_nil (hK157 _ _ ?_)
  refine wp_cond_true rfl ?_
  refine wp_skip ?_
  refine hK156 _ _ ?_
  refine wp_seq_k (fun K158 hK158 => ?_)
  refine wp_block ?_
  refine wp_seq_k (fun K159 hK159 => ?_)
  have hlc := chgs_lenc (stateC cs k1) (stateC cs k2) ps
  obtain ⟨e1, e2, hq1, hq2, hn, hk, hg⟩ := chg_pair hp128 hc59
  obtain ⟨b160, o161, ha162, xa164, xc165, xa168, xc169, xa173, xc174, c163, c167, c171, c172, r166, r170, r175⟩ := Wrs.get (R124.mono (le135.trans le154)) hq1
  obtain ⟨b176, o177, ha178, xa180, xc181, xa184, xc185, xa189, xc190, c179, c183, c187, c188, r182, r186, r191⟩ := Wrs.get (R136.mono le154) hq2
  by_cases hg1 : e1.gone = true
  ·have hg2 : e2.gone = false := by cases h : e2.gone with | false => rfl | true => exact absurd ⟨hg1, h⟩ hg
   refine region_gw F147 35 [(10, .is (.bool true)), (23, .is (.bool true))] (by kernel_rfl) (by kernel_rfl) ?_
   simp only [List.take_succ_cons, List.take_zero]
   refine gw_pure rfl rfl (.slice a126 (chgs (stateC cs k1) (stateC cs k2) ps).length c127) (fun w192 hCw192 => pureAt_of (ex_move _)) ?_
   simp only [pS, pN, pA, pC, pZ]
   refine gw_pure rfl rfl (.int .i64 ((i : Nat) : Int)) (fun w192 hCw192 => pureAt_of (ex_move _)) ?_
   simp only [pS, pN, pA, pC, pZ]
   refine gw_pure rfl rfl (.pointer (some ⟨b160, o161 + i * 4, none⟩)) (fun w192 hCw192 => pureAt_of (ex_at (i := i) (sz := 4) Try.underlying47 (sizeof_27 _) rfl ha162 rfl (by omega) rfl)) ?_
   simp only [pS, pN, pA, pC, pZ]
   refine gw_pure rfl rfl (.pointer (some ⟨b160, o161 + i * 4, none⟩)) (fun w192 hCw192 => pureAt_of (ex_field (q := ⟨b160, o161 + i * 4, none⟩) rfl (fa_27_0 _ _))) ?_
   simp only [pS, pN, pA, pC, pZ]
   refine gw_pure rfl rfl (.slice xa164 e1.name.length xc165) (fun w192 hCw192 => pureAt_of (ex_load rfl (load1 (nagg_25 _) (St.fz (St.tells S153 hCw192) c163)))) ?_
   simp only [pS, pN, pA, pC, pZ]
   refine gw_pure rfl rfl (.slice a138 (chgs (stateC cs k2) (stateC cs k1) ps).length c139) (fun w192 hCw192 => pureAt_of (ex_move _)) ?_
   simp only [pS, pN, pA, pC, pZ]
   refine gw_pure rfl rfl (.int .i64 ((i : Nat) : Int)) (fun w192 hCw192 => pureAt_of (ex_move _)) ?_
   simp only [pS, pN, pA, pC, pZ]
   refine gw_pure rfl rfl (.pointer (some ⟨b176, o177 + i * 4, none⟩)) (fun w192 hCw192 => pureAt_of (ex_at (i := i) (sz := 4) Try.underlying47 (sizeof_27 _) rfl ha178 rfl (by omega) rfl)) ?_
   simp only [pS, pN, pA, pC, pZ]
   refine gw_pure rfl rfl (.pointer (some ⟨b176, o177 + i * 4, none⟩)) (fun w192 hCw192 => pureAt_of (ex_field (q := ⟨b176, o177 + i * 4, none⟩) rfl (fa_27_0 _ _))) ?_
   simp only [pS, pN, pA, pC, pZ]
   refine gw_pure rfl rfl (.slice xa180 e2.name.length xc181) (fun w192 hCw192 => pureAt_of (ex_load rfl (load1 (nagg_25 _) (St.fz (St.tells S153 hCw192) c179)))) ?_
   simp only [pS, pN, pA, pC, pZ]
   refine gw_const rfl rfl (v := (.bool true)) (fun w192 hCw192 _ => does_call (ex_fn (vs := #[(.slice xa164 e1.name.length xc165), (.slice xa180 e2.name.length xc181)]) (map2 rfl rfl) rfl (ent_14 _ _)) (call_tells (tells_bool (tells_same (same_spec _ _ _ _ e1.name e2.name ((St.tells S153 hCw192)).sat r166 r182)) (beq_iff_eq.2 hn)))) ?_
   simp only [pS, pN, pA, pC, pZ]
   refine gw_pure rfl rfl (.bool false) (fun w192 hCw192 => pureAt_of (ex_not (b := true) rfl rfl)) ?_
   simp only [pS, pN, pA, pC, pZ]
   refine gw_pure rfl rfl (.bool false) (fun w192 hCw192 => pureAt_of (ex_move _)) ?_
   simp only [pS, pN, pA, pC, pZ]
   refine gw_pure rfl rfl (.slice a126 (chgs (stateC cs k1) (stateC cs k2) ps).length c127) (fun w192 hCw192 => pureAt_of (ex_move _)) ?_
   simp only [pS, pN, pA, pC, pZ]
   refine gw_pure rfl rfl (.int .i64 ((i : Nat) : Int)) (fun w192 hCw192 => pureAt_of (ex_move _)) ?_
   simp only [pS, pN, pA, pC, pZ]
   refine gw_pure rfl rfl (.pointer (some ⟨b160, o161 + i * 4, none⟩)) (fun w192 hCw192 => pureAt_of (ex_at (i := i) (sz := 4) Try.underlying47 (sizeof_27 _) rfl ha162 rfl (by omega) rfl)) ?_
   simp only [pS, pN, pA, pC, pZ]
   refine gw_pure rfl rfl (.pointer (some ⟨b160, o161 + i * 4 + 1, none⟩)) (fun w192 hCw192 => pureAt_of (ex_field (q := ⟨b160, o161 + i * 4 + 1, none⟩) rfl (fa_27_1 _ _))) ?_
   simp only [pS, pN, pA, pC, pZ]
   refine gw_pure rfl rfl (.slice xa168 e1.key.length xc169) (fun w192 hCw192 => pureAt_of (ex_load rfl (load1 (nagg_25 _) (St.fz (St.tells S153 hCw192) c167)))) ?_
   simp only [pS, pN, pA, pC, pZ]
   refine gw_pure rfl rfl (.slice a138 (chgs (stateC cs k2) (stateC cs k1) ps).length c139) (fun w192 hCw192 => pureAt_of (ex_move _)) ?_
   simp only [pS, pN, pA, pC, pZ]
   refine gw_pure rfl rfl (.int .i64 ((i : Nat) : Int)) (fun w192 hCw192 => pureAt_of (ex_move _)) ?_
   simp only [pS, pN, pA, pC, pZ]
   refine gw_pure rfl rfl (.pointer (some ⟨b176, o177 + i * 4, none⟩)) (fun w192 hCw192 => pureAt_of (ex_at (i := i) (sz := 4) Try.underlying47 (sizeof_27 _) rfl ha178 rfl (by omega) rfl)) ?_
   simp only [pS, pN, pA, pC, pZ]
   refine gw_pure rfl rfl (.pointer (some ⟨b176, o177 + i * 4 + 1, none⟩)) (fun w192 hCw192 => pureAt_of (ex_field (q := ⟨b176, o177 + i * 4 + 1, none⟩) rfl (fa_27_1 _ _))) ?_
   simp only [pS, pN, pA, pC, pZ]
   refine gw_pure rfl rfl (.slice xa184 e2.key.length xc185) (fun w192 hCw192 => pureAt_of (ex_load rfl (load1 (nagg_25 _) (St.fz (St.tells S153 hCw192) c183)))) ?_
   simp only [pS, pN, pA, pC, pZ]
   refine gw_const rfl rfl (v := (.bool true)) (fun w192 hCw192 _ => does_call (ex_fn (vs := #[(.slice xa168 e1.key.length xc169), (.slice xa184 e2.key.length xc185)]) (map2 rfl rfl) rfl (ent_14 _ _)) (call_tells (tells_bool (tells_same (same_spec _ _ _ _ e1.key e2.key ((St.tells S153 hCw192)).sat r170 r186)) (beq_iff_eq.2 hk)))) ?_
   simp only [pS, pN, pA, pC, pZ]
   refine gw_pure rfl rfl (.bool false) (fun w192 hCw192 => pureAt_of (ex_not (b := true) rfl rfl)) ?_
   simp only [pS, pN, pA, pC, pZ]
   refine gw_pure rfl rfl (.bool false) (fun w192 hCw192 => pureAt_of (ex_pick (b := false) rfl)) ?_
   simp only [pS, pN, pA, pC, pZ]
   refine gw_pure rfl rfl (.bool false) (fun w192 hCw192 => pureAt_of (ex_move _)) ?_
   simp only [pS, pN, pA, pC, pZ]
   refine gw_pure rfl rfl (.slice a126 (chgs (stateC cs k1) (stateC cs k2) ps).length c127) (fun w192 hCw192 => pureAt_of (ex_move _)) ?_
   simp only [pS, pN, pA, pC, pZ]
   refine gw_pure rfl rfl (.int .i64 ((i : Nat) : Int)) (fun w192 hCw192 => pureAt_of (ex_move _)) ?_
   simp only [pS, pN, pA, pC, pZ]
   refine gw_pure rfl rfl (.pointer (some ⟨b160, o161 + i * 4, none⟩)) (fun w192 hCw192 => pureAt_of (ex_at (i := i) (sz := 4) Try.underlying47 (sizeof_27 _) rfl ha162 rfl (by omega) rfl)) ?_
   simp only [pS, pN, pA, pC, pZ]
   refine gw_pure rfl rfl (.pointer (some ⟨b160, o161 + i * 4 + 2, none⟩)) (fun w192 hCw192 => pureAt_of (ex_field (q := ⟨b160, o161 + i * 4 + 2, none⟩) rfl (fa_27_2 _ _))) ?_
   simp only [pS, pN, pA, pC, pZ]
   refine gw_pure rfl rfl (.bool true) (fun w192 hCw192 => pureAt_of (ex_load rfl (load1 (nagg_4 _) (St.fz (St.tells S153 hCw192) (hg1 ▸ c171))))) ?_
   simp only [pS, pN, pA, pC, pZ]
   refine gw_pure rfl rfl (.bool true) (fun w192 hCw192 => pureAt_of (ex_move _)) ?_
   simp only [pS, pN, pA, pC, pZ]
   refine gw_pure rfl rfl (.slice a138 (chgs (stateC cs k2) (stateC cs k1) ps).length c139) (fun w192 hCw192 => pureAt_of (ex_move _)) ?_
   simp only [pS, pN, pA, pC, pZ]
   refine gw_pure rfl rfl (.int .i64 ((i : Nat) : Int)) (fun w192 hCw192 => pureAt_of (ex_move _)) ?_
   simp only [pS, pN, pA, pC, pZ]
   refine gw_nil ?_
   intro w193 hC195 hF196
   clear hF196
   have S194 := St.tells S153 hC195
   simp only [List.drop_succ_cons, List.drop_zero]
   refine do_ rfl (.pointer (some ⟨b176, o177 + i * 4, none⟩)) (ex_at (i := i) (sz := 4) Try.underlying47 (sizeof_27 _) rfl ha178 rfl (by omega) rfl) ?_
   simp only [pS, pN, pA, pC, pZ]
   refine do_ rfl (.pointer (some ⟨b176, o177 + i * 4 + 2, none⟩)) (ex_field (q := ⟨b176, o177 + i * 4 + 2, none⟩) rfl (fa_27_2 _ _)) ?_
   simp only [pS, pN, pA, pC, pZ]
   refine do_ rfl (.bool false) (ex_load rfl (load1 (nagg_4 _) (St.fz S194 (hg2 ▸ c187)))) ?_
   simp only [pS, pN, pA, pC, pZ]
   refine do_ rfl (.bool false) (ex_pick (b := true) rfl) ?_
   simp only [pS, pN, pA, pC, pZ]
   refine do_ rfl (.bool false) (ex_pick (b := false) rfl) ?_
   simp only [pS, pN, pA, pC, pZ]
   refine wl_nil (hK159 _ _ ?_)
   refine wp_cond_false rfl ?_
   refine wp_skip ?_
   refine hK158 _ _ ?_
   refine region_wl ?_
   refine do_ rfl (.int .i64 ((i : Nat) : Int)) (ex_move _) ?_
   simp only [pS, pN, pA, pC, pZ]
   refine do_ rfl (.int .i64 (((i + 1) : Nat) : Int)) (ex_add (m := ((i : Nat) : Int)) (n := (1 : Int)) (r := (((i + 1) : Nat) : Int)) rfl rfl (by omega) (by omega) (by omega)) ?_
   simp only [pS, pN, pA, pC, pZ]
   refine do_ rfl (.int .i64 (((i + 1) : Nat) : Int)) (ex_assign _) ?_
   simp only [pS, pN, pA, pC, pZ]
   refine wl_nil ?_
   exact hK155 _ _ _ (by omega) ⟨(i + 1), F147, _, rfl, rfl, rfl, S194, le154, (by omega)⟩
  ·have hg1 : e1.gone = false := by simpa using hg1
   refine region_gw F147 35 [(10, .is (.bool true)), (23, .is (.bool true))] (by kernel_rfl) (by kernel_rfl) ?_
   simp only [List.take_succ_cons, List.take_zero]
   refine gw_pure rfl rfl (.slice a126 (chgs (stateC cs k1) (stateC cs k2) ps).length c127) (fun w197 hCw197 => pureAt_of (ex_move _)) ?_
   simp only [pS, pN, pA, pC, pZ]
   refine gw_pure rfl rfl (.int .i64 ((i : Nat) : Int)) (fun w197 hCw197 => pureAt_of (ex_move _)) ?_
   simp only [pS, pN, pA, pC, pZ]
   refine gw_pure rfl rfl (.pointer (some ⟨b160, o161 + i * 4, none⟩)) (fun w197 hCw197 => pureAt_of (ex_at (i := i) (sz := 4) Try.underlying47 (sizeof_27 _) rfl ha162 rfl (by omega) rfl)) ?_
   simp only [pS, pN, pA, pC, pZ]
   refine gw_pure rfl rfl (.pointer (some ⟨b160, o161 + i * 4, none⟩)) (fun w197 hCw197 => pureAt_of (ex_field (q := ⟨b160, o161 + i * 4, none⟩) rfl (fa_27_0 _ _))) ?_
   simp only [pS, pN, pA, pC, pZ]
   refine gw_pure rfl rfl (.slice xa164 e1.name.length xc165) (fun w197 hCw197 => pureAt_of (ex_load rfl (load1 (nagg_25 _) (St.fz (St.tells S153 hCw197) c163)))) ?_
   simp only [pS, pN, pA, pC, pZ]
   refine gw_pure rfl rfl (.slice a138 (chgs (stateC cs k2) (stateC cs k1) ps).length c139) (fun w197 hCw197 => pureAt_of (ex_move _)) ?_
   simp only [pS, pN, pA, pC, pZ]
   refine gw_pure rfl rfl (.int .i64 ((i : Nat) : Int)) (fun w197 hCw197 => pureAt_of (ex_move _)) ?_
   simp only [pS, pN, pA, pC, pZ]
   refine gw_pure rfl rfl (.pointer (some ⟨b176, o177 + i * 4, none⟩)) (fun w197 hCw197 => pureAt_of (ex_at (i := i) (sz := 4) Try.underlying47 (sizeof_27 _) rfl ha178 rfl (by omega) rfl)) ?_
   simp only [pS, pN, pA, pC, pZ]
   refine gw_pure rfl rfl (.pointer (some ⟨b176, o177 + i * 4, none⟩)) (fun w197 hCw197 => pureAt_of (ex_field (q := ⟨b176, o177 + i * 4, none⟩) rfl (fa_27_0 _ _))) ?_
   simp only [pS, pN, pA, pC, pZ]
   refine gw_pure rfl rfl (.slice xa180 e2.name.length xc181) (fun w197 hCw197 => pureAt_of (ex_load rfl (load1 (nagg_25 _) (St.fz (St.tells S153 hCw197) c179)))) ?_
   simp only [pS, pN, pA, pC, pZ]
   refine gw_const rfl rfl (v := (.bool true)) (fun w197 hCw197 _ => does_call (ex_fn (vs := #[(.slice xa164 e1.name.length xc165), (.slice xa180 e2.name.length xc181)]) (map2 rfl rfl) rfl (ent_14 _ _)) (call_tells (tells_bool (tells_same (same_spec _ _ _ _ e1.name e2.name ((St.tells S153 hCw197)).sat r166 r182)) (beq_iff_eq.2 hn)))) ?_
   simp only [pS, pN, pA, pC, pZ]
   refine gw_pure rfl rfl (.bool false) (fun w197 hCw197 => pureAt_of (ex_not (b := true) rfl rfl)) ?_
   simp only [pS, pN, pA, pC, pZ]
   refine gw_pure rfl rfl (.bool false) (fun w197 hCw197 => pureAt_of (ex_move _)) ?_
   simp only [pS, pN, pA, pC, pZ]
   refine gw_pure rfl rfl (.slice a126 (chgs (stateC cs k1) (stateC cs k2) ps).length c127) (fun w197 hCw197 => pureAt_of (ex_move _)) ?_
   simp only [pS, pN, pA, pC, pZ]
   refine gw_pure rfl rfl (.int .i64 ((i : Nat) : Int)) (fun w197 hCw197 => pureAt_of (ex_move _)) ?_
   simp only [pS, pN, pA, pC, pZ]
   refine gw_pure rfl rfl (.pointer (some ⟨b160, o161 + i * 4, none⟩)) (fun w197 hCw197 => pureAt_of (ex_at (i := i) (sz := 4) Try.underlying47 (sizeof_27 _) rfl ha162 rfl (by omega) rfl)) ?_
   simp only [pS, pN, pA, pC, pZ]
   refine gw_pure rfl rfl (.pointer (some ⟨b160, o161 + i * 4 + 1, none⟩)) (fun w197 hCw197 => pureAt_of (ex_field (q := ⟨b160, o161 + i * 4 + 1, none⟩) rfl (fa_27_1 _ _))) ?_
   simp only [pS, pN, pA, pC, pZ]
   refine gw_pure rfl rfl (.slice xa168 e1.key.length xc169) (fun w197 hCw197 => pureAt_of (ex_load rfl (load1 (nagg_25 _) (St.fz (St.tells S153 hCw197) c167)))) ?_
   simp only [pS, pN, pA, pC, pZ]
   refine gw_pure rfl rfl (.slice a138 (chgs (stateC cs k2) (stateC cs k1) ps).length c139) (fun w197 hCw197 => pureAt_of (ex_move _)) ?_
   simp only [pS, pN, pA, pC, pZ]
   refine gw_pure rfl rfl (.int .i64 ((i : Nat) : Int)) (fun w197 hCw197 => pureAt_of (ex_move _)) ?_
   simp only [pS, pN, pA, pC, pZ]
   refine gw_pure rfl rfl (.pointer (some ⟨b176, o177 + i * 4, none⟩)) (fun w197 hCw197 => pureAt_of (ex_at (i := i) (sz := 4) Try.underlying47 (sizeof_27 _) rfl ha178 rfl (by omega) rfl)) ?_
   simp only [pS, pN, pA, pC, pZ]
   refine gw_pure rfl rfl (.pointer (some ⟨b176, o177 + i * 4 + 1, none⟩)) (fun w197 hCw197 => pureAt_of (ex_field (q := ⟨b176, o177 + i * 4 + 1, none⟩) rfl (fa_27_1 _ _))) ?_
   simp only [pS, pN, pA, pC, pZ]
   refine gw_pure rfl rfl (.slice xa184 e2.key.length xc185) (fun w197 hCw197 => pureAt_of (ex_load rfl (load1 (nagg_25 _) (St.fz (St.tells S153 hCw197) c183)))) ?_
   simp only [pS, pN, pA, pC, pZ]
   refine gw_const rfl rfl (v := (.bool true)) (fun w197 hCw197 _ => does_call (ex_fn (vs := #[(.slice xa168 e1.key.length xc169), (.slice xa184 e2.key.length xc185)]) (map2 rfl rfl) rfl (ent_14 _ _)) (call_tells (tells_bool (tells_same (same_spec _ _ _ _ e1.key e2.key ((St.tells S153 hCw197)).sat r170 r186)) (beq_iff_eq.2 hk)))) ?_
   simp only [pS, pN, pA, pC, pZ]
   refine gw_pure rfl rfl (.bool false) (fun w197 hCw197 => pureAt_of (ex_not (b := true) rfl rfl)) ?_
   simp only [pS, pN, pA, pC, pZ]
   refine gw_pure rfl rfl (.bool false) (fun w197 hCw197 => pureAt_of (ex_pick (b := false) rfl)) ?_
   simp only [pS, pN, pA, pC, pZ]
   refine gw_pure rfl rfl (.bool false) (fun w197 hCw197 => pureAt_of (ex_move _)) ?_
   simp only [pS, pN, pA, pC, pZ]
   refine gw_pure rfl rfl (.slice a126 (chgs (stateC cs k1) (stateC cs k2) ps).length c127) (fun w197 hCw197 => pureAt_of (ex_move _)) ?_
   simp only [pS, pN, pA, pC, pZ]
   refine gw_pure rfl rfl (.int .i64 ((i : Nat) : Int)) (fun w197 hCw197 => pureAt_of (ex_move _)) ?_
   simp only [pS, pN, pA, pC, pZ]
   refine gw_pure rfl rfl (.pointer (some ⟨b160, o161 + i * 4, none⟩)) (fun w197 hCw197 => pureAt_of (ex_at (i := i) (sz := 4) Try.underlying47 (sizeof_27 _) rfl ha162 rfl (by omega) rfl)) ?_
   simp only [pS, pN, pA, pC, pZ]
   refine gw_pure rfl rfl (.pointer (some ⟨b160, o161 + i * 4 + 2, none⟩)) (fun w197 hCw197 => pureAt_of (ex_field (q := ⟨b160, o161 + i * 4 + 2, none⟩) rfl (fa_27_2 _ _))) ?_
   simp only [pS, pN, pA, pC, pZ]
   refine gw_pure rfl rfl (.bool false) (fun w197 hCw197 => pureAt_of (ex_load rfl (load1 (nagg_4 _) (St.fz (St.tells S153 hCw197) (hg1 ▸ c171))))) ?_
   simp only [pS, pN, pA, pC, pZ]
   refine gw_pure rfl rfl (.bool false) (fun w197 hCw197 => pureAt_of (ex_move _)) ?_
   simp only [pS, pN, pA, pC, pZ]
   refine gw_skip (wanted_no rfl rfl rfl (c := false) rfl (by decide)) ?_
   simp only [pS, pN, pA, pC, pZ]
   refine gw_skip (wanted_no rfl rfl rfl (c := false) rfl (by decide)) ?_
   simp only [pS, pN, pA, pC, pZ]
   refine gw_nil ?_
   intro w198 hC200 hF201
   clear hF201
   have S199 := St.tells S153 hC200
   simp only [List.drop_succ_cons, List.drop_zero]
   refine doN (wanted_no rfl rfl rfl (c := false) rfl (by decide)) ?_
   simp only [pS, pN, pA, pC, pZ]
   refine doN (wanted_no rfl rfl rfl (c := false) rfl (by decide)) ?_
   simp only [pS, pN, pA, pC, pZ]
   refine doN (wanted_no rfl rfl rfl (c := false) rfl (by decide)) ?_
   simp only [pS, pN, pA, pC, pZ]
   refine do_ rfl (.bool false) (ex_pick (b := false) rfl) ?_
   simp only [pS, pN, pA, pC, pZ]
   refine do_ rfl (.bool false) (ex_pick (b := false) rfl) ?_
   simp only [pS, pN, pA, pC, pZ]
   refine wl_nil (hK159 _ _ ?_)
   refine wp_cond_false rfl ?_
   refine wp_skip ?_
   refine hK158 _ _ ?_
   refine region_wl ?_
   refine do_ rfl (.int .i64 ((i : Nat) : Int)) (ex_move _) ?_
   simp only [pS, pN, pA, pC, pZ]
   refine do_ rfl (.int .i64 (((i + 1) : Nat) : Int)) (ex_add (m := ((i : Nat) : Int)) (n := (1 : Int)) (r := (((i + 1) : Nat) : Int)) rfl rfl (by omega) (by omega) (by omega)) ?_
   simp only [pS, pN, pA, pC, pZ]
   refine do_ rfl (.int .i64 (((i + 1) : Nat) : Int)) (ex_assign _) ?_
   simp only [pS, pN, pA, pC, pZ]
   refine wl_nil ?_
   exact hK155 _ _ _ (by omega) ⟨(i + 1), F147, _, rfl, rfl, rfl, S199, le154, (by omega)⟩
 ·refine do_ rfl (.bool false) (ex_lss (m := ((i : Nat) : Int)) (n := (((chgs (stateC cs k1) (stateC cs k2) ps).length : Nat) : Int)) (b := false) rfl rfl (decide_eq_false (by omega))) ?_
  simp only [pS, pN, pA, pC, pZ]
  refine wl_nil (hK157 _ _ ?_)
  refine wp_cond_false rfl ?_
  refine wp_exit ?_
  refine hK145 _ _ ?_
  refine wp_seq_k (fun K202 hK202 => region_wl ?_)
  refine do_ rfl (.slice a109 cs.length c110) (ex_move _) ?_
  simp only [pS, pN, pA, pC, pZ]
  refine do_ rfl (.slice a109 cs.length c110) (ex_move _) ?_
  simp only [pS, pN, pA, pC, pZ]
  refine do_ rfl (.int .i64 ((cs.length : Nat) : Int)) (ex_len Try.underlying44 rfl) ?_
  simp only [pS, pN, pA, pC, pZ]
  refine do_ rfl (.int .i64 (((cs.length + 1) : Nat) : Int)) (ex_add (m := ((cs.length : Nat) : Int)) (n := (1 : Int)) (r := (((cs.length + 1) : Nat) : Int)) rfl rfl (by omega) (by omega) (by omega)) ?_
  simp only [pS, pN, pA, pC, pZ]
  refine stGives S153 rfl (ex_fn (vs := #[(.slice a109 cs.length c110), (.int .i64 0), (.int .i64 (((cs.length + 1) : Nat) : Int))]) (map3 rfl rfl rfl) rfl (ent_13 _ _)) (changesPast_spec _ _ _ cs (cs.length + 1) (S153).sat (R107.mono ((le123.trans le135).trans le154)) hh (by omega) (by omega) (by omega) (by omega)) ?_
  intro v208 w203 F205 S204 le206 R207
  subst R207
  simp only [pS, pN, pA, pC, pZ]
  refine do_ rfl (.tuple #[(.slice none 0 0), (.int .i64 2)]) (ex_move _) ?_
  simp only [pS, pN, pA, pC, pZ]
  refine do_ rfl (.slice none 0 0) (ex_extract rfl rfl) ?_
  simp only [pS, pN, pA, pC, pZ]
  refine do_ rfl (.int .i64 2) (ex_extract rfl rfl) ?_
  simp only [pS, pN, pA, pC, pZ]
  refine do_ rfl (.slice none 0 0) (ex_assign _) ?_
  simp only [pS, pN, pA, pC, pZ]
  refine do_ rfl (.int .i64 2) (ex_assign _) ?_
  simp only [pS, pN, pA, pC, pZ]
  refine wl_nil (hK202 _ _ ?_)
  refine wp_seq_k (fun K209 hK209 => region_wl ?_)
  refine do_ rfl (.int .i64 2) (ex_move _) ?_
  simp only [pS, pN, pA, pC, pZ]
  refine do_ rfl (.bool true) (ex_eql (b := true) rfl rfl (by decide)) ?_
  simp only [pS, pN, pA, pC, pZ]
  refine do_ rfl (.bool true) (ex_assign _) ?_
  simp only [pS, pN, pA, pC, pZ]
  refine wl_nil (hK209 _ _ ?_)
  refine wp_ret ?_
  (try simp only [Exit.then, Exit.inBlock, ↓reduceIte, Nat.reduceEqDiff])
  refine bodyPost_ret (v := (.bool true)) ?_ rfl ?_
  ·exact res_t rfl rfl
  ·exact ⟨rfl, S204.gr.below⟩
end Go.Proofs.Ytlimmmidfhpakaa
