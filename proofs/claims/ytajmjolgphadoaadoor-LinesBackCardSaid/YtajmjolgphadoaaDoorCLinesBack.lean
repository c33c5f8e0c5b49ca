/- The walk of LinesBack -/
import Derived.Test.YtajmjolgphadoaaDoorCN6
import Derived.Test.YtajmjolgphadoaaDoorCN2
namespace Go.Proofs.YtajmjolgphadoaaDoor
open Go.RowKit
set_option maxRecDepth 100000
set_option linter.unusedVariables false
set_option linter.unusedSimpArgs false
set_option maxHeartbeats 8000000 in
theorem linesBack_walk (W : World) (hT : Laid W) (hW : WordsL W) (v0 : Value) (l0 : List Ft) (z0 : Fts (whole W) v0 l0) (hb0 : ∀ g ∈ l0, (-9223372036854775808 ≤ g.kind ∧ g.kind ≤ 9223372036854775807) ∧ (-9223372036854775808 ≤ g.a ∧ g.a ≤ 9223372036854775807)) :
    Calls Tryd.prog 4 #[v0] W (Tells W (.bool true)) := by
 obtain ⟨a0, c0, rfl, q0, q0'⟩ := Sl.shape z0
 unfold maxLen at q0'
 have S := St.start (Sat.whole W)
 go_enter Tryd.func4, Tryd.ntmps4
 refine wp_seq_k (fun K101 hK101 => region_wl ?_)
 refine do_ rfl (.bool false) (ex_assign _) ?_
 simp only [pS, pN, pA, pC, pZ]
 refine wl_nil (hK101 _ _ ?_)
 refine wp_seq_k (fun K102 hK102 => region_wl ?_)
 refine do_ rfl (.slice a0 l0.length c0) (ex_move _) ?_
 simp only [pS, pN, pA, pC, pZ]
 refine stGives S rfl (ex_fn (vs := #[(.slice a0 l0.length c0), (.int .i64 30)]) (map2 rfl rfl) rfl (ent_13 _ _)) (acts_spec _ _ _ l0 30 (S).sat z0 (by omega) hb0) ?_
 intro v108 w103 F105 S104 le106 R107
 obtain ⟨zs, hzs, hzd, hzm⟩ := R107
 obtain ⟨sa109, sc110, rfl, _, hzl⟩ := Sl.shape hzs
 unfold maxLen at hzl
 have hzf := flat_len hzd
 simp only [pS, pN, pA, pC, pZ]
 refine do_ rfl (.slice sa109 zs.length sc110) (ex_assign _) ?_
 simp only [pS, pN, pA, pC, pZ]
 refine wl_nil (hK102 _ _ ?_)
 refine wp_seq_k (fun K111 hK111 => region_wl ?_)
 refine do_ rfl (.slice sa109 zs.length sc110) (ex_move _) ?_
 simp only [pS, pN, pA, pC, pZ]
 refine stTells (v := (.tuple #[(.string ⟨(flatA zs).toArray⟩), (.int .i64 0), (.int .i64 0)])) S104 rfl (ex_fn (vs := #[(.slice sa109 zs.length sc110)]) (map1 rfl) rfl (ent_14 _ _)) (show_spec W hT hW _ (S104.gr.le (Sat.whole W)) _ _ zs (S104).sat hzs (fun z hz => (hzd z hz).1) (by omega) (by omega)) (fun w112 S113 => ?_)
 simp only [pS, pN, pA, pC, pZ]
 refine do_ rfl (.tuple #[(.string ⟨(flatA zs).toArray⟩), (.int .i64 0), (.int .i64 0)]) (ex_move _) ?_
 simp only [pS, pN, pA, pC, pZ]
 refine do_ rfl (.string ⟨(flatA zs).toArray⟩) (ex_extract rfl rfl) ?_
 simp only [pS, pN, pA, pC, pZ]
 refine do_ rfl (.int .i64 0) (ex_extract rfl rfl) ?_
 simp only [pS, pN, pA, pC, pZ]
 refine do_ rfl (.int .i64 0) (ex_extract rfl rfl) ?_
 simp only [pS, pN, pA, pC, pZ]
 refine do_ rfl (.string ⟨(flatA zs).toArray⟩) (ex_assign _) ?_
 simp only [pS, pN, pA, pC, pZ]
 refine do_ rfl (.int .i64 0) (ex_assign _) ?_
 simp only [pS, pN, pA, pC, pZ]
 refine do_ rfl (.int .i64 0) (ex_assign _) ?_
 simp only [pS, pN, pA, pC, pZ]
 refine wl_nil (hK111 _ _ ?_)
 refine wp_seq_k (fun K114 hK114 => region_wl ?_)
 refine do_ rfl (.string ⟨(flatA zs).toArray⟩) (ex_move _) ?_
 simp only [pS, pN, pA, pC, pZ]
 refine stGives S113 rfl (ex_fn (vs := #[(.string ⟨(flatA zs).toArray⟩)]) (map1 rfl) rfl (ent_15 _ _)) (read_spec W hT hW _ (S113.gr.le (Sat.whole W)) _ (flatA zs) (S113).sat) ?_
 intro v120 w115 F117 S116 le118 R119
 obtain ⟨ys, yi, ye, sv, rfl, hrd, hys⟩ := R119
 rw [show_back hzd (by omega)] at hrd
 obtain ⟨rfl, rfl, rfl⟩ : zs = ys ∧ 0 = yi ∧ 0 = ye := by simpa using hrd
 obtain ⟨sa121, sc122, rfl, _, _⟩ := Sl.shape hys
 simp only [pS, pN, pA, pC, pZ]
 refine do_ rfl (.tuple #[(.slice sa121 zs.length sc122), (.int .i64 0), (.int .i64 0)]) (ex_move _) ?_
 simp only [pS, pN, pA, pC, pZ]
 refine do_ rfl (.slice sa121 zs.length sc122) (ex_extract rfl rfl) ?_
 simp only [pS, pN, pA, pC, pZ]
 refine do_ rfl (.int .i64 0) (ex_extract rfl rfl) ?_
 simp only [pS, pN, pA, pC, pZ]
 refine do_ rfl (.int .i64 0) (ex_extract rfl rfl) ?_
 simp only [pS, pN, pA, pC, pZ]
 refine do_ rfl (.slice sa121 zs.length sc122) (ex_assign _) ?_
 simp only [pS, pN, pA, pC, pZ]
 refine do_ rfl (.int .i64 0) (ex_assign _) ?_
 simp only [pS, pN, pA, pC, pZ]
 refine do_ rfl (.int .i64 0) (ex_assign _) ?_
 simp only [pS, pN, pA, pC, pZ]
 refine wl_nil (hK114 _ _ ?_)
 refine wp_seq_k (fun K123 hK123 => ?_)
 refine wp_seq_k (fun K124 hK124 => region_wl ?_)
 refine do_ rfl (.int .i64 0) (ex_move _) ?_
 simp only [pS, pN, pA, pC, pZ]
 refine do_ rfl (.bool false) (ex_neq (b := false) rfl rfl (by decide)) ?_
 simp only [pS, pN, pA, pC, pZ]
 refine do_ rfl (.bool false) (ex_move _) ?_
 simp only [pS, pN, pA, pC, pZ]
 refine do_ rfl (.int .i64 0) (ex_move _) ?_
 simp only [pS, pN, pA, pC, pZ]
 refine do_ rfl (.bool false) (ex_neq (b := false) rfl rfl (by decide)) ?_
 simp only [pS, pN, pA, pC, pZ]
 refine do_ rfl (.bool false) (ex_pick (b := false) rfl) ?_
 simp only [pS, pN, pA, pC, pZ]
 refine do_ rfl (.bool false) (ex_move _) ?_
 simp only [pS, pN, pA, pC, pZ]
 refine do_ rfl (.int .i64 0) (ex_move _) ?_
 simp only [pS, pN, pA, pC, pZ]
 refine do_ rfl (.bool false) (ex_neq (b := false) rfl rfl (by decide)) ?_
 simp only [pS, pN, pA, pC, pZ]
 refine do_ rfl (.bool false) (ex_pick (b := false) rfl) ?_
 simp only [pS, pN, pA, pC, pZ]
 refine do_ rfl (.bool false) (ex_move _) ?_
 simp only [pS, pN, pA, pC, pZ]
 refine do_ rfl (.int .i64 0) (ex_move _) ?_
 simp only [pS, pN, pA, pC, pZ]
 refine do_ rfl (.bool false) (ex_neq (b := false) rfl rfl (by decide)) ?_
 simp only [pS, pN, pA, pC, pZ]
 refine do_ rfl (.bool false) (ex_pick (b := false) rfl) ?_
 simp only [pS, pN, pA, pC, pZ]
 refine do_ rfl (.bool false) (ex_move _) ?_
 simp only [pS, pN, pA, pC, pZ]
 refine do_ rfl (.slice sa121 zs.length sc122) (ex_move _) ?_
 simp only [pS, pN, pA, pC, pZ]
 refine do_ rfl (.int .i64 ((zs.length : Nat) : Int)) (ex_len Tryd.underlying43 rfl) ?_
 simp only [pS, pN, pA, pC, pZ]
 refine do_ rfl (.slice sa109 zs.length sc110) (ex_move _) ?_
 simp only [pS, pN, pA, pC, pZ]
 refine do_ rfl (.int .i64 ((zs.length : Nat) : Int)) (ex_len Tryd.underlying43 rfl) ?_
 simp only [pS, pN, pA, pC, pZ]
 refine do_ rfl (.bool false) (ex_neq (m := ((zs.length : Nat) : Int)) (n := ((zs.length : Nat) : Int)) (b := false) rfl rfl (bne_eq_false_iff_eq.2 (rfl))) ?_
 simp only [pS, pN, pA, pC, pZ]
 refine do_ rfl (.bool false) (ex_pick (b := false) rfl) ?_
 simp only [pS, pN, pA, pC, pZ]
 refine wl_nil (hK124 _ _ ?_)
 refine wp_cond_false rfl ?_
 refine wp_skip ?_
 refine hK123 _ _ ?_
 refine wp_seq_k (fun K125 hK125 => ?_)
 refine wp_seq_k (fun K126 hK126 => region_wl ?_)
 refine do_ rfl (.int .i64 0) (ex_assign _) ?_
 simp only [pS, pN, pA, pC, pZ]
 refine wl_nil (hK126 _ _ ?_)
 refine wp_block ?_
 refine wp_loop_g (fun mm aa w128 => ∃ (i : Nat) (u127 : Nat → Value), mm = zs.length - i ∧ u127 = slots aa ∧ aa = ⟨#[(.slice a0 l0.length c0), undef, (u127 2), (.slice sa109 zs.length sc110), (.string ⟨(flatA zs).toArray⟩), (.int .i64 0), (.int .i64 0), (.slice sa121 zs.length sc122), (.int .i64 0), (.int .i64 0), (.int .i64 ((i : Nat) : Int)), (.slice a0 l0.length c0), (.slice sa109 zs.length sc110), (.tuple #[(.string ⟨(flatA zs).toArray⟩), (.int .i64 0), (.int .i64 0)]), (.slice sa109 zs.length sc110), (.tuple #[(.string ⟨(flatA zs).toArray⟩), (.int .i64 0), (.int .i64 0)]), (.string ⟨(flatA zs).toArray⟩), (.int .i64 0), (.int .i64 0), (.tuple #[(.slice sa121 zs.length sc122), (.int .i64 0), (.int .i64 0)]), (.string ⟨(flatA zs).toArray⟩), (.tuple #[(.slice sa121 zs.length sc122), (.int .i64 0), (.int .i64 0)]), (.slice sa121 zs.length sc122), (.int .i64 0), (.int .i64 0), (.int .i64 0), (.bool false), (.bool false), (.int .i64 0), (.bool false), (.bool false), (.bool false), (.int .i64 0), (.bool false), (.bool false), (.bool false), (.int .i64 0), (.bool false), (.bool false), (.bool false), (.slice sa121 zs.length sc122), (.int .i64 ((zs.length : Nat) : Int)), (.slice sa109 zs.length sc110), (.int .i64 ((zs.length : Nat) : Int)), (.bool false), (.bool false), (u127 46), (u127 47), (u127 48), (u127 49), (u127 50), (u127 51), (u127 52), (u127 53), (u127 54), (u127 55), (u127 56), (u127 57), (u127 58), (u127 59), (u127 60), (u127 61), (u127 62), (u127 63), (u127 64), (u127 65), (u127 66), (u127 67), (u127 68), (u127 69), (u127 70), (u127 71), (u127 72), (u127 73), (u127 74), (u127 75), (u127 76), (u127 77), (u127 78), (u127 79), (u127 80), (u127 81), (u127 82), (u127 83), (u127 84), (u127 85), (u127 86), (u127 87), (u127 88), (u127 89), (u127 90), (u127 91), (u127 92), (u127 93), (u127 94), (u127 95), (u127 96), (u127 97), (u127 98), (u127 99), (u127 100), (u127 101), (u127 102)], []⟩ ∧ St W (whole W) w128 F117 [] [] ∧ (i ≤ zs.length)) _ ⟨0, _, rfl, rfl, rfl, S116, (by omega)⟩ ?_
 rintro m129 a130 w131 ⟨i, u127, rfl, -, rfl, S132, hi⟩ K134 hK134
 refine wp_seq_k (fun K135 hK135 => ?_)
 refine wp_seq_k (fun K136 hK136 => region_wl ?_)
 refine do_ rfl (.int .i64 ((i : Nat) : Int)) (ex_move _) ?_
 simp only [pS, pN, pA, pC, pZ]
 refine do_ rfl (.slice sa109 zs.length sc110) (ex_move _) ?_
 simp only [pS, pN, pA, pC, pZ]
 refine do_ rfl (.int .i64 ((zs.length : Nat) : Int)) (ex_len Tryd.underlying43 rfl) ?_
 simp only [pS, pN, pA, pC, pZ]
 by_cases hc49 : i < zs.length
 ·refine do_ rfl (.bool true) (ex_lss (m := ((i : Nat) : Int)) (n := ((zs.length : Nat) : Int)) (b := true) rfl rfl (decide_eq_true (by omega))) ?_
  simp only [pS, pN, pA, pC, pZ]
  refine wl_nil (hK136 _ _ ?_)
  refine wp_cond_true rfl ?_
  refine wp_skip ?_
  refine hK135 _ _ ?_
  refine wp_seq_k (fun K137 hK137 => ?_)
  refine wp_block ?_
  refine wp_seq_k (fun K138 hK138 => ?_)
  obtain ⟨a, hp⟩ : ∃ a, zs[i]? = some a := ⟨zs[i], List.getElem?_eq_getElem (by omega)⟩
  obtain ⟨b139, o140, ha141, xa146, xc147, c142, c143, c144, c145, r148⟩ := Ats.get (hzs.mono le118) hp
  obtain ⟨b149, o150, ha151, xa156, xc157, c152, c153, c154, c155, r158⟩ := Ats.get hys hp
  refine region_gw F117 48 [] (by kernel_rfl) (by kernel_rfl) ?_
  simp only [List.take_succ_cons, List.take_zero]
  refine gw_pure rfl rfl (.slice sa109 zs.length sc110) (fun w159 hCw159 => pureAt_of (ex_move _)) ?_
  simp only [pS, pN, pA, pC, pZ]
  refine gw_pure rfl rfl (.int .i64 ((i : Nat) : Int)) (fun w159 hCw159 => pureAt_of (ex_move _)) ?_
  simp only [pS, pN, pA, pC, pZ]
  refine gw_pure rfl rfl (.pointer (some ⟨b139, o140 + i * 4, none⟩)) (fun w159 hCw159 => pureAt_of (ex_at (i := i) (sz := 4) Tryd.underlying43 (sizeof_50 _) rfl ha141 rfl (by omega) rfl)) ?_
  simp only [pS, pN, pA, pC, pZ]
  refine gw_pure rfl rfl (.pointer (some ⟨b139, o140 + i * 4, none⟩)) (fun w159 hCw159 => pureAt_of (ex_field (q := ⟨b139, o140 + i * 4, none⟩) rfl (fa_50_0 _ _))) ?_
  simp only [pS, pN, pA, pC, pZ]
  refine gw_pure rfl rfl (.int .i64 a.kind) (fun w159 hCw159 => pureAt_of (ex_load rfl (load1 (nagg_3 _) (St.fz (St.tells S132 hCw159) c142)))) ?_
  simp only [pS, pN, pA, pC, pZ]
  refine gw_pure rfl rfl (.slice sa121 zs.length sc122) (fun w159 hCw159 => pureAt_of (ex_move _)) ?_
  simp only [pS, pN, pA, pC, pZ]
  refine gw_pure rfl rfl (.int .i64 ((i : Nat) : Int)) (fun w159 hCw159 => pureAt_of (ex_move _)) ?_
  simp only [pS, pN, pA, pC, pZ]
  refine gw_pure rfl rfl (.pointer (some ⟨b149, o150 + i * 4, none⟩)) (fun w159 hCw159 => pureAt_of (ex_at (i := i) (sz := 4) Tryd.underlying43 (sizeof_50 _) rfl ha151 rfl (by omega) rfl)) ?_
  simp only [pS, pN, pA, pC, pZ]
  refine gw_pure rfl rfl (.pointer (some ⟨b149, o150 + i * 4, none⟩)) (fun w159 hCw159 => pureAt_of (ex_field (q := ⟨b149, o150 + i * 4, none⟩) rfl (fa_50_0 _ _))) ?_
  simp only [pS, pN, pA, pC, pZ]
  refine gw_pure rfl rfl (.int .i64 a.kind) (fun w159 hCw159 => pureAt_of (ex_load rfl (load1 (nagg_3 _) (St.fz (St.tells S132 hCw159) c152)))) ?_
  simp only [pS, pN, pA, pC, pZ]
  refine gw_pure rfl rfl (.bool false) (fun w159 hCw159 => pureAt_of (ex_neq (m := a.kind) (n := a.kind) (b := false) rfl rfl (bne_eq_false_iff_eq.2 (rfl)))) ?_
  simp only [pS, pN, pA, pC, pZ]
  refine gw_pure rfl rfl (.bool false) (fun w159 hCw159 => pureAt_of (ex_move _)) ?_
  simp only [pS, pN, pA, pC, pZ]
  refine gw_pure rfl rfl (.slice sa109 zs.length sc110) (fun w159 hCw159 => pureAt_of (ex_move _)) ?_
  simp only [pS, pN, pA, pC, pZ]
  refine gw_pure rfl rfl (.int .i64 ((i : Nat) : Int)) (fun w159 hCw159 => pureAt_of (ex_move _)) ?_
  simp only [pS, pN, pA, pC, pZ]
  refine gw_pure rfl rfl (.pointer (some ⟨b139, o140 + i * 4, none⟩)) (fun w159 hCw159 => pureAt_of (ex_at (i := i) (sz := 4) Tryd.underlying43 (sizeof_50 _) rfl ha141 rfl (by omega) rfl)) ?_
  simp only [pS, pN, pA, pC, pZ]
  refine gw_pure rfl rfl (.pointer (some ⟨b139, o140 + i * 4 + 1, none⟩)) (fun w159 hCw159 => pureAt_of (ex_field (q := ⟨b139, o140 + i * 4 + 1, none⟩) rfl (fa_50_1 _ _))) ?_
  simp only [pS, pN, pA, pC, pZ]
  refine gw_pure rfl rfl (.int .i64 a.sess) (fun w159 hCw159 => pureAt_of (ex_load rfl (load1 (nagg_3 _) (St.fz (St.tells S132 hCw159) c143)))) ?_
  simp only [pS, pN, pA, pC, pZ]
  refine gw_pure rfl rfl (.slice sa121 zs.length sc122) (fun w159 hCw159 => pureAt_of (ex_move _)) ?_
  simp only [pS, pN, pA, pC, pZ]
  refine gw_pure rfl rfl (.int .i64 ((i : Nat) : Int)) (fun w159 hCw159 => pureAt_of (ex_move _)) ?_
  simp only [pS, pN, pA, pC, pZ]
  refine gw_pure rfl rfl (.pointer (some ⟨b149, o150 + i * 4, none⟩)) (fun w159 hCw159 => pureAt_of (ex_at (i := i) (sz := 4) Tryd.underlying43 (sizeof_50 _) rfl ha151 rfl (by omega) rfl)) ?_
  simp only [pS, pN, pA, pC, pZ]
  refine gw_pure rfl rfl (.pointer (some ⟨b149, o150 + i * 4 + 1, none⟩)) (fun w159 hCw159 => pureAt_of (ex_field (q := ⟨b149, o150 + i * 4 + 1, none⟩) rfl (fa_50_1 _ _))) ?_
  simp only [pS, pN, pA, pC, pZ]
  refine gw_pure rfl rfl (.int .i64 a.sess) (fun w159 hCw159 => pureAt_of (ex_load rfl (load1 (nagg_3 _) (St.fz (St.tells S132 hCw159) c153)))) ?_
  simp only [pS, pN, pA, pC, pZ]
  refine gw_pure rfl rfl (.bool false) (fun w159 hCw159 => pureAt_of (ex_neq (m := a.sess) (n := a.sess) (b := false) rfl rfl (bne_eq_false_iff_eq.2 (rfl)))) ?_
  simp only [pS, pN, pA, pC, pZ]
  refine gw_pure rfl rfl (.bool false) (fun w159 hCw159 => pureAt_of (ex_pick (b := false) rfl)) ?_
  simp only [pS, pN, pA, pC, pZ]
  refine gw_pure rfl rfl (.bool false) (fun w159 hCw159 => pureAt_of (ex_move _)) ?_
  simp only [pS, pN, pA, pC, pZ]
  refine gw_pure rfl rfl (.slice sa109 zs.length sc110) (fun w159 hCw159 => pureAt_of (ex_move _)) ?_
  simp only [pS, pN, pA, pC, pZ]
  refine gw_pure rfl rfl (.int .i64 ((i : Nat) : Int)) (fun w159 hCw159 => pureAt_of (ex_move _)) ?_
  simp only [pS, pN, pA, pC, pZ]
  refine gw_pure rfl rfl (.pointer (some ⟨b139, o140 + i * 4, none⟩)) (fun w159 hCw159 => pureAt_of (ex_at (i := i) (sz := 4) Tryd.underlying43 (sizeof_50 _) rfl ha141 rfl (by omega) rfl)) ?_
  simp only [pS, pN, pA, pC, pZ]
  refine gw_pure rfl rfl (.pointer (some ⟨b139, o140 + i * 4 + 2, none⟩)) (fun w159 hCw159 => pureAt_of (ex_field (q := ⟨b139, o140 + i * 4 + 2, none⟩) rfl (fa_50_2 _ _))) ?_
  simp only [pS, pN, pA, pC, pZ]
  refine gw_pure rfl rfl (.int .i64 a.n) (fun w159 hCw159 => pureAt_of (ex_load rfl (load1 (nagg_3 _) (St.fz (St.tells S132 hCw159) c144)))) ?_
  simp only [pS, pN, pA, pC, pZ]
  refine gw_pure rfl rfl (.slice sa121 zs.length sc122) (fun w159 hCw159 => pureAt_of (ex_move _)) ?_
  simp only [pS, pN, pA, pC, pZ]
  refine gw_pure rfl rfl (.int .i64 ((i : Nat) : Int)) (fun w159 hCw159 => pureAt_of (ex_move _)) ?_
  simp only [pS, pN, pA, pC, pZ]
  refine gw_pure rfl rfl (.pointer (some ⟨b149, o150 + i * 4, none⟩)) (fun w159 hCw159 => pureAt_of (ex_at (i := i) (sz := 4) Tryd.underlying43 (sizeof_50 _) rfl ha151 rfl (by omega) rfl)) ?_
  simp only [pS, pN, pA, pC, pZ]
  refine gw_pure rfl rfl (.pointer (some ⟨b149, o150 + i * 4 + 2, none⟩)) (fun w159 hCw159 => pureAt_of (ex_field (q := ⟨b149, o150 + i * 4 + 2, none⟩) rfl (fa_50_2 _ _))) ?_
  simp only [pS, pN, pA, pC, pZ]
  refine gw_pure rfl rfl (.int .i64 a.n) (fun w159 hCw159 => pureAt_of (ex_load rfl (load1 (nagg_3 _) (St.fz (St.tells S132 hCw159) c154)))) ?_
  simp only [pS, pN, pA, pC, pZ]
  refine gw_pure rfl rfl (.bool false) (fun w159 hCw159 => pureAt_of (ex_neq (m := a.n) (n := a.n) (b := false) rfl rfl (bne_eq_false_iff_eq.2 (rfl)))) ?_
  simp only [pS, pN, pA, pC, pZ]
  refine gw_pure rfl rfl (.bool false) (fun w159 hCw159 => pureAt_of (ex_pick (b := false) rfl)) ?_
  simp only [pS, pN, pA, pC, pZ]
  refine gw_pure rfl rfl (.bool false) (fun w159 hCw159 => pureAt_of (ex_move _)) ?_
  simp only [pS, pN, pA, pC, pZ]
  refine gw_pure rfl rfl (.slice sa109 zs.length sc110) (fun w159 hCw159 => pureAt_of (ex_move _)) ?_
  simp only [pS, pN, pA, pC, pZ]
  refine gw_pure rfl rfl (.int .i64 ((i : Nat) : Int)) (fun w159 hCw159 => pureAt_of (ex_move _)) ?_
  simp only [pS, pN, pA, pC, pZ]
  refine gw_pure rfl rfl (.pointer (some ⟨b139, o140 + i * 4, none⟩)) (fun w159 hCw159 => pureAt_of (ex_at (i := i) (sz := 4) Tryd.underlying43 (sizeof_50 _) rfl ha141 rfl (by omega) rfl)) ?_
  simp only [pS, pN, pA, pC, pZ]
  refine gw_pure rfl rfl (.pointer (some ⟨b139, o140 + i * 4 + 3, none⟩)) (fun w159 hCw159 => pureAt_of (ex_field (q := ⟨b139, o140 + i * 4 + 3, none⟩) rfl (fa_50_3 _ _))) ?_
  simp only [pS, pN, pA, pC, pZ]
  refine gw_pure rfl rfl (.slice xa146 a.data.length xc147) (fun w159 hCw159 => pureAt_of (ex_load rfl (load1 (nagg_27 _) (St.fz (St.tells S132 hCw159) c145)))) ?_
  simp only [pS, pN, pA, pC, pZ]
  refine gw_pure rfl rfl (.slice sa121 zs.length sc122) (fun w159 hCw159 => pureAt_of (ex_move _)) ?_
  simp only [pS, pN, pA, pC, pZ]
  refine gw_pure rfl rfl (.int .i64 ((i : Nat) : Int)) (fun w159 hCw159 => pureAt_of (ex_move _)) ?_
  simp only [pS, pN, pA, pC, pZ]
  refine gw_pure rfl rfl (.pointer (some ⟨b149, o150 + i * 4, none⟩)) (fun w159 hCw159 => pureAt_of (ex_at (i := i) (sz := 4) Tryd.underlying43 (sizeof_50 _) rfl ha151 rfl (by omega) rfl)) ?_
  simp only [pS, pN, pA, pC, pZ]
  refine gw_pure rfl rfl (.pointer (some ⟨b149, o150 + i * 4 + 3, none⟩)) (fun w159 hCw159 => pureAt_of (ex_field (q := ⟨b149, o150 + i * 4 + 3, none⟩) rfl (fa_50_3 _ _))) ?_
  simp only [pS, pN, pA, pC, pZ]
  refine gw_pure rfl rfl (.slice xa156 a.data.length xc157) (fun w159 hCw159 => pureAt_of (ex_load rfl (load1 (nagg_27 _) (St.fz (St.tells S132 hCw159) c155)))) ?_
  simp only [pS, pN, pA, pC, pZ]
  refine gw_nil ?_
  intro w160 hC162 hF163
  clear hF163
  have S161 := St.tells S132 hC162
  simp only [List.drop_succ_cons, List.drop_zero]
  refine stTells (v := (.bool true)) S161 rfl (ex_fn (vs := #[(.slice xa146 a.data.length xc147), (.slice xa156 a.data.length xc157)]) (map2 rfl rfl) rfl (ent_16 _ _)) (tells_bool (tells_same (same_spec _ _ _ _ a.data a.data (S161).sat r148 r158)) (beq_iff_eq.2 rfl)) (fun w164 S165 => ?_)
  simp only [pS, pN, pA, pC, pZ]
  refine do_ rfl (.bool false) (ex_not (b := true) rfl rfl) ?_
  simp only [pS, pN, pA, pC, pZ]
  refine do_ rfl (.bool false) (ex_pick (b := false) rfl) ?_
  simp only [pS, pN, pA, pC, pZ]
  refine wl_nil (hK138 _ _ ?_)
  refine wp_cond_false rfl ?_
  refine wp_skip ?_
  refine hK137 _ _ ?_
  refine region_wl ?_
  refine do_ rfl (.int .i64 ((i : Nat) : Int)) (ex_move _) ?_
  simp only [pS, pN, pA, pC, pZ]
  refine do_ rfl (.int .i64 (((i + 1) : Nat) : Int)) (ex_add (m := ((i : Nat) : Int)) (n := (1 : Int)) (r := (((i + 1) : Nat) : Int)) rfl rfl (by omega) (by omega) (by omega)) ?_
  simp only [pS, pN, pA, pC, pZ]
  refine do_ rfl (.int .i64 (((i + 1) : Nat) : Int)) (ex_assign _) ?_
  simp only [pS, pN, pA, pC, pZ]
  refine wl_nil ?_
  exact hK134 _ _ _ (by omega) ⟨(i + 1), _, rfl, rfl, rfl, S165, (by omega)⟩
 ·refine do_ rfl (.bool false) (ex_lss (m := ((i : Nat) : Int)) (n := ((zs.length : Nat) : Int)) (b := false) rfl rfl (decide_eq_false (by omega))) ?_
  simp only [pS, pN, pA, pC, pZ]
  refine wl_nil (hK136 _ _ ?_)
  refine wp_cond_false rfl ?_
  refine wp_exit ?_
  refine hK125 _ _ ?_
  refine wp_seq_k (fun K166 hK166 => region_wl ?_)
  refine do_ rfl (.bool true) (ex_assign _) ?_
  simp only [pS, pN, pA, pC, pZ]
  refine wl_nil (hK166 _ _ ?_)
  refine wp_ret ?_
  (try simp only [Exit.then, Exit.inBlock, ↓reduceIte, Nat.reduceEqDiff])
  refine bodyPost_ret (v := (.bool true)) ?_ rfl ?_
  ·exact res_t rfl rfl
  ·exact ⟨rfl, S132.gr.below⟩
end Go.Proofs.YtajmjolgphadoaaDoor
