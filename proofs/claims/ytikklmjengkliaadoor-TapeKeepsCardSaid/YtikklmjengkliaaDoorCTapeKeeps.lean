/- The walk of TapeKeeps -/
import Derived.Test.YtikklmjengkliaaDoorBT11
namespace Go.Proofs.YtikklmjengkliaaDoor
open Go.RowKit
set_option maxRecDepth 100000
set_option linter.unusedVariables false
set_option linter.unusedSimpArgs false
theorem Sl.cap3T {α : Type} {k : Nat} {R : Fz → List Value → α → Prop} {F : Fz} {a : Option Addr} {n c m : Nat} {l : List α} (h : Sl k R F (.slice a n c) l) (hm : m ≤ n) : Sl k R F (.slice a m m) (l.take m) := by
  obtain ⟨_, _, e0, e1, _⟩ := h.shape
  injection e0 with _ e2 e3
  exact Sl.cap (Sl.takeN h hm) (Nat.le_refl _) (by omega)
set_option maxHeartbeats 8000000 in
theorem tapeKeeps_walk (W : World) (hT : Tabs W) (v0 : Value) (l0 : List Pl) (z0 : Pls (whole W) v0 l0) (x1 : Int) (b1 : -9223372036854775808 ≤ x1) (b1' : x1 ≤ 9223372036854775807) (x2 : Int) (b2 : -9223372036854775808 ≤ x2) (b2' : x2 ≤ 9223372036854775807) :
    Calls Tryd.prog 13 #[v0, .int .i64 x1, .int .i64 x2] W (Tells W (.bool true)) := by
 obtain ⟨a0, c0, rfl, q0, q0'⟩ := Sl.shape z0
 obtain ⟨i5, hi5, hz5, hs5, hb5⟩ := info_parts infoU8
 have S := St.start (Sat.whole W)
 go_enter Tryd.func13, Tryd.ntmps13
 refine wp_seq_k (fun K101 hK101 => region_wl ?_)
 refine do_ rfl (.bool false) (ex_assign _) ?_
 simp only [pS, pN, pA, pC, pZ]
 refine wl_nil (hK101 _ _ ?_)
 refine wp_seq_k (fun K102 hK102 => region_wl ?_)
 refine do_ rfl (.slice a0 l0.length c0) (ex_move _) ?_
 simp only [pS, pN, pA, pC, pZ]
 refine stGives S rfl (ex_fn (vs := #[(.slice a0 l0.length c0), (.int .i64 16)]) (map2 rfl rfl) rfl (ent_25 _ _)) (commitsN_spec _ _ _ l0 16 (S).sat z0 (by omega)) ?_
 intro v108 w103 F105 S104 le106 R107
 obtain ⟨cs, R107, hh, hcl, hcp⟩ := R107
 obtain ⟨a109, c110, rfl, h111, h112⟩ := Sl.shape R107
 unfold maxLen at h112
 have htl := tapeB_len_le hh.ok
 simp only [pS, pN, pA, pC, pZ]
 refine do_ rfl (.slice a109 cs.length c110) (ex_assign _) ?_
 simp only [pS, pN, pA, pC, pZ]
 refine wl_nil (hK102 _ _ ?_)
 refine wp_seq_k (fun K113 hK113 => ?_)
 obtain ⟨hp0kn, hp1kn⟩ := pick_bd x1 ((cs.length + 1 : Nat) : Int) (by omega)
 obtain ⟨kn, hkn⟩ : ∃ k : Nat, pick x1 ((cs.length + 1 : Nat) : Int) = (k : Int) := ⟨(pick x1 ((cs.length + 1 : Nat) : Int)).toNat, (Int.toNat_of_nonneg hp0kn).symm⟩
 have hkb : kn < cs.length + 1 := by omega
 refine region_wl ?_
 refine do_ rfl (.int .i64 x1) (ex_move _) ?_
 simp only [pS, pN, pA, pC, pZ]
 refine do_ rfl (.slice a109 cs.length c110) (ex_move _) ?_
 simp only [pS, pN, pA, pC, pZ]
 refine do_ rfl (.int .i64 ((cs.length : Nat) : Int)) (ex_len Tryd.underlying60 rfl) ?_
 simp only [pS, pN, pA, pC, pZ]
 refine do_ rfl (.int .i64 (((cs.length + 1) : Nat) : Int)) (ex_add (m := ((cs.length : Nat) : Int)) (n := (1 : Int)) (r := (((cs.length + 1) : Nat) : Int)) rfl rfl (by omega) (by omega) (by omega)) ?_
 simp only [pS, pN, pA, pC, pZ]
 refine stTells (v := (.int .i64 ((kn : Nat) : Int))) S104 rfl (ex_fn (vs := #[(.int .i64 x1), (.int .i64 (((cs.length + 1) : Nat) : Int))]) (map2 rfl rfl) rfl (ent_15 _ _)) (hkn ▸ tells_same (picked_spec x1 (((cs.length + 1) : Nat) : Int) _ b1 b1' (by omega) (by omega))) (fun w114 S115 => ?_)
 simp only [pS, pN, pA, pC, pZ]
 refine do_ rfl (.int .i64 ((kn : Nat) : Int)) (ex_assign _) ?_
 simp only [pS, pN, pA, pC, pZ]
 refine wl_nil (hK113 _ _ ?_)
 refine wp_seq_k (fun K116 hK116 => ?_)
 have htk := tape_le hh.ok kn
 refine region_wl ?_
 refine do_ rfl (.slice a109 cs.length c110) (ex_move _) ?_
 simp only [pS, pN, pA, pC, pZ]
 refine do_ rfl (.int .i64 ((kn : Nat) : Int)) (ex_move _) ?_
 simp only [pS, pN, pA, pC, pZ]
 refine do_ rfl (.int .i64 ((kn : Nat) : Int)) (ex_move _) ?_
 simp only [pS, pN, pA, pC, pZ]
 have r117 : Cms _ (.slice a109 kn kn) (cs.take kn) := Sl.cap3T R107 (by omega)
 refine do_ rfl (.slice a109 kn kn) (ex_slice3_0 (h := kn) (m := kn) (sz := 2) Tryd.underlying60 rfl (sizeof_72 _) rfl rfl (by omega) (by omega) rfl) ?_
 simp only [pS, pN, pA, pC, pZ]
 refine stGives S115 rfl (ex_fn (vs := #[(.slice a109 kn kn)]) (map1 rfl) rfl (ent_29 _ _)) (taped_spec _ _ _ (cs.take kn) (S115).sat (hT.at S115.gr.below) r117 (hh.take _).ok (by rw [List.length_take]; omega)) ?_
 intro v123 w118 F120 S119 le121 R122
 obtain ⟨_, rfl, R124⟩ := R122
 obtain ⟨a125, c126, rfl, r127⟩ := R124
 have r127 : Bs _ (.slice a125 (tapeB (cs.take kn)).length c126) (tapeB (cs.take kn)) := r127
 simp only [pS, pN, pA, pC, pZ]
 refine do_ rfl (.tuple #[(.agg #[(.slice a125 (tapeB (cs.take kn)).length c126), (.int .i64 0)]), (.bool true)]) (ex_move _) ?_
 simp only [pS, pN, pA, pC, pZ]
 refine do_ rfl (.agg #[(.slice a125 (tapeB (cs.take kn)).length c126), (.int .i64 0)]) (ex_extract rfl rfl) ?_
 simp only [pS, pN, pA, pC, pZ]
 refine do_ rfl (.bool true) (ex_extract rfl rfl) ?_
 simp only [pS, pN, pA, pC, pZ]
 refine stNew S119 (v := fun n => .pointer (some ⟨n, 0, none⟩)) rfl (ex_alloc (zero_67 _)) (fun n128 w129 S130 => ?_)
 simp only [pS, pN, pA, pC, pZ]
 have S130 : St W (whole W) w129 F120 [⟨n128, [(.slice none 0 0), (.int .i64 0)], 67⟩] [] := S130
 refine stStore (i := 0) (v := (.agg #[(.slice a125 (tapeB (cs.take kn)).length c126), (.int .i64 0)])) S130 rfl rfl rfl rfl (size_67) (allc2 rfl rfl) (Nat.le_of_ble_eq_true rfl) (fun w131 S132 => ?_)
 simp only [pS, pN, pA, pC, pZ]
 have S132 : St W (whole W) w131 F120 [⟨n128, [(.slice a125 (tapeB (cs.take kn)).length c126), (.int .i64 0)], 67⟩] [] := S132
 refine do_ rfl (.bool true) (ex_assign _) ?_
 simp only [pS, pN, pA, pC, pZ]
 refine wl_nil (hK116 _ _ ?_)
 refine wp_seq_k (fun K133 hK133 => region_wl ?_)
 refine do_ rfl (.agg #[(.slice a125 (tapeB (cs.take kn)).length c126), (.int .i64 0)]) (ex_load rfl (loadN (cs := [(.slice a125 (tapeB (cs.take kn)).length c126), (.int .i64 0)]) Tryd.underlying67 rfl (size_67) (St.range S132 (i := 0) rfl 0 [(.slice a125 (tapeB (cs.take kn)).length c126), (.int .i64 0)] (sub_range 0 rfl)))) ?_
 simp only [pS, pN, pA, pC, pZ]
 refine stGives S132 rfl (ex_fn (vs := #[(.agg #[(.slice a125 (tapeB (cs.take kn)).length c126), (.int .i64 0)])]) (map1 rfl) rfl (ent_31 _ _)) (sync_spec _ _ _ (⟨tapeB (cs.take kn), 0⟩ : Tp) (S132).sat ⟨_, _, rfl, r127⟩ (⟨by simp only; omega, Nat.zero_le _⟩)) ?_
 intro v139 w134 F136 S135 le137 R138
 obtain ⟨_, rfl, R140⟩ := R138
 obtain ⟨a141, c142, rfl, r143⟩ := R140
 have r143 : Bs _ (.slice a141 (tapeB (cs.take kn)).length c142) (tapeB (cs.take kn)) := r143
 simp only [pS, pN, pA, pC, pZ]
 refine do_ rfl (.tuple #[(.agg #[(.slice a141 (tapeB (cs.take kn)).length c142), (.int .i64 (((tapeB (cs.take kn)).length : Nat) : Int))]), (.int .i64 0)]) (ex_move _) ?_
 simp only [pS, pN, pA, pC, pZ]
 refine do_ rfl (.agg #[(.slice a141 (tapeB (cs.take kn)).length c142), (.int .i64 (((tapeB (cs.take kn)).length : Nat) : Int))]) (ex_extract rfl rfl) ?_
 simp only [pS, pN, pA, pC, pZ]
 refine do_ rfl (.int .i64 0) (ex_extract rfl rfl) ?_
 simp only [pS, pN, pA, pC, pZ]
 refine stStore (i := 0) (v := (.agg #[(.slice a141 (tapeB (cs.take kn)).length c142), (.int .i64 (((tapeB (cs.take kn)).length : Nat) : Int))])) S135 rfl rfl rfl rfl (size_67) (allc2 rfl rfl) (Nat.le_of_ble_eq_true rfl) (fun w144 S145 => ?_)
 simp only [pS, pN, pA, pC, pZ]
 have S145 : St W (whole W) w144 F136 [⟨n128, [(.slice a141 (tapeB (cs.take kn)).length c142), (.int .i64 (((tapeB (cs.take kn)).length : Nat) : Int))], 67⟩] [] := S145
 refine do_ rfl (.int .i64 0) (ex_assign _) ?_
 simp only [pS, pN, pA, pC, pZ]
 refine wl_nil (hK133 _ _ ?_)
 refine wp_seq_k (fun K146 hK146 => region_wl ?_)
 refine do_ rfl (.pointer (some ⟨n128, 0, none⟩)) (ex_field (q := ⟨n128, 0, none⟩) rfl (fa_67_0 _ _)) ?_
 simp only [pS, pN, pA, pC, pZ]
 refine do_ rfl (.slice a141 (tapeB (cs.take kn)).length c142) (ex_load rfl (load1 (nagg_23 _) (St.cell S145 (i := 0) rfl rfl))) ?_
 simp only [pS, pN, pA, pC, pZ]
 refine do_ rfl (.int .i64 (((tapeB (cs.take kn)).length : Nat) : Int)) (ex_len Tryd.underlying23 rfl) ?_
 simp only [pS, pN, pA, pC, pZ]
 refine do_ rfl (.int .i64 (((tapeB (cs.take kn)).length : Nat) : Int)) (ex_assign _) ?_
 simp only [pS, pN, pA, pC, pZ]
 refine wl_nil (hK146 _ _ ?_)
 refine wp_seq_k (fun K147 hK147 => ?_)
 refine wp_seq_k (fun K148 hK148 => region_wl ?_)
 refine do_ rfl (.int .i64 ((kn : Nat) : Int)) (ex_move _) ?_
 simp only [pS, pN, pA, pC, pZ]
 refine do_ rfl (.int .i64 ((kn : Nat) : Int)) (ex_assign _) ?_
 simp only [pS, pN, pA, pC, pZ]
 refine wl_nil (hK148 _ _ ?_)
 refine wp_block ?_
 refine wp_loop_g (fun mm aa w151 => ∃ (i : Nat) (ta : Option Addr) (tc : Nat) (F149 : Fz) (u150 : Nat → Value), mm = cs.length - i ∧ u150 = slots aa ∧ aa = ⟨#[(.slice a0 l0.length c0), (.int .i64 x1), (.int .i64 x2), undef, undef, undef, (u150 6), (.slice a109 cs.length c110), (.int .i64 ((kn : Nat) : Int)), (.pointer (some ⟨n128, 0, none⟩)), (.bool true), (.int .i64 0), (.int .i64 (((tapeB (cs.take kn)).length : Nat) : Int)), (.int .i64 ((i : Nat) : Int)), (u150 14), (u150 15), undef, undef, undef, undef, (.slice a0 l0.length c0), (.slice a109 cs.length c110), (.int .i64 x1), (.slice a109 cs.length c110), (.int .i64 ((cs.length : Nat) : Int)), (.int .i64 (((cs.length + 1) : Nat) : Int)), (.int .i64 ((kn : Nat) : Int)), (.tuple #[(.agg #[(.slice a125 (tapeB (cs.take kn)).length c126), (.int .i64 0)]), (.bool true)]), (.slice a109 cs.length c110), (.int .i64 ((kn : Nat) : Int)), (.int .i64 ((kn : Nat) : Int)), (.slice a109 kn kn), (.tuple #[(.agg #[(.slice a125 (tapeB (cs.take kn)).length c126), (.int .i64 0)]), (.bool true)]), (.agg #[(.slice a125 (tapeB (cs.take kn)).length c126), (.int .i64 0)]), (.bool true), (.tuple #[(.agg #[(.slice a141 (tapeB (cs.take kn)).length c142), (.int .i64 (((tapeB (cs.take kn)).length : Nat) : Int))]), (.int .i64 0)]), (.agg #[(.slice a125 (tapeB (cs.take kn)).length c126), (.int .i64 0)]), (.tuple #[(.agg #[(.slice a141 (tapeB (cs.take kn)).length c142), (.int .i64 (((tapeB (cs.take kn)).length : Nat) : Int))]), (.int .i64 0)]), (.agg #[(.slice a141 (tapeB (cs.take kn)).length c142), (.int .i64 (((tapeB (cs.take kn)).length : Nat) : Int))]), (.int .i64 0), (.pointer (some ⟨n128, 0, none⟩)), (.slice a141 (tapeB (cs.take kn)).length c142), (.int .i64 (((tapeB (cs.take kn)).length : Nat) : Int)), (.int .i64 ((kn : Nat) : Int)), (u150 44), (u150 45), (u150 46), (u150 47), (u150 48), (u150 49), (u150 50), (u150 51), (u150 52), (u150 53), (u150 54), (u150 55), (u150 56), (u150 57), (u150 58), (u150 59), (u150 60), (u150 61), undef, undef, undef, undef, undef, undef, undef, undef, undef, undef, undef, undef, undef, undef, undef, undef, undef, undef, undef, undef, undef, undef, undef, undef, undef, undef, undef, undef, undef, undef, undef, undef, undef, undef, undef, undef, undef, undef, undef, undef, undef, undef, undef, undef, undef, undef, undef, undef, undef, undef, undef, undef, undef, undef, undef, undef, undef, undef, undef, undef], []⟩ ∧ St W (whole W) w151 F149 [⟨n128, [(.slice ta (tapeB (cs.take i)).length tc), (.int .i64 (((tapeB (cs.take kn)).length : Nat) : Int))], 67⟩] [] ∧ Le F136 F149 ∧ (kn ≤ i) ∧ (i ≤ cs.length) ∧ (Bs F149 (.slice ta (tapeB (cs.take i)).length tc) (tapeB (cs.take i)))) _ ⟨kn, a141, c142, F136, _, rfl, rfl, rfl, S145, Le.refl _, (by omega), (by omega), r143⟩ ?_
 rintro m152 a153 w154 ⟨i, ta, tc, F149, u150, rfl, -, rfl, S155, le156, hki, hi, hd⟩ K157 hK157
 refine wp_seq_k (fun K158 hK158 => ?_)
 refine wp_seq_k (fun K159 hK159 => region_wl ?_)
 refine do_ rfl (.int .i64 ((i : Nat) : Int)) (ex_move _) ?_
 simp only [pS, pN, pA, pC, pZ]
 refine do_ rfl (.slice a109 cs.length c110) (ex_move _) ?_
 simp only [pS, pN, pA, pC, pZ]
 refine do_ rfl (.int .i64 ((cs.length : Nat) : Int)) (ex_len Tryd.underlying60 rfl) ?_
 simp only [pS, pN, pA, pC, pZ]
 by_cases hc47 : i < cs.length
 ·refine do_ rfl (.bool true) (ex_lss (m := ((i : Nat) : Int)) (n := ((cs.length : Nat) : Int)) (b := true) rfl rfl (decide_eq_true (by omega))) ?_
  simp only [pS, pN, pA, pC, pZ]
  refine wl_nil (hK159 _ _ ?_)
  refine wp_cond_true rfl ?_
  refine wp_skip ?_
  refine hK158 _ _ ?_
  refine wp_seq_k (fun K160 hK160 => ?_)
  refine wp_block ?_
  refine wp_seq_k (fun K161 hK161 => ?_)
  obtain ⟨m, hp⟩ : ∃ m, cs[i]? = some m := ⟨cs[i], List.getElem?_eq_getElem hc47⟩
  obtain ⟨b162, o163, ha164, xa167, xc168, c165, c166, r169⟩ := Cms.get (R107.mono ((le121.trans le137).trans le156)) hp
  refine region_late F149 [0, 1, 2, 3, 4, 5, 6, 7, 9] 8 10 [11] [(5, .made (fun F' u => TpeV (⟨tapeB (cs.take (i + 1)), (tapeB (cs.take kn)).length⟩ : Tp) 0 F' u)), (7, .made (fun F' u => TpV F' u (⟨tapeB (cs.take (i + 1)), (tapeB (cs.take kn)).length⟩ : Tp))), (9, .rel (NewAt w154 [(.slice none 0 0), (.int .i64 0)] 67) (NewAt.stable _ _ _)), (8, .is (.int .i64 0))] (by kernel_rfl) (by kernel_rfl) rfl rfl rfl rfl ?_
  simp only [opsAt, List.getElem?_cons_succ, List.getElem?_cons_zero, List.map_cons, List.map_nil]
  refine gp_pure rfl rfl (.agg #[(.slice ta (tapeB (cs.take i)).length tc), (.int .i64 (((tapeB (cs.take kn)).length : Nat) : Int))]) (fun w170 hCw170 => pureAt_of (ex_load rfl (loadN (cs := [(.slice ta (tapeB (cs.take i)).length tc), (.int .i64 (((tapeB (cs.take kn)).length : Nat) : Int))]) Tryd.underlying67 rfl (size_67) (St.range (St.tells S155 hCw170) (i := 0) rfl 0 [(.slice ta (tapeB (cs.take i)).length tc), (.int .i64 (((tapeB (cs.take kn)).length : Nat) : Int))] (sub_range 0 rfl))))) ?_
  simp only [pS, pN, pA, pC, pZ]
  refine gp_pure rfl rfl (.slice a109 cs.length c110) (fun w170 hCw170 => pureAt_of (ex_move _)) ?_
  simp only [pS, pN, pA, pC, pZ]
  refine gp_pure rfl rfl (.int .i64 ((i : Nat) : Int)) (fun w170 hCw170 => pureAt_of (ex_move _)) ?_
  simp only [pS, pN, pA, pC, pZ]
  refine gp_pure rfl rfl (.pointer (some ⟨b162, o163 + i * 2, none⟩)) (fun w170 hCw170 => pureAt_of (ex_at (i := i) (sz := 2) Tryd.underlying60 (sizeof_72 _) rfl ha164 rfl (by omega) rfl)) ?_
  simp only [pS, pN, pA, pC, pZ]
  refine gp_pure rfl rfl (.agg #[(.int .i64 ((m.turn : Nat) : Int)), (.slice xa167 m.writes.length xc168)]) (fun w170 hCw170 => pureAt_of (ex_load rfl (loadN (cs := [(.int .i64 ((m.turn : Nat) : Int)), (.slice xa167 m.writes.length xc168)]) Tryd.underlying72 rfl (size_72) (range2 (St.fz (St.tells S155 hCw170) c165) (St.fz (St.tells S155 hCw170) c166))))) ?_
  simp only [pS, pN, pA, pC, pZ]
  refine gp_rel rfl rfl (fun w170 hCw170 hF => does_call (ex_fn (vs := #[(.agg #[(.slice ta (tapeB (cs.take i)).length tc), (.int .i64 (((tapeB (cs.take kn)).length : Nat) : Int))]), (.agg #[(.int .i64 ((m.turn : Nat) : Int)), (.slice xa167 m.writes.length xc168)])]) (map2 rfl rfl) rfl (ent_34 _ _)) (call_made S155.sat hCw170 (appendIs_spec _ _ _ _ (⟨(tapeB (cs.take i)), (tapeB (cs.take kn)).length⟩ : Tp) m (⟨tapeB (cs.take (i + 1)), (tapeB (cs.take kn)).length⟩ : Tp) ((St.tells S155 hCw170)).sat (hT.at (St.tells S155 hCw170).gr.below) ⟨_, _, rfl, hd⟩ ⟨_, _, rfl, r169⟩ (⟨by have := tape_le hh.ok i; simp only; omega, by simp only; exact tape_mono hki⟩) (hh.ok m (List.mem_of_getElem? hp)) (by simp only [tapeB_snoc hp])))) (fun v171 => ?_)
  simp only [pS, pN, pA, pC, pZ]
  refine gp_pure rfl rfl v171 (fun w170 hCw170 => pureAt_of (ex_move _)) ?_
  simp only [pS, pN, pA, pC, pZ]
  refine gp_rel rfl rfl (fun w170 hCw170 hF_ => ?_) (fun v176 => ?_)
  ·obtain ⟨F172, g173, _, rfl, hx175⟩ := hF_.get 5 (by kernel_rfl) rfl rfl
   exact does_val (ex_extract rfl rfl) ⟨F172, g173, hx175⟩ (Below.refl _ _)
  simp only [pS, pN, pA, pC, pZ]
  refine gp_rel rfl rfl (fun w170 hCw170 _ => does_alloc (cs := [(.slice none 0 0), (.int .i64 0)]) (zero_67 _) rfl hCw170) (fun v177 => ?_)
  simp only [pS, pN, pA, pC, pZ]
  refine gp_nil (late_ rfl rfl (v := (.int .i64 0)) (fun w170 hCw170 hF_ => ?_) ?_)
  ·obtain ⟨F178, g179, _, rfl, hx180⟩ := hF_.get 5 (by kernel_rfl) rfl rfl
   exact fun w1 => pureAt_of (ex_extract rfl rfl)
  intro w181 hC183 hF184
  obtain ⟨n185, rfl, hn186, hb187⟩ := hF184.getR 9 rfl rfl
  have hnbn185 : ∀ u ∈ [(.slice none 0 0), (.int .i64 0)], ∀ x, u ≠ bv x := by intro u hu x; simp only [List.mem_cons, List.not_mem_nil, or_false] at hu; rcases hu with rfl | rfl <;> (unfold bv; simp)
  obtain ⟨F188, g189, R190⟩ := hF184.get 7 rfl rfl
  have g191 := g189.dropF S155.sat hn186
  have R192 := TpV.dropT g189.sat hb187 hnbn185 R190
  have S182 := St.addBlk (cs := [(.slice none 0 0), (.int .i64 0)]) S155 g191 hn186 (dropF_at _ _) hb187
  have le194 : Le _ _ := g191.le S155.sat
  have R195 := R192
  generalize (dropF F188 n185) = F193 at *
  obtain ⟨a196, c197, rfl, r198⟩ := R195
  have r198 : Bs _ (.slice a196 (tapeB (cs.take (i + 1))).length c197) (tapeB (cs.take (i + 1))) := r198
  clear hF184
  have S182 : St W (whole W) w181 F193 [⟨n185, [(.slice none 0 0), (.int .i64 0)], 67⟩, ⟨n128, [(.slice ta (tapeB (cs.take i)).length tc), (.int .i64 (((tapeB (cs.take kn)).length : Nat) : Int))], 67⟩] [] := S182
  simp only [pS, pN, pA, pC, pZ]
  refine stLate (i := 0) (v := (.agg #[(.slice a196 (tapeB (cs.take (i + 1))).length c197), (.int .i64 (((tapeB (cs.take kn)).length : Nat) : Int))])) S182 rfl rfl rfl (size_67) (allc2 rfl rfl) (Nat.le_of_ble_eq_true rfl) (fun w199 S200 => ?_)
  have S200 : St W (whole W) w199 F193 [⟨n185, [(.slice a196 (tapeB (cs.take (i + 1))).length c197), (.int .i64 (((tapeB (cs.take kn)).length : Nat) : Int))], 67⟩, ⟨n128, [(.slice ta (tapeB (cs.take i)).length tc), (.int .i64 (((tapeB (cs.take kn)).length : Nat) : Int))], 67⟩] [] := S200
  refine do_ rfl (.int .i64 0) (ex_assign _) ?_
  simp only [pS, pN, pA, pC, pZ]
  refine wl_nil (hK161 _ _ ?_)
  refine wp_seq_k (fun K201 hK201 => ?_)
  refine wp_seq_k (fun K202 hK202 => region_wl ?_)
  refine do_ rfl (.int .i64 0) (ex_move _) ?_
  simp only [pS, pN, pA, pC, pZ]
  refine do_ rfl (.bool false) (ex_neq (m := (0 : Int)) (n := (0 : Int)) (b := false) rfl rfl (bne_eq_false_iff_eq.2 (by omega))) ?_
  simp only [pS, pN, pA, pC, pZ]
  refine wl_nil (hK202 _ _ ?_)
  refine wp_cond_false rfl ?_
  refine wp_skip ?_
  refine hK201 _ _ ?_
  refine region_wl ?_
  refine do_ rfl (.agg #[(.slice a196 (tapeB (cs.take (i + 1))).length c197), (.int .i64 (((tapeB (cs.take kn)).length : Nat) : Int))]) (ex_load rfl (loadN (cs := [(.slice a196 (tapeB (cs.take (i + 1))).length c197), (.int .i64 (((tapeB (cs.take kn)).length : Nat) : Int))]) Tryd.underlying67 rfl (size_67) (St.range S200 (i := 0) rfl 0 [(.slice a196 (tapeB (cs.take (i + 1))).length c197), (.int .i64 (((tapeB (cs.take kn)).length : Nat) : Int))] (sub_range 0 rfl)))) ?_
  simp only [pS, pN, pA, pC, pZ]
  refine stStore (i := 1) (v := (.agg #[(.slice a196 (tapeB (cs.take (i + 1))).length c197), (.int .i64 (((tapeB (cs.take kn)).length : Nat) : Int))])) S200 rfl rfl rfl rfl (size_67) (allc2 rfl rfl) (Nat.le_of_ble_eq_true rfl) (fun w203 S204 => ?_)
  simp only [pS, pN, pA, pC, pZ]
  have S204 : St W (whole W) w203 F193 [⟨n185, [(.slice a196 (tapeB (cs.take (i + 1))).length c197), (.int .i64 (((tapeB (cs.take kn)).length : Nat) : Int))], 67⟩, ⟨n128, [(.slice a196 (tapeB (cs.take (i + 1))).length c197), (.int .i64 (((tapeB (cs.take kn)).length : Nat) : Int))], 67⟩] [] := S204
  refine wl_nil (hK160 _ _ ?_)
  refine region_wl ?_
  refine do_ rfl (.int .i64 ((i : Nat) : Int)) (ex_move _) ?_
  simp only [pS, pN, pA, pC, pZ]
  refine do_ rfl (.int .i64 (((i + 1) : Nat) : Int)) (ex_add (m := ((i : Nat) : Int)) (n := (1 : Int)) (r := (((i + 1) : Nat) : Int)) rfl rfl (by omega) (by omega) (by omega)) ?_
  simp only [pS, pN, pA, pC, pZ]
  refine do_ rfl (.int .i64 (((i + 1) : Nat) : Int)) (ex_assign _) ?_
  simp only [pS, pN, pA, pC, pZ]
  refine wl_nil ?_
  have S204 := St.drop S204 (L' := [⟨n128, [(.slice a196 (tapeB (cs.take (i + 1))).length c197), (.int .i64 (((tapeB (cs.take kn)).length : Nat) : Int))], 67⟩]) (.cons _ (List.Sublist.refl _))
  exact hK157 _ _ _ (by omega) ⟨(i + 1), a196, c197, F193, _, rfl, rfl, rfl, S204, (le156.trans le194), (by omega), (by omega), r198⟩
 ·refine do_ rfl (.bool false) (ex_lss (m := ((i : Nat) : Int)) (n := ((cs.length : Nat) : Int)) (b := false) rfl rfl (decide_eq_false (by omega))) ?_
  simp only [pS, pN, pA, pC, pZ]
  refine wl_nil (hK159 _ _ ?_)
  refine wp_cond_false rfl ?_
  refine wp_exit ?_
  refine hK147 _ _ ?_
  refine wp_seq_k (fun K205 hK205 => ?_)
  obtain ⟨hp0jn, hp1jn⟩ := pick_bd x2 (300 : Int) (by omega)
  obtain ⟨jn, hjn⟩ : ∃ k : Nat, pick x2 (300 : Int) = (k : Int) := ⟨(pick x2 (300 : Int)).toNat, (Int.toNat_of_nonneg hp0jn).symm⟩
  have hjb : jn < 300 := by omega
  have hend : cs.take i = cs := List.take_of_length_le (by omega)
  rw [hend] at hd S155
  have hkl : (tapeB (cs.take kn)).length ≤ (tapeB cs).length := by have := tape_mono (cs := cs) (i := kn) (k := cs.length) (by omega); rwa [List.take_length] at this
  obtain ⟨N, hNe⟩ : ∃ N, N = crashN ⟨tapeB cs, (tapeB (cs.take kn)).length⟩ jn := ⟨_, rfl⟩
  have hN : N ≤ (tapeB cs).length ∧ (tapeB (cs.take kn)).length ≤ N := by rw [hNe]; unfold crashN; simp only; omega
  obtain ⟨hN, hNk⟩ := hN
  have htw := whole_len cs N
  have hwg := whole_ge cs kn N (by omega) hNk
  have hwl := wholeN_le cs N
  have hlw : (cs.take (wholeN cs N)).length = (wholeN cs N) := by rw [List.length_take]; omega
  have htm := tape_mono (cs := cs) hwg
  refine region_late F149 [0, 1, 2, 3, 4, 5] 6 7 [8] [(2, .is (.int .i64 ((jn : Nat) : Int))), (3, .made (fun F' u => TpeV (⟨(tapeB cs).take N, N⟩ : Tp) 0 F' u)), (5, .made (fun F' u => TpV F' u (⟨(tapeB cs).take N, N⟩ : Tp))), (6, .is (.int .i64 0))] (by kernel_rfl) (by kernel_rfl) rfl rfl rfl rfl ?_
  simp only [opsAt, List.getElem?_cons_succ, List.getElem?_cons_zero, List.map_cons, List.map_nil]
  refine gp_pure rfl rfl (.agg #[(.slice ta (tapeB cs).length tc), (.int .i64 (((tapeB (cs.take kn)).length : Nat) : Int))]) (fun w206 hCw206 => pureAt_of (ex_load rfl (loadN (cs := [(.slice ta (tapeB cs).length tc), (.int .i64 (((tapeB (cs.take kn)).length : Nat) : Int))]) Tryd.underlying67 rfl (size_67) (St.range (St.tells S155 hCw206) (i := 0) rfl 0 [(.slice ta (tapeB cs).length tc), (.int .i64 (((tapeB (cs.take kn)).length : Nat) : Int))] (sub_range 0 rfl))))) ?_
  simp only [pS, pN, pA, pC, pZ]
  refine gp_pure rfl rfl (.int .i64 x2) (fun w206 hCw206 => pureAt_of (ex_move _)) ?_
  simp only [pS, pN, pA, pC, pZ]
  refine gp_const rfl rfl (v := (.int .i64 ((jn : Nat) : Int))) (fun w206 hCw206 _ => does_call (ex_fn (vs := #[(.int .i64 x2), (.int .i64 300)]) (map2 rfl rfl) rfl (ent_15 _ _)) (call_tells (hjn ▸ tells_same (picked_spec x2 (300 : Int) _ b2 b2' (by omega) (by omega))))) ?_
  simp only [pS, pN, pA, pC, pZ]
  refine gp_rel rfl rfl (fun w206 hCw206 hF => does_call (ex_fn (vs := #[(.agg #[(.slice ta (tapeB cs).length tc), (.int .i64 (((tapeB (cs.take kn)).length : Nat) : Int))]), (.int .i64 ((jn : Nat) : Int))]) (map2 rfl rfl) rfl (ent_35 _ _)) (call_made S155.sat hCw206 (crashIs_spec _ _ _ (⟨(tapeB cs), (tapeB (cs.take kn)).length⟩ : Tp) jn (⟨(tapeB cs).take N, N⟩ : Tp) ((St.tells S155 hCw206)).sat ⟨_, _, rfl, hd⟩ (⟨by simp only; omega, by simp only; omega⟩) (by omega) hNe (congrArg (fun z => (tapeB cs).take z) hNe)))) (fun v207 => ?_)
  simp only [pS, pN, pA, pC, pZ]
  refine gp_pure rfl rfl v207 (fun w206 hCw206 => pureAt_of (ex_move _)) ?_
  simp only [pS, pN, pA, pC, pZ]
  refine gp_rel rfl rfl (fun w206 hCw206 hF_ => ?_) (fun v212 => ?_)
  ·obtain ⟨F208, g209, _, rfl, hx211⟩ := hF_.get 3 (by kernel_rfl) rfl rfl
   exact does_val (ex_extract rfl rfl) ⟨F208, g209, hx211⟩ (Below.refl _ _)
  simp only [pS, pN, pA, pC, pZ]
  refine gp_nil (late_ rfl rfl (v := (.int .i64 0)) (fun w206 hCw206 hF_ => ?_) ?_)
  ·obtain ⟨F213, g214, _, rfl, hx215⟩ := hF_.get 3 (by kernel_rfl) rfl rfl
   exact fun w1 => pureAt_of (ex_extract rfl rfl)
  intro w216 hC218 hF219
  obtain ⟨F220, g221, R222⟩ := hF219.get 5 rfl rfl
  have S217 := St.gives S155 g221
  have le224 : Le _ _ := g221.le S155.sat
  have R225 := R222
  generalize F220 = F223 at *
  obtain ⟨a226, c227, rfl, r228⟩ := R225
  have r228 : Bs _ (.slice a226 ((tapeB cs).take N).length c227) ((tapeB cs).take N) := r228
  clear hF219
  simp only [pS, pN, pA, pC, pZ]
  refine stLate (i := 0) (v := (.agg #[(.slice a226 ((tapeB cs).take N).length c227), (.int .i64 ((N : Nat) : Int))])) S217 rfl rfl rfl (size_67) (allc2 rfl rfl) (Nat.le_of_ble_eq_true rfl) (fun w229 S230 => ?_)
  have S230 : St W (whole W) w229 F223 [⟨n128, [(.slice a226 ((tapeB cs).take N).length c227), (.int .i64 ((N : Nat) : Int))], 67⟩] [] := S230
  refine do_ rfl (.int .i64 0) (ex_assign _) ?_
  simp only [pS, pN, pA, pC, pZ]
  refine wl_nil (hK205 _ _ ?_)
  refine wp_seq_k (fun K231 hK231 => region_wl ?_)
  refine do_ rfl (.agg #[(.slice a226 ((tapeB cs).take N).length c227), (.int .i64 ((N : Nat) : Int))]) (ex_load rfl (loadN (cs := [(.slice a226 ((tapeB cs).take N).length c227), (.int .i64 ((N : Nat) : Int))]) Tryd.underlying67 rfl (size_67) (St.range S230 (i := 0) rfl 0 [(.slice a226 ((tapeB cs).take N).length c227), (.int .i64 ((N : Nat) : Int))] (sub_range 0 rfl)))) ?_
  simp only [pS, pN, pA, pC, pZ]
  refine stGives S230 rfl (ex_fn (vs := #[(.agg #[(.slice a226 ((tapeB cs).take N).length c227), (.int .i64 ((N : Nat) : Int))])]) (map1 rfl) rfl (ent_32 _ _)) (recIs2_spec _ _ _ (⟨(tapeB cs).take N, N⟩ : Tp) (S230).sat (hT.at S230.gr.below) ⟨_, _, rfl, r228⟩ (⟨by simp only [List.length_take]; omega, by simp only [List.length_take]; omega⟩) (rec_tape hh hN) (take_whole hh.ok hN)) ?_
  intro v237 w232 F234 S233 le235 R236
  obtain ⟨a238, c239, a240, c241, rfl, r242, r243, h244⟩ := R236
  simp only [pS, pN, pA, pC, pZ]
  refine do_ rfl (.tuple #[(.slice a238 (cs.take (wholeN cs N)).length c239), (.agg #[(.slice a240 (tapeB (cs.take (wholeN cs N))).length c241), (.int .i64 (((min N (tapeB (cs.take (wholeN cs N))).length) : Nat) : Int))]), (.int .i64 0)]) (ex_move _) ?_
  simp only [pS, pN, pA, pC, pZ]
  refine do_ rfl (.slice a238 (cs.take (wholeN cs N)).length c239) (ex_extract rfl rfl) ?_
  simp only [pS, pN, pA, pC, pZ]
  refine do_ rfl (.agg #[(.slice a240 (tapeB (cs.take (wholeN cs N))).length c241), (.int .i64 (((min N (tapeB (cs.take (wholeN cs N))).length) : Nat) : Int))]) (ex_extract rfl rfl) ?_
  simp only [pS, pN, pA, pC, pZ]
  refine do_ rfl (.int .i64 0) (ex_extract rfl rfl) ?_
  simp only [pS, pN, pA, pC, pZ]
  refine stNew S233 (v := fun n => .pointer (some ⟨n, 0, none⟩)) rfl (ex_alloc (zero_67 _)) (fun n245 w246 S247 => ?_)
  simp only [pS, pN, pA, pC, pZ]
  have S247 : St W (whole W) w246 F234 [⟨n245, [(.slice none 0 0), (.int .i64 0)], 67⟩, ⟨n128, [(.slice a226 ((tapeB cs).take N).length c227), (.int .i64 ((N : Nat) : Int))], 67⟩] [] := S247
  refine do_ rfl (.slice a238 (cs.take (wholeN cs N)).length c239) (ex_assign _) ?_
  simp only [pS, pN, pA, pC, pZ]
  refine stStore (i := 0) (v := (.agg #[(.slice a240 (tapeB (cs.take (wholeN cs N))).length c241), (.int .i64 (((min N (tapeB (cs.take (wholeN cs N))).length) : Nat) : Int))])) S247 rfl rfl rfl rfl (size_67) (allc2 rfl rfl) (Nat.le_of_ble_eq_true rfl) (fun w248 S249 => ?_)
  simp only [pS, pN, pA, pC, pZ]
  have S249 : St W (whole W) w248 F234 [⟨n245, [(.slice a240 (tapeB (cs.take (wholeN cs N))).length c241), (.int .i64 (((min N (tapeB (cs.take (wholeN cs N))).length) : Nat) : Int))], 67⟩, ⟨n128, [(.slice a226 ((tapeB cs).take N).length c227), (.int .i64 ((N : Nat) : Int))], 67⟩] [] := S249
  refine do_ rfl (.int .i64 0) (ex_assign _) ?_
  simp only [pS, pN, pA, pC, pZ]
  refine wl_nil (hK231 _ _ ?_)
  refine wp_seq_k (fun K250 hK250 => region_wl ?_)
  refine do_ rfl (.bool true) (ex_move _) ?_
  simp only [pS, pN, pA, pC, pZ]
  refine do_ rfl (.bool true) (ex_move _) ?_
  simp only [pS, pN, pA, pC, pZ]
  refine do_ rfl (.int .i64 0) (ex_move _) ?_
  simp only [pS, pN, pA, pC, pZ]
  refine do_ rfl (.bool true) (ex_eql (b := true) rfl rfl (by decide)) ?_
  simp only [pS, pN, pA, pC, pZ]
  refine do_ rfl (.bool true) (ex_pick (b := true) rfl) ?_
  simp only [pS, pN, pA, pC, pZ]
  refine do_ rfl (.bool true) (ex_move _) ?_
  simp only [pS, pN, pA, pC, pZ]
  refine do_ rfl (.int .i64 0) (ex_move _) ?_
  simp only [pS, pN, pA, pC, pZ]
  refine do_ rfl (.bool true) (ex_eql (b := true) rfl rfl (by decide)) ?_
  simp only [pS, pN, pA, pC, pZ]
  refine do_ rfl (.bool true) (ex_pick (b := true) rfl) ?_
  simp only [pS, pN, pA, pC, pZ]
  refine do_ rfl (.bool true) (ex_move _) ?_
  simp only [pS, pN, pA, pC, pZ]
  refine do_ rfl (.int .i64 0) (ex_move _) ?_
  simp only [pS, pN, pA, pC, pZ]
  refine do_ rfl (.bool true) (ex_eql (b := true) rfl rfl (by decide)) ?_
  simp only [pS, pN, pA, pC, pZ]
  refine do_ rfl (.bool true) (ex_pick (b := true) rfl) ?_
  simp only [pS, pN, pA, pC, pZ]
  refine do_ rfl (.bool true) (ex_move _) ?_
  simp only [pS, pN, pA, pC, pZ]
  refine do_ rfl (.slice a238 (cs.take (wholeN cs N)).length c239) (ex_move _) ?_
  simp only [pS, pN, pA, pC, pZ]
  refine do_ rfl (.int .i64 (((cs.take (wholeN cs N)).length : Nat) : Int)) (ex_len Tryd.underlying60 rfl) ?_
  simp only [pS, pN, pA, pC, pZ]
  refine do_ rfl (.int .i64 ((kn : Nat) : Int)) (ex_move _) ?_
  simp only [pS, pN, pA, pC, pZ]
  refine do_ rfl (.bool true) (ex_geq (m := (((cs.take (wholeN cs N)).length : Nat) : Int)) (n := ((kn : Nat) : Int)) (b := true) rfl rfl (decide_eq_true (by omega))) ?_
  simp only [pS, pN, pA, pC, pZ]
  refine do_ rfl (.bool true) (ex_pick (b := true) rfl) ?_
  simp only [pS, pN, pA, pC, pZ]
  refine do_ rfl (.bool true) (ex_move _) ?_
  simp only [pS, pN, pA, pC, pZ]
  refine do_ rfl (.slice a238 (cs.take (wholeN cs N)).length c239) (ex_move _) ?_
  simp only [pS, pN, pA, pC, pZ]
  refine do_ rfl (.slice a109 cs.length c110) (ex_move _) ?_
  simp only [pS, pN, pA, pC, pZ]
  refine stTells (v := (.bool true)) S249 rfl (ex_fn (vs := #[(.slice a238 (cs.take (wholeN cs N)).length c239), (.slice a109 cs.length c110)]) (map2 rfl rfl) rfl (ent_33 _ _)) (begins_is _ _ _ _ (cs.take (wholeN cs N)) cs (S249).sat r242 (R107.mono ((((le121.trans le137).trans le156).trans le224).trans le235)) (pre_take _ _)) (fun w251 S252 => ?_)
  simp only [pS, pN, pA, pC, pZ]
  refine do_ rfl (.bool true) (ex_pick (b := true) rfl) ?_
  simp only [pS, pN, pA, pC, pZ]
  refine do_ rfl (.bool true) (ex_move _) ?_
  simp only [pS, pN, pA, pC, pZ]
  refine do_ rfl (.pointer (some ⟨n245, 1, none⟩)) (ex_field (q := ⟨n245, 1, none⟩) rfl (fa_67_1 _ _)) ?_
  simp only [pS, pN, pA, pC, pZ]
  refine do_ rfl (.int .i64 (((min N (tapeB (cs.take (wholeN cs N))).length) : Nat) : Int)) (ex_load rfl (load1 (nagg_3 _) (St.cell S252 (i := 0) rfl rfl))) ?_
  simp only [pS, pN, pA, pC, pZ]
  refine do_ rfl (.pointer (some ⟨n245, 0, none⟩)) (ex_field (q := ⟨n245, 0, none⟩) rfl (fa_67_0 _ _)) ?_
  simp only [pS, pN, pA, pC, pZ]
  refine do_ rfl (.slice a240 (tapeB (cs.take (wholeN cs N))).length c241) (ex_load rfl (load1 (nagg_23 _) (St.cell S252 (i := 0) rfl rfl))) ?_
  simp only [pS, pN, pA, pC, pZ]
  refine do_ rfl (.int .i64 (((tapeB (cs.take (wholeN cs N))).length : Nat) : Int)) (ex_len Tryd.underlying23 rfl) ?_
  simp only [pS, pN, pA, pC, pZ]
  refine do_ rfl (.bool true) (ex_eql (m := (((min N (tapeB (cs.take (wholeN cs N))).length) : Nat) : Int)) (n := (((tapeB (cs.take (wholeN cs N))).length : Nat) : Int)) (b := true) rfl rfl (beq_iff_eq.2 (by omega))) ?_
  simp only [pS, pN, pA, pC, pZ]
  refine do_ rfl (.bool true) (ex_pick (b := true) rfl) ?_
  simp only [pS, pN, pA, pC, pZ]
  refine do_ rfl (.bool true) (ex_move _) ?_
  simp only [pS, pN, pA, pC, pZ]
  refine do_ rfl (.pointer (some ⟨n245, 0, none⟩)) (ex_field (q := ⟨n245, 0, none⟩) rfl (fa_67_0 _ _)) ?_
  simp only [pS, pN, pA, pC, pZ]
  refine do_ rfl (.slice a240 (tapeB (cs.take (wholeN cs N))).length c241) (ex_load rfl (load1 (nagg_23 _) (St.cell S252 (i := 0) rfl rfl))) ?_
  simp only [pS, pN, pA, pC, pZ]
  refine do_ rfl (.int .i64 (((tapeB (cs.take (wholeN cs N))).length : Nat) : Int)) (ex_len Tryd.underlying23 rfl) ?_
  simp only [pS, pN, pA, pC, pZ]
  refine do_ rfl (.int .i64 (((tapeB (cs.take kn)).length : Nat) : Int)) (ex_move _) ?_
  simp only [pS, pN, pA, pC, pZ]
  refine do_ rfl (.bool true) (ex_geq (m := (((tapeB (cs.take (wholeN cs N))).length : Nat) : Int)) (n := (((tapeB (cs.take kn)).length : Nat) : Int)) (b := true) rfl rfl (decide_eq_true (by omega))) ?_
  simp only [pS, pN, pA, pC, pZ]
  refine do_ rfl (.bool true) (ex_pick (b := true) rfl) ?_
  simp only [pS, pN, pA, pC, pZ]
  refine do_ rfl (.bool true) (ex_move _) ?_
  simp only [pS, pN, pA, pC, pZ]
  refine do_ rfl (.int .i64 ((kn : Nat) : Int)) (ex_move _) ?_
  simp only [pS, pN, pA, pC, pZ]
  by_cases hc116 : kn = 0
  ·refine do_ rfl (.bool true) (ex_eql (m := ((kn : Nat) : Int)) (n := (0 : Int)) (b := true) rfl rfl (beq_iff_eq.2 (by omega))) ?_
   simp only [pS, pN, pA, pC, pZ]
   refine do_ rfl (.bool true) (ex_move _) ?_
   simp only [pS, pN, pA, pC, pZ]
   refine doN (wanted_no rfl rfl rfl (c := true) rfl (by decide)) ?_
   simp only [pS, pN, pA, pC, pZ]
   refine doN (wanted_no rfl rfl rfl (c := true) rfl (by decide)) ?_
   simp only [pS, pN, pA, pC, pZ]
   refine do_ rfl (.bool true) (ex_pick (b := true) rfl) ?_
   simp only [pS, pN, pA, pC, pZ]
   refine do_ rfl (.bool true) (ex_pick (b := true) rfl) ?_
   simp only [pS, pN, pA, pC, pZ]
   refine do_ rfl (.bool true) (ex_assign _) ?_
   simp only [pS, pN, pA, pC, pZ]
   refine wl_nil (hK250 _ _ ?_)
   refine wp_ret ?_
   (try simp only [Exit.then, Exit.inBlock, ↓reduceIte, Nat.reduceEqDiff])
   refine bodyPost_ret (v := (.bool true)) ?_ rfl ?_
   ·exact res_t rfl rfl
   ·exact ⟨rfl, S252.gr.below⟩
  ·refine do_ rfl (.bool false) (ex_eql (m := ((kn : Nat) : Int)) (n := (0 : Int)) (b := false) rfl rfl (beq_eq_false_iff_ne.2 (by omega))) ?_
   simp only [pS, pN, pA, pC, pZ]
   refine do_ rfl (.bool false) (ex_move _) ?_
   simp only [pS, pN, pA, pC, pZ]
   refine do_ rfl (.int .i64 (((tapeB (cs.take kn)).length : Nat) : Int)) (ex_move _) ?_
   simp only [pS, pN, pA, pC, pZ]
   refine do_ rfl (.bool true) (ex_gtr (m := (((tapeB (cs.take kn)).length : Nat) : Int)) (n := (0 : Int)) (b := true) rfl rfl (decide_eq_true (by have := tape_pos hh.ok (k := kn) (by omega) (by omega); omega))) ?_
   simp only [pS, pN, pA, pC, pZ]
   refine do_ rfl (.bool true) (ex_pick (b := false) rfl) ?_
   simp only [pS, pN, pA, pC, pZ]
   refine do_ rfl (.bool true) (ex_pick (b := true) rfl) ?_
   simp only [pS, pN, pA, pC, pZ]
   refine do_ rfl (.bool true) (ex_assign _) ?_
   simp only [pS, pN, pA, pC, pZ]
   refine wl_nil (hK250 _ _ ?_)
   refine wp_ret ?_
   (try simp only [Exit.then, Exit.inBlock, ↓reduceIte, Nat.reduceEqDiff])
   refine bodyPost_ret (v := (.bool true)) ?_ rfl ?_
   ·exact res_t rfl rfl
   ·exact ⟨rfl, S252.gr.below⟩
end Go.Proofs.YtikklmjengkliaaDoor
