/- The walk of LinesBad -/
import Derived.Test.YtajmjolgphadoaaDoorCN6
import Derived.Test.YtajmjolgphadoaaDoorCN2
namespace Go.Proofs.YtajmjolgphadoaaDoor
open Go.RowKit
set_option maxRecDepth 100000
set_option linter.unusedVariables false
set_option linter.unusedSimpArgs false
theorem bmap12 {ρ : Operand → Value} {x0 x1 x2 x3 x4 x5 x6 x7 x8 x9 x10 x11 : Operand} {v0 v1 v2 v3 v4 v5 v6 v7 v8 v9 v10 v11 : Value} {i0 i1 i2 i3 i4 i5 i6 i7 i8 i9 i10 i11 : Nat} (h0 : ρ x0 = v0) (h1 : ρ x1 = v1) (h2 : ρ x2 = v2) (h3 : ρ x3 = v3) (h4 : ρ x4 = v4) (h5 : ρ x5 = v5) (h6 : ρ x6 = v6) (h7 : ρ x7 = v7) (h8 : ρ x8 = v8) (h9 : ρ x9 = v9) (h10 : ρ x10 = v10) (h11 : ρ x11 = v11) : (#[(i0, x0), (i1, x1), (i2, x2), (i3, x3), (i4, x4), (i5, x5), (i6, x6), (i7, x7), (i8, x8), (i9, x9), (i10, x10), (i11, x11)].map fun ((i, x) : Nat × Operand) => (i, ρ x)) = #[(i0, v0), (i1, v1), (i2, v2), (i3, v3), (i4, v4), (i5, v5), (i6, v6), (i7, v7), (i8, v8), (i9, v9), (i10, v10), (i11, v11)] := by simp [h0, h1, h2, h3, h4, h5, h6, h7, h8, h9, h10, h11]
theorem bad_at {bn : Nat} (h : bn < 12) : ∃ x ∈ bads, ([strV [115, 121, 110, 99, 32, 49, 10], strV [97, 115, 107, 10], strV [97, 115, 107, 32, 56, 32, 10], strV [97, 115, 107, 32, 48, 10], strV [10], strV [97, 115, 107, 32, 48, 32, 48, 10], strV [97, 115, 107, 32, 48, 32, 48, 71, 10], strV [97, 115, 107, 32, 48, 32, 48, 65, 10], strV [99, 114, 97, 115, 104, 32, 48, 49, 10], strV [99, 114, 97, 115, 104, 32, 50, 48, 48, 48, 48, 49, 10], strV [83, 121, 110, 99, 10], strV [115, 116, 97, 114, 116, 32, 10]] : List Value)[bn]? = some (strV (x ++ [10])) := by
  have hb : bn < bads.length := by unfold bads; simpa using h
  refine ⟨bads[bn], List.getElem_mem hb, ?_⟩
  match bn, h with
  | 0, _ => rfl
  | 1, _ => rfl
  | 2, _ => rfl
  | 3, _ => rfl
  | 4, _ => rfl
  | 5, _ => rfl
  | 6, _ => rfl
  | 7, _ => rfl
  | 8, _ => rfl
  | 9, _ => rfl
  | 10, _ => rfl
  | 11, _ => rfl
  | k + 12, h => omega
theorem bad_len : ∀ x ∈ bads, x.length ≤ 20 := by decide +kernel
theorem flat_cut (zs : List At) (k : Nat) : (flatA (zs.take k)).length + (flatA (zs.drop k)).length = (flatA zs).length := by
  rw [← List.length_append]
  unfold flatA
  rw [← List.flatMap_append, List.take_append_drop]
set_option maxHeartbeats 2000000 in
theorem linesBad_walk (W : World) (hT : Laid W) (hW : WordsL W) (v0 : Value) (l0 : List Ft) (z0 : Fts (whole W) v0 l0) (hb0 : ∀ g ∈ l0, (-9223372036854775808 ≤ g.kind ∧ g.kind ≤ 9223372036854775807) ∧ (-9223372036854775808 ≤ g.a ∧ g.a ≤ 9223372036854775807)) (x1 : Int) (b1 : -9223372036854775808 ≤ x1) (b1' : x1 ≤ 9223372036854775807) (x2 : Int) (b2 : -9223372036854775808 ≤ x2) (b2' : x2 ≤ 9223372036854775807) :
    Calls Tryd.prog 6 #[v0, .int .i64 x1, .int .i64 x2] W (Tells W (.bool true)) := by
 obtain ⟨a0, c0, rfl, q0, q0'⟩ := Sl.shape z0
 unfold maxLen at q0'
 have S := St.start (Sat.whole W)
 go_enter Tryd.func6, Tryd.ntmps6
 refine wp_seq_k (fun K101 hK101 => region_wl ?_)
 refine do_ rfl (.bool false) (ex_assign _) ?_
 simp only [pS, pN, pA, pC, pZ]
 refine wl_nil (hK101 _ _ ?_)
 refine wp_seq_k (fun K102 hK102 => region_wl ?_)
 refine do_ rfl (.slice a0 l0.length c0) (ex_move _) ?_
 simp only [pS, pN, pA, pC, pZ]
 refine stGives S rfl (ex_fn (vs := #[(.slice a0 l0.length c0), (.int .i64 10)]) (map2 rfl rfl) rfl (ent_13 _ _)) (acts_spec _ _ _ l0 10 (S).sat z0 (by omega) hb0) ?_
 intro v108 w103 F105 S104 le106 R107
 obtain ⟨zs, hzs, hzd, hzm⟩ := R107
 obtain ⟨sa109, sc110, rfl, _, hzl⟩ := Sl.shape hzs
 unfold maxLen at hzl
 have hzf := flat_len hzd
 simp only [pS, pN, pA, pC, pZ]
 refine do_ rfl (.slice sa109 zs.length sc110) (ex_assign _) ?_
 simp only [pS, pN, pA, pC, pZ]
 refine wl_nil (hK102 _ _ ?_)
 refine wp_seq_k (fun K111 hK111 => ?_)
 obtain ⟨hp0kn, hp1kn⟩ := pick_bd x1 (((zs.length + 1) : Nat) : Int) (by omega)
 obtain ⟨kn, hkn⟩ : ∃ k : Nat, pick x1 (((zs.length + 1) : Nat) : Int) = (k : Int) := ⟨(pick x1 (((zs.length + 1) : Nat) : Int)).toNat, (Int.toNat_of_nonneg hp0kn).symm⟩
 have hkb : kn < (zs.length + 1) := by omega
 have hcut := flat_cut zs kn
 refine region_wl ?_
 refine do_ rfl (.int .i64 x1) (ex_move _) ?_
 simp only [pS, pN, pA, pC, pZ]
 refine do_ rfl (.slice sa109 zs.length sc110) (ex_move _) ?_
 simp only [pS, pN, pA, pC, pZ]
 refine do_ rfl (.int .i64 ((zs.length : Nat) : Int)) (ex_len Tryd.underlying43 rfl) ?_
 simp only [pS, pN, pA, pC, pZ]
 refine do_ rfl (.int .i64 (((zs.length + 1) : Nat) : Int)) (ex_add (m := ((zs.length : Nat) : Int)) (n := (1 : Int)) (r := (((zs.length + 1) : Nat) : Int)) rfl rfl (by omega) (by omega) (by omega)) ?_
 simp only [pS, pN, pA, pC, pZ]
 refine stTells (v := (.int .i64 ((kn : Nat) : Int))) S104 rfl (ex_fn (vs := #[(.int .i64 x1), (.int .i64 (((zs.length + 1) : Nat) : Int))]) (map2 rfl rfl) rfl (ent_9 _ _)) (hkn ▸ tells_same (picked_spec x1 (((zs.length + 1) : Nat) : Int) _ b1 b1' (by omega) (by omega))) (fun w112 S113 => ?_)
 simp only [pS, pN, pA, pC, pZ]
 refine do_ rfl (.int .i64 ((kn : Nat) : Int)) (ex_assign _) ?_
 simp only [pS, pN, pA, pC, pZ]
 refine wl_nil (hK111 _ _ ?_)
 refine wp_seq_k (fun K114 hK114 => region_wl ?_)
 refine do_ rfl (.slice sa109 zs.length sc110) (ex_move _) ?_
 simp only [pS, pN, pA, pC, pZ]
 refine do_ rfl (.int .i64 ((kn : Nat) : Int)) (ex_move _) ?_
 simp only [pS, pN, pA, pC, pZ]
 refine do_ rfl (.int .i64 ((kn : Nat) : Int)) (ex_move _) ?_
 simp only [pS, pN, pA, pC, pZ]
 have hzk := Sl.cap (Sl.takeN (m := kn) hzs (by omega)) (Nat.le_refl _) (by omega)
 refine do_ rfl (.slice sa109 kn kn) (ex_slice3_0 (h := kn) (m := kn) (sz := 4) Tryd.underlying43 rfl (sizeof_50 _) rfl rfl (by omega) (by omega) rfl) ?_
 simp only [pS, pN, pA, pC, pZ]
 refine stTells (v := (.tuple #[(.string ⟨(flatA (zs.take kn)).toArray⟩), (.int .i64 0), (.int .i64 0)])) S113 rfl (ex_fn (vs := #[(.slice sa109 kn kn)]) (map1 rfl) rfl (ent_14 _ _)) (show_spec W hT hW _ (S113.gr.le (Sat.whole W)) _ _ (zs.take kn) (S113).sat hzk (fun z hz => (hzd z (List.mem_of_mem_take hz)).1) (by rw [List.length_take]; omega) (by omega)) (fun w115 S116 => ?_)
 simp only [pS, pN, pA, pC, pZ]
 refine do_ rfl (.tuple #[(.string ⟨(flatA (zs.take kn)).toArray⟩), (.int .i64 0), (.int .i64 0)]) (ex_move _) ?_
 simp only [pS, pN, pA, pC, pZ]
 refine do_ rfl (.string ⟨(flatA (zs.take kn)).toArray⟩) (ex_extract rfl rfl) ?_
 simp only [pS, pN, pA, pC, pZ]
 refine do_ rfl (.int .i64 0) (ex_extract rfl rfl) ?_
 simp only [pS, pN, pA, pC, pZ]
 refine do_ rfl (.int .i64 0) (ex_extract rfl rfl) ?_
 simp only [pS, pN, pA, pC, pZ]
 refine do_ rfl (.string ⟨(flatA (zs.take kn)).toArray⟩) (ex_assign _) ?_
 simp only [pS, pN, pA, pC, pZ]
 refine do_ rfl (.int .i64 0) (ex_assign _) ?_
 simp only [pS, pN, pA, pC, pZ]
 refine do_ rfl (.int .i64 0) (ex_assign _) ?_
 simp only [pS, pN, pA, pC, pZ]
 refine wl_nil (hK114 _ _ ?_)
 refine wp_seq_k (fun K117 hK117 => region_wl ?_)
 refine do_ rfl (.slice sa109 zs.length sc110) (ex_move _) ?_
 simp only [pS, pN, pA, pC, pZ]
 refine do_ rfl (.int .i64 ((kn : Nat) : Int)) (ex_move _) ?_
 simp only [pS, pN, pA, pC, pZ]
 have hzq := Sl.dropAny (m := kn) (by decide) hzs (by omega)
 refine do_ rfl (.slice (if sc110 = kn then sa109 else sa109.map (·.add (kn * 4))) (zs.length - kn) (sc110 - kn)) (ex_slice (l := kn) (h := zs.length) (sz := 4) Tryd.underlying43 rfl (sizeof_50 _) (.inr ⟨_, rfl, rfl⟩) (.inl ⟨rfl, rfl⟩) (by omega) (by omega) (rfl)) ?_
 simp only [pS, pN, pA, pC, pZ]
 refine stTells (v := (.tuple #[(.string ⟨(flatA (zs.drop kn)).toArray⟩), (.int .i64 0), (.int .i64 0)])) S116 rfl (ex_fn (vs := #[(.slice (if sc110 = kn then sa109 else sa109.map (·.add (kn * 4))) (zs.length - kn) (sc110 - kn))]) (map1 rfl) rfl (ent_14 _ _)) (show_spec W hT hW _ (S116.gr.le (Sat.whole W)) _ _ (zs.drop kn) (S116).sat hzq (fun z hz => (hzd z (List.mem_of_mem_drop hz)).1) (by rw [List.length_drop]; omega) (by omega)) (fun w118 S119 => ?_)
 simp only [pS, pN, pA, pC, pZ]
 refine do_ rfl (.tuple #[(.string ⟨(flatA (zs.drop kn)).toArray⟩), (.int .i64 0), (.int .i64 0)]) (ex_move _) ?_
 simp only [pS, pN, pA, pC, pZ]
 refine do_ rfl (.string ⟨(flatA (zs.drop kn)).toArray⟩) (ex_extract rfl rfl) ?_
 simp only [pS, pN, pA, pC, pZ]
 refine do_ rfl (.int .i64 0) (ex_extract rfl rfl) ?_
 simp only [pS, pN, pA, pC, pZ]
 refine do_ rfl (.int .i64 0) (ex_extract rfl rfl) ?_
 simp only [pS, pN, pA, pC, pZ]
 refine do_ rfl (.string ⟨(flatA (zs.drop kn)).toArray⟩) (ex_assign _) ?_
 simp only [pS, pN, pA, pC, pZ]
 refine do_ rfl (.int .i64 0) (ex_assign _) ?_
 simp only [pS, pN, pA, pC, pZ]
 refine do_ rfl (.int .i64 0) (ex_assign _) ?_
 simp only [pS, pN, pA, pC, pZ]
 refine wl_nil (hK117 _ _ ?_)
 refine wp_seq_k (fun K120 hK120 => region_wl ?_)
 refine stNew S119 (v := fun n => .slice (some ⟨n, 0, none⟩) 12 12) rfl (ex_lit (ps := #[(0, (.string ⟨([115, 121, 110, 99, 32, 49, 10] : By).toArray⟩)), (1, (.string ⟨([97, 115, 107, 10] : By).toArray⟩)), (2, (.string ⟨([97, 115, 107, 32, 56, 32, 10] : By).toArray⟩)), (3, (.string ⟨([97, 115, 107, 32, 48, 10] : By).toArray⟩)), (4, (.string ⟨([10] : By).toArray⟩)), (5, (.string ⟨([97, 115, 107, 32, 48, 32, 48, 10] : By).toArray⟩)), (6, (.string ⟨([97, 115, 107, 32, 48, 32, 48, 71, 10] : By).toArray⟩)), (7, (.string ⟨([97, 115, 107, 32, 48, 32, 48, 65, 10] : By).toArray⟩)), (8, (.string ⟨([99, 114, 97, 115, 104, 32, 48, 49, 10] : By).toArray⟩)), (9, (.string ⟨([99, 114, 97, 115, 104, 32, 50, 48, 48, 48, 48, 49, 10] : By).toArray⟩)), (10, (.string ⟨([83, 121, 110, 99, 10] : By).toArray⟩)), (11, (.string ⟨([115, 116, 97, 114, 116, 32, 10] : By).toArray⟩))]) (cells := #[(.string ⟨([115, 121, 110, 99, 32, 49, 10] : By).toArray⟩), (.string ⟨([97, 115, 107, 10] : By).toArray⟩), (.string ⟨([97, 115, 107, 32, 56, 32, 10] : By).toArray⟩), (.string ⟨([97, 115, 107, 32, 48, 10] : By).toArray⟩), (.string ⟨([10] : By).toArray⟩), (.string ⟨([97, 115, 107, 32, 48, 32, 48, 10] : By).toArray⟩), (.string ⟨([97, 115, 107, 32, 48, 32, 48, 71, 10] : By).toArray⟩), (.string ⟨([97, 115, 107, 32, 48, 32, 48, 65, 10] : By).toArray⟩), (.string ⟨([99, 114, 97, 115, 104, 32, 48, 49, 10] : By).toArray⟩), (.string ⟨([99, 114, 97, 115, 104, 32, 50, 48, 48, 48, 48, 49, 10] : By).toArray⟩), (.string ⟨([83, 121, 110, 99, 10] : By).toArray⟩), (.string ⟨([115, 116, 97, 114, 116, 32, 10] : By).toArray⟩)]) (E := 9) (bmap12 rfl rfl rfl rfl rfl rfl rfl rfl rfl rfl rfl rfl) (fun w => by kernel_rfl)) (fun n121 w122 S123 => ?_)
 simp only [pS, pN, pA, pC, pZ]
 have S123 : St W (whole W) w122 F105 [⟨n121, [(.string ⟨([115, 121, 110, 99, 32, 49, 10] : By).toArray⟩), (.string ⟨([97, 115, 107, 10] : By).toArray⟩), (.string ⟨([97, 115, 107, 32, 56, 32, 10] : By).toArray⟩), (.string ⟨([97, 115, 107, 32, 48, 10] : By).toArray⟩), (.string ⟨([10] : By).toArray⟩), (.string ⟨([97, 115, 107, 32, 48, 32, 48, 10] : By).toArray⟩), (.string ⟨([97, 115, 107, 32, 48, 32, 48, 71, 10] : By).toArray⟩), (.string ⟨([97, 115, 107, 32, 48, 32, 48, 65, 10] : By).toArray⟩), (.string ⟨([99, 114, 97, 115, 104, 32, 48, 49, 10] : By).toArray⟩), (.string ⟨([99, 114, 97, 115, 104, 32, 50, 48, 48, 48, 48, 49, 10] : By).toArray⟩), (.string ⟨([83, 121, 110, 99, 10] : By).toArray⟩), (.string ⟨([115, 116, 97, 114, 116, 32, 10] : By).toArray⟩)], 9⟩] [] := S123
 refine do_ rfl (.slice (some ⟨n121, 0, none⟩) 12 12) (ex_assign _) ?_
 simp only [pS, pN, pA, pC, pZ]
 refine wl_nil (hK120 _ _ ?_)
 refine wp_seq_k (fun K124 hK124 => ?_)
 obtain ⟨hp0bn, hp1bn⟩ := pick_bd x2 ((12 : Nat) : Int) (by omega)
 obtain ⟨bn, hbn⟩ : ∃ k : Nat, pick x2 ((12 : Nat) : Int) = (k : Int) := ⟨(pick x2 ((12 : Nat) : Int)).toNat, (Int.toNat_of_nonneg hp0bn).symm⟩
 have hbb : bn < 12 := by omega
 obtain ⟨x, hxb, hxe⟩ := bad_at hbb
 have hxl := bad_len x hxb
 refine region_wl ?_
 refine do_ rfl (.string ⟨(flatA (zs.take kn)).toArray⟩) (ex_move _) ?_
 simp only [pS, pN, pA, pC, pZ]
 refine do_ rfl (.slice (some ⟨n121, 0, none⟩) 12 12) (ex_move _) ?_
 simp only [pS, pN, pA, pC, pZ]
 refine do_ rfl (.int .i64 x2) (ex_move _) ?_
 simp only [pS, pN, pA, pC, pZ]
 refine do_ rfl (.slice (some ⟨n121, 0, none⟩) 12 12) (ex_move _) ?_
 simp only [pS, pN, pA, pC, pZ]
 refine do_ rfl (.int .i64 12) (ex_len Tryd.underlying54 rfl) ?_
 simp only [pS, pN, pA, pC, pZ]
 refine stTells (v := (.int .i64 ((bn : Nat) : Int))) S123 rfl (ex_fn (vs := #[(.int .i64 x2), (.int .i64 12)]) (map2 rfl rfl) rfl (ent_9 _ _)) (hbn ▸ tells_same (picked_spec x2 (12 : Int) _ b2 b2' (by omega) (by omega))) (fun w125 S126 => ?_)
 simp only [pS, pN, pA, pC, pZ]
 refine do_ rfl (.pointer (some ⟨n121, 0 + bn * 1, none⟩)) (ex_at (i := bn) (sz := 1) Tryd.underlying54 (sizeof_9 _) rfl rfl rfl (by omega) rfl) ?_
 simp only [pS, pN, pA, pC, pZ]
 have hcel : w125.cell? ⟨n121, 0 + bn * 1, none⟩ = some (strV (x ++ [10])) := by rw [Nat.zero_add, Nat.mul_one]; exact St.cell S126 (i := 0) rfl hxe
 refine do_ rfl (.string ⟨(x ++ [10]).toArray⟩) (ex_load rfl (load1 (nagg_9 _) hcel)) ?_
 simp only [pS, pN, pA, pC, pZ]
 refine do_ rfl (.string ⟨((flatA (zs.take kn)) ++ (x ++ [10])).toArray⟩) (ex_addS (l := (flatA (zs.take kn))) (m := (x ++ [10])) rfl rfl (by simp only [List.length_append, List.length_cons, List.length_nil]; omega)) ?_
 simp only [pS, pN, pA, pC, pZ]
 refine do_ rfl (.string ⟨(flatA (zs.drop kn)).toArray⟩) (ex_move _) ?_
 simp only [pS, pN, pA, pC, pZ]
 obtain ⟨tt, htt⟩ : ∃ tt : By, tt = ((flatA (zs.take kn)) ++ (x ++ [10])) ++ (flatA (zs.drop kn)) := ⟨_, rfl⟩
 refine do_ rfl (.string ⟨tt.toArray⟩) (by rw [htt]; exact ex_addS (l := ((flatA (zs.take kn)) ++ (x ++ [10]))) (m := (flatA (zs.drop kn))) rfl rfl (by simp only [List.length_append, List.length_cons, List.length_nil]; omega)) ?_
 simp only [pS, pN, pA, pC, pZ]
 refine stGives S126 rfl (ex_fn (vs := #[(.string ⟨tt.toArray⟩)]) (map1 rfl) rfl (ent_15 _ _)) (read_spec W hT hW _ (S126.gr.le (Sat.whole W)) _ tt (S126).sat) ?_
 intro v132 w127 F129 S128 le130 R131
 obtain ⟨ys, yi, ye, sv, rfl, hrd, hys⟩ := R131
 rw [htt, read_mid (fun z hz => (hzd z (List.mem_of_mem_take hz)).1) (by rw [List.length_take]; omega) (bads_no x hxb) (bads_bad x hxb) (by simp only [List.length_append, List.length_cons, List.length_nil]; omega)] at hrd
 obtain ⟨hy1, hrd⟩ := Prod.mk.inj hrd
 obtain ⟨hy2, hy3⟩ := Prod.mk.inj hrd
 have hyl : ys.length = 0 := by rw [← hy1]; rfl
 have hyi : yi = kn := by rw [← hy2, List.length_take]; omega
 obtain ⟨sa133, sc134, rfl, _, _⟩ := Sl.shape hys
 simp only [pS, pN, pA, pC, pZ]
 refine do_ rfl (.tuple #[(.slice sa133 ys.length sc134), (.int .i64 ((yi : Nat) : Int)), (.int .i64 ye)]) (ex_move _) ?_
 simp only [pS, pN, pA, pC, pZ]
 refine do_ rfl (.slice sa133 ys.length sc134) (ex_extract rfl rfl) ?_
 simp only [pS, pN, pA, pC, pZ]
 refine do_ rfl (.int .i64 ((yi : Nat) : Int)) (ex_extract rfl rfl) ?_
 simp only [pS, pN, pA, pC, pZ]
 refine do_ rfl (.int .i64 ye) (ex_extract rfl rfl) ?_
 simp only [pS, pN, pA, pC, pZ]
 refine do_ rfl (.slice sa133 ys.length sc134) (ex_assign _) ?_
 simp only [pS, pN, pA, pC, pZ]
 refine do_ rfl (.int .i64 ((yi : Nat) : Int)) (ex_assign _) ?_
 simp only [pS, pN, pA, pC, pZ]
 refine do_ rfl (.int .i64 ye) (ex_assign _) ?_
 simp only [pS, pN, pA, pC, pZ]
 refine wl_nil (hK124 _ _ ?_)
 refine wp_seq_k (fun K135 hK135 => region_wl ?_)
 refine do_ rfl (.int .i64 0) (ex_move _) ?_
 simp only [pS, pN, pA, pC, pZ]
 refine do_ rfl (.bool true) (ex_eql (b := true) rfl rfl (by decide)) ?_
 simp only [pS, pN, pA, pC, pZ]
 refine do_ rfl (.bool true) (ex_move _) ?_
 simp only [pS, pN, pA, pC, pZ]
 refine do_ rfl (.int .i64 0) (ex_move _) ?_
 simp only [pS, pN, pA, pC, pZ]
 refine do_ rfl (.bool true) (ex_eql (b := true) rfl rfl (by decide)) ?_
 simp only [pS, pN, pA, pC, pZ]
 refine do_ rfl (.bool true) (ex_pick (b := true) rfl) ?_
 simp only [pS, pN, pA, pC, pZ]
 refine do_ rfl (.bool true) (ex_move _) ?_
 simp only [pS, pN, pA, pC, pZ]
 refine do_ rfl (.int .i64 ye) (ex_move _) ?_
 simp only [pS, pN, pA, pC, pZ]
 refine do_ rfl (.bool true) (ex_eql (m := ye) (n := (4 : Int)) (b := true) rfl rfl (beq_iff_eq.2 (by omega))) ?_
 simp only [pS, pN, pA, pC, pZ]
 refine do_ rfl (.bool true) (ex_pick (b := true) rfl) ?_
 simp only [pS, pN, pA, pC, pZ]
 refine do_ rfl (.bool true) (ex_move _) ?_
 simp only [pS, pN, pA, pC, pZ]
 refine do_ rfl (.int .i64 ((yi : Nat) : Int)) (ex_move _) ?_
 simp only [pS, pN, pA, pC, pZ]
 refine do_ rfl (.int .i64 ((kn : Nat) : Int)) (ex_move _) ?_
 simp only [pS, pN, pA, pC, pZ]
 refine do_ rfl (.bool true) (ex_eql (m := ((yi : Nat) : Int)) (n := ((kn : Nat) : Int)) (b := true) rfl rfl (beq_iff_eq.2 (by omega))) ?_
 simp only [pS, pN, pA, pC, pZ]
 refine do_ rfl (.bool true) (ex_pick (b := true) rfl) ?_
 simp only [pS, pN, pA, pC, pZ]
 refine do_ rfl (.bool true) (ex_move _) ?_
 simp only [pS, pN, pA, pC, pZ]
 refine do_ rfl (.slice sa133 ys.length sc134) (ex_move _) ?_
 simp only [pS, pN, pA, pC, pZ]
 refine do_ rfl (.int .i64 ((ys.length : Nat) : Int)) (ex_len Tryd.underlying43 rfl) ?_
 simp only [pS, pN, pA, pC, pZ]
 refine do_ rfl (.bool true) (ex_eql (m := ((ys.length : Nat) : Int)) (n := (0 : Int)) (b := true) rfl rfl (beq_iff_eq.2 (by omega))) ?_
 simp only [pS, pN, pA, pC, pZ]
 refine do_ rfl (.bool true) (ex_pick (b := true) rfl) ?_
 simp only [pS, pN, pA, pC, pZ]
 refine do_ rfl (.bool true) (ex_assign _) ?_
 simp only [pS, pN, pA, pC, pZ]
 refine wl_nil (hK135 _ _ ?_)
 refine wp_ret ?_
 (try simp only [Exit.then, Exit.inBlock, ↓reduceIte, Nat.reduceEqDiff])
 refine bodyPost_ret (v := (.bool true)) ?_ rfl ?_
 ·exact res_t rfl rfl
 ·exact ⟨rfl, S128.gr.below⟩
end Go.Proofs.YtajmjolgphadoaaDoor
