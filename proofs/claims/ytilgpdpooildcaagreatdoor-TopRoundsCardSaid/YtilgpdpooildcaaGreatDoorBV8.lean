/- Rules, plain laws and walks: DG2 DG3 DG4 DG5 RT1 RT2 RP1 RP2 RP3 RU1 RU2 RV FR FP P14 TP5 TP6 TP7 TP8 -/
import Derived.Test.YtilgpdpooildcaaGreatDoorBV2
import Derived.Test.YtilgpdpooildcaaGreatDoorBV7
import Derived.Test.YtilgpdpooildcaaGreatDoorBV5
import Derived.Test.YtilgpdpooildcaaGreatDoorBV1
import Derived.Test.YtilgpdpooildcaaGreatDoorBV3
import Derived.Test.YtilgpdpooildcaaGreatDoorBV4
import Derived.RangeFuncNested
import Derived.RangeFuncLeaves
import Derived.RangeFuncCalls
namespace Go.Proofs.YtilgpdpooildcaaGreatDoor
set_option maxHeartbeats 8000000
open Go.RowKit
set_option maxRecDepth 100000
set_option linter.unusedVariables false
set_option linter.unusedSimpArgs false
theorem ex_sliceA {P : Program} {ρ : Operand → Value} {w : World} {d : Option Tmp} {t X E : TypeId} {n : Nat} {pos : String} {after : Array Edge} {guard : Option (Nat × Bool)} {x lo hi : Operand} {b l h : Nat} (hX : P.underlying X = some (.array n E)) (hx : ρ x = .pointer (some ⟨b, 0, none⟩)) (hsz : (sizeOf E).run P w = .ok 1 w) (hl : ρ lo = .int .i64 (l : Int)) (hh : ρ hi = .int .i64 (h : Int)) (h1 : l ≤ h) (h2 : h ≤ n) (h3 : l < n) :
    (execOp ρ ⟨d, .slice X x (some lo) (some hi) none, t, pos, after, guard⟩).run P w = .ok (.value (.slice (some ⟨b, l, none⟩) (h - l) (n - l))) w := by
 have b1 : ∀ (z y : Nat) (code : BoundsCode), z ≤ y → (Instr.sliceBound (.int .i64 z) y code).run P w = .ok z w := by
  intro z y code hzy
  have : (0 : Int) ≤ (z : Int) ∧ (z : Int) ≤ (y : Int) := by omega
  simp [Instr.sliceBound, asIntOf, this]
 have hb : (Instr.sliceBounds false n n (some (.int .i64 l)) (some (.int .i64 h)) none).run P w = .ok (l, h, n) w := by
  simp [Instr.sliceBounds, b1 _ _ _ h2, b1 _ _ _ h1]
 have hadd : (⟨b, 0, none⟩ : Addr).add l = ⟨b, l, none⟩ := by have := Addr.add_mid b 0 l; simpa using this
 have hn : ¬ n = l := by omega
 simp [execOp, hx, hl, hh, Instr.sliceAt, Instr.sureAddr, Sem.run_bind, Sem.run_pure, Result.andThen_ok, run_underlying hX w, hb, hsz, hadd, hn]
theorem ex_s2a {P : Program} {ρ : Operand → Value} {w : World} {d : Option Tmp} {t X E : TypeId} {n : Nat} {pos : String} {after : Array Edge} {guard : Option (Nat × Bool)} {x : Operand} {a : Option Addr} {l c : Nat} (hX : P.underlying X = some (.array n E)) (hx : ρ x = .slice a l c) (hl : n ≤ l) :
    (execOp ρ ⟨d, .sliceToArrayPointer X x, t, pos, after, guard⟩).run P w = .ok (.value (.pointer a)) w := by
 have : ¬ l < n := by omega
 simp [execOp, hx, Instr.arrayAt, Sem.run_bind, Sem.run_pure, run_underlying hX w, this]
theorem St.cellsAt {w0 w : World} {F0 F : Fz} {L : List Blk} {M : List RowP} (S : St w0 F0 w F L M) {i : Nat} {n : Nat} {c : List Value} {t : TypeId} (h : L[i]? = some ⟨n, c, t⟩) : ∀ j v, c[j]? = some v → w.cell? ⟨n, j, none⟩ = some v := fun j v hv => St.cell S h hv
theorem row_load {w : World} {n : Nat} {X : List (BitVec 64)} {y : Nat} (h : ∀ (j : Nat) v, (X.map laneV)[j]? = some v → w.cell? ⟨n, j, none⟩ = some v) (hy : y + 5 ≤ X.length) :
    (Instr.loadAt 233 (.pointer (some ⟨n, y, none⟩))).run Tryz.prog w = .ok (.agg #[laneV (at0 X y), laneV (at0 X (y + 1)), laneV (at0 X (y + 2)), laneV (at0 X (y + 3)), laneV (at0 X (y + 4))]) w := by
 refine run_loadAt_mid (P := Tryz.prog) w n y 233 [laneV (at0 X y), laneV (at0 X (y + 1)), laneV (at0 X (y + 2)), laneV (at0 X (y + 3)), laneV (at0 X (y + 4))] (.array 5 215) (fun j v hj => ?_) (by kernel_rfl) rfl (by kernel_rfl)
 refine h _ _ ?_
 have hj5 : j < 5 := by have := (List.getElem?_eq_some_iff.1 hj).1; simpa using this
 rw [lanes_at (by omega), ← hj]
 rcases (by omega : j = 0 ∨ j = 1 ∨ j = 2 ∨ j = 3 ∨ j = 4) with rfl | rfl | rfl | rfl | rfl <;> rfl
theorem rho_one (A : List (BitVec 64)) (k : Nat) : (rhoL A k).1.set (goesN k) (turnL (rhoL A k).2 (turnsN k)) = (rhoL A (k + 1)).1 := rfl
def rowL (Q : List (BitVec 64)) (y : Nat) : List (BitVec 64) := [at0 Q y, at0 Q (y + 1), at0 Q (y + 2), at0 Q (y + 3), at0 Q (y + 4)]
theorem rowL_len (Q : List (BitVec 64)) (y : Nat) : (rowL Q y).length = 5 := rfl
theorem rowL_at {Q : List (BitVec 64)} {y x : Nat} (h : x < 5) : at0 (rowL Q y) x = at0 Q (y + x) := by
 rcases (by omega : x = 0 ∨ x = 1 ∨ x = 2 ∨ x = 3 ∨ x = 4) with rfl | rfl | rfl | rfl | rfl <;> rfl
theorem rowL_chi {Q : List (BitVec 64)} {y : Nat} (h : y + 5 ≤ 25) : rowL (chiK Q y) y = rowL Q y := by
 unfold rowL
 rw [chiK_at (by omega) (by omega), chiK_at (by omega) (by omega), chiK_at (by omega) (by omega), chiK_at (by omega) (by omega), chiK_at (by omega) (by omega)]
theorem chi_row {Q : List (BitVec 64)} {y x : Nat} (hy : y % 5 = 0) (hx : x < 5) : at0 (rowL Q y) x ^^^ (~~~ (at0 (rowL Q y) ((x + 1) % 5)) &&& at0 (rowL Q y) ((x + 2) % 5)) = chiAt Q (y + x) := by
 unfold chiAt
 rw [rowL_at hx, rowL_at (by omega), rowL_at (by omega), show (y + x) / 5 * 5 = y from by omega, show (y + x) % 5 = x from by omega]
theorem res_0 {fn : Func} {tmps : Array Value} {P : Program} {w : World} (h : fn.results = #[]) : (results fn tmps).run P w = .ok (.tuple #[]) w := by simp [results, h]
theorem stir_spec {w0 w : World} {F0 F : Fz} {L0 : List Blk} {M0 : List RowP} {rb r : Nat} {Z : List (BitVec 64)} (S : St w0 F0 w F (⟨rb, Z.map laneV, 217⟩ :: L0) M0) (hl : Z.length = 25) (hT : Tabs w0) (hr : r < 24) :
    Calls Tryz.prog 138 #[.pointer (some ⟨rb, 0, none⟩), .int .i64 ((r : Nat) : Int)] w fun e w' => e = .returned (.tuple #[]) ∧ St w0 F0 w' F (⟨rb, (stirL Z r).map laneV, 217⟩ :: L0) M0 := by
 go_enter Tryz.func138, Tryz.ntmps138
 refine sk fun K1 hK1 => ?_
 refine sA S (zero_233 _) fun n2 w3 S4 => ?_
 refine wn hK1 ?_
 refine wp_seq_k (fun K5 hK5 => ?_)
 refine sk fun K6 hK6 => ?_
 refine dx ?_
 refine wn hK6 ?_
 refine wp_block ?_
 have S4 : St w0 F0 w3 F (⟨n2, ((cL Z 0).map laneV), 233⟩ :: ⟨rb, (Z.map laneV), 217⟩ :: L0) (M0) := by rw [cL_zero]; exact S4
 refine wp_loop_g (fun mm aa w8 => ∃ (k1 : Nat) (u7 : Nat → Value), mm = 5 - k1 ∧ u7 = slots aa ∧ aa = ⟨#[(pP rb 0), (nI r), undef, undef, (pP n2 0), (u7 5), undef, undef, undef, undef, undef, undef, undef, undef, (nI k1), (u7 15), (u7 16), (u7 17), (u7 18), (u7 19), (u7 20), (u7 21), (u7 22), (u7 23), (u7 24), (u7 25), (u7 26), (u7 27), (u7 28), (u7 29), (u7 30), (u7 31), (u7 32), (u7 33), (u7 34), (u7 35), (u7 36), (u7 37), (u7 38), (u7 39), (u7 40), (u7 41), (u7 42), (u7 43), (u7 44), (u7 45), (u7 46), (u7 47), (u7 48), (u7 49), (u7 50), (u7 51), (u7 52), undef, undef, undef, undef, undef, undef, undef, undef, undef, undef, undef, undef, undef, undef, undef, undef, undef, undef, undef, undef, undef, undef, undef, undef, undef, undef, undef, undef, undef, undef, undef, undef, undef, undef, undef, undef, undef, undef, undef, undef, undef, undef, undef, undef, undef, undef, undef, undef, undef, undef, undef, undef, undef, undef, undef, undef, undef, undef, undef, undef, undef, undef, undef, undef, undef, undef, undef, undef, undef, undef, undef, undef, undef, undef, undef, undef, undef, undef, undef, undef, undef, undef, undef, undef, undef, undef, undef, undef, undef, undef, undef, undef, undef, undef, undef, undef, undef, undef], []⟩ ∧ St w0 F0 w8 F (⟨n2, ((cL Z k1).map laneV), 233⟩ :: ⟨rb, (Z.map laneV), 217⟩ :: L0) (M0) ∧ (k1 ≤ 5)) _ ⟨0, _, rfl, rfl, rfl, S4, (by omega)⟩ ?_
 rintro m9 a10 w11 ⟨k1, u7, rfl, -, rfl, S12, hk1⟩ K14 hK14
 refine sk fun K15 hK15 => ?_
 by_cases hc15 : k1 < 5
 refine lssT ?_
 simp only [pq]
 refine wn hK15 ?_
 refine wp_seq_k (fun K16 hK16 => ?_)
 refine wp_cond_true rfl ?_
 refine wp_skip ?_
 refine hK16 _ _ ?_
 refine wp_seq_k (fun K17 hK17 => ?_)
 refine wp_block ?_
 refine sk fun K18 hK18 => ?_
 refine dx ?_
 refine dy ?_
 refine wn hK18 ?_
 refine region_gw F 34 [] (by kernel_rfl) (by kernel_rfl) ?_
 simp only [List.take_succ_cons, List.take_zero]
 refine gm ?_
 simp only [pq]
 iterate 2 refine gm ?_
 refine gi ?_
 simp only [pq]
 refine gv (pP rb k1) (fun _ _ => ex_atA (i := k1) Tryz.underlying217 (sizeof_215 _) rfl rfl (by omega)) ?_
 refine gv _ (fun _ C19 => ex_load rfl (load1 (nagg_215 _) (St.cell (St.tells S12 C19) (i := 1) rfl (lanes_at (Nat.lt_of_lt_of_eq (show k1 < 25 by omega) hl.symm))))) ?_
 refine gm ?_
 simp only [pq]
 refine gm ?_
 refine gv (nI (k1 + 5)) (fun _ _ => ex_add (m := ((k1 : Nat) : Int)) (n := (5 : Int)) (r := (((k1 + 5) : Nat) : Int)) rfl rfl (by omega) (by omega) (by omega)) ?_
 refine gi ?_
 simp only [pq]
 refine gv (pP rb ((k1 + 5))) (fun _ _ => ex_atA (i := (k1 + 5)) Tryz.underlying217 (sizeof_215 _) rfl rfl (by omega)) ?_
 refine gv _ (fun _ C19 => ex_load rfl (load1 (nagg_215 _) (St.cell (St.tells S12 C19) (i := 1) rfl (lanes_at (Nat.lt_of_lt_of_eq (show (k1 + 5) < 25 by omega) hl.symm))))) ?_
 refine gv (laneV ((at0 Z k1) ^^^ (at0 Z (k1 + 5)))) (fun _ _ => ex_xorL rfl rfl) ?_
 simp only [pq]
 iterate 2 refine gm ?_
 refine gv (nI (k1 + 10)) (fun _ _ => ex_add (m := ((k1 : Nat) : Int)) (n := (10 : Int)) (r := (((k1 + 10) : Nat) : Int)) rfl rfl (by omega) (by omega) (by omega)) ?_
 simp only [pq]
 refine gi ?_
 refine gv (pP rb ((k1 + 10))) (fun _ _ => ex_atA (i := (k1 + 10)) Tryz.underlying217 (sizeof_215 _) rfl rfl (by omega)) ?_
 refine gv _ (fun _ C19 => ex_load rfl (load1 (nagg_215 _) (St.cell (St.tells S12 C19) (i := 1) rfl (lanes_at (Nat.lt_of_lt_of_eq (show (k1 + 10) < 25 by omega) hl.symm))))) ?_
 simp only [pq]
 refine gv (laneV (((at0 Z k1) ^^^ (at0 Z (k1 + 5))) ^^^ (at0 Z (k1 + 10)))) (fun _ _ => ex_xorL rfl rfl) ?_
 iterate 2 refine gm ?_
 simp only [pq]
 refine gv (nI (k1 + 15)) (fun _ _ => ex_add (m := ((k1 : Nat) : Int)) (n := (15 : Int)) (r := (((k1 + 15) : Nat) : Int)) rfl rfl (by omega) (by omega) (by omega)) ?_
 refine gi ?_
 refine gv (pP rb ((k1 + 15))) (fun _ _ => ex_atA (i := (k1 + 15)) Tryz.underlying217 (sizeof_215 _) rfl rfl (by omega)) ?_
 simp only [pq]
 refine gv _ (fun _ C19 => ex_load rfl (load1 (nagg_215 _) (St.cell (St.tells S12 C19) (i := 1) rfl (lanes_at (Nat.lt_of_lt_of_eq (show (k1 + 15) < 25 by omega) hl.symm))))) ?_
 refine gv (laneV ((((at0 Z k1) ^^^ (at0 Z (k1 + 5))) ^^^ (at0 Z (k1 + 10))) ^^^ (at0 Z (k1 + 15)))) (fun _ _ => ex_xorL rfl rfl) ?_
 refine gm ?_
 simp only [pq]
 refine gm ?_
 refine gv (nI (k1 + 20)) (fun _ _ => ex_add (m := ((k1 : Nat) : Int)) (n := (20 : Int)) (r := (((k1 + 20) : Nat) : Int)) rfl rfl (by omega) (by omega) (by omega)) ?_
 refine gi ?_
 simp only [pq]
 refine gv (pP rb ((k1 + 20))) (fun _ _ => ex_atA (i := (k1 + 20)) Tryz.underlying217 (sizeof_215 _) rfl rfl (by omega)) ?_
 refine gv _ (fun _ C19 => ex_load rfl (load1 (nagg_215 _) (St.cell (St.tells S12 C19) (i := 1) rfl (lanes_at (Nat.lt_of_lt_of_eq (show (k1 + 20) < 25 by omega) hl.symm))))) ?_
 refine gv (laneV (((((at0 Z k1) ^^^ (at0 Z (k1 + 5))) ^^^ (at0 Z (k1 + 10))) ^^^ (at0 Z (k1 + 15))) ^^^ (at0 Z (k1 + 20)))) (fun _ _ => ex_xorL rfl rfl) ?_
 simp only [pq]
 refine gw_nil ?_
 intro w20 hC22 hF23
 clear hF23
 have S21 := St.tells S12 hC22
 simp only [List.drop_succ_cons, List.drop_zero]
 refine dr (pP n2 k1) (ex_atA (i := k1) Tryz.underlying233 (sizeof_215 _) rfl rfl (by omega)) ?_
 refine stStore (i := 0) (v := laneV (((((at0 Z k1) ^^^ (at0 Z (k1 + 5))) ^^^ (at0 Z (k1 + 10))) ^^^ (at0 Z (k1 + 15))) ^^^ (at0 Z (k1 + 20)))) S21 rfl rfl rfl rfl (size_215) (allc1 rfl) (by rw [List.length_map, (cL_len _ _)]; show k1 + 1 ≤ 5; omega) (fun w24 S25 => ?_)
 simp only [pq]
 have S25 : St w0 F0 w24 F (⟨n2, (splice ((cL Z k1).map laneV) k1 [laneV (((((at0 Z k1) ^^^ (at0 Z (k1 + 5))) ^^^ (at0 Z (k1 + 10))) ^^^ (at0 Z (k1 + 15))) ^^^ (at0 Z (k1 + 20)))]), 233⟩ :: ⟨rb, (Z.map laneV), 217⟩ :: L0) (M0) := S25
 rw [lanes_set (Nat.lt_of_lt_of_eq (show k1 < 5 by omega) (cL_len _ _).symm)] at S25
 have S25 : St w0 F0 w24 F (⟨n2, (((cL Z k1).set k1 (colL Z k1)).map laneV), 233⟩ :: ⟨rb, (Z.map laneV), 217⟩ :: L0) (M0) := S25
 rw [cL_step Z (by omega)] at S25
 refine wl_nil (hK17 _ _ ?_)
 refine region_wl ?_
 refine dAdd (k1 + 1) ?_
 refine dx ?_
 refine wl_nil ?_
 exact hK14 _ _ _ (by omega) ⟨(k1 + 1), _, rfl, rfl, rfl, S25, (by omega)⟩
 refine lssF ?_
 simp only [pq]
 refine wn hK15 ?_
 refine wp_seq_k (fun K26 hK26 => ?_)
 refine wp_cond_false rfl ?_
 refine wp_exit ?_
 refine hK5 _ _ ?_
 refine wp_seq_k (fun K27 hK27 => ?_)
 refine wp_seq_k (fun K28 hK28 => ?_)
 obtain rfl : k1 = 5 := by omega
 refine region_wl ?_
 refine dx ?_
 refine wl_nil (hK28 _ _ ?_)
 refine wp_block ?_
 have S12 : St w0 F0 w11 F (⟨n2, ((cL Z 5).map laneV), 233⟩ :: ⟨rb, ((thL Z (cL Z 5) 0).map laneV), 217⟩ :: L0) (M0) := by rw [thL_zero hl]; exact S12
 refine wp_loop_g (fun mm aa w30 => ∃ (k2 : Nat) (u29 : Nat → Value), mm = 25 - k2 ∧ u29 = slots aa ∧ aa = ⟨#[(pP rb 0), (nI r), undef, undef, (pP n2 0), (u7 5), (u29 6), (u29 7), undef, undef, undef, undef, undef, undef, (iI 5), bF, (u7 16), (u7 17), (u7 18), (u7 19), (u7 20), (u7 21), (u7 22), (u7 23), (u7 24), (u7 25), (u7 26), (u7 27), (u7 28), (u7 29), (u7 30), (u7 31), (u7 32), (u7 33), (u7 34), (u7 35), (u7 36), (u7 37), (u7 38), (u7 39), (u7 40), (u7 41), (u7 42), (u7 43), (u7 44), (u7 45), (u7 46), (u7 47), (u7 48), (u7 49), (u7 50), (u7 51), (u7 52), (nI k2), (u29 54), (u29 55), (u29 56), (u29 57), (u29 58), (u29 59), (u29 60), (u29 61), (u29 62), (u29 63), (u29 64), (u29 65), (u29 66), (u29 67), (u29 68), (u29 69), (u29 70), (u29 71), (u29 72), (u29 73), (u29 74), (u29 75), (u29 76), (u29 77), (u29 78), undef, undef, undef, undef, undef, undef, undef, undef, undef, undef, undef, undef, undef, undef, undef, undef, undef, undef, undef, undef, undef, undef, undef, undef, undef, undef, undef, undef, undef, undef, undef, undef, undef, undef, undef, undef, undef, undef, undef, undef, undef, undef, undef, undef, undef, undef, undef, undef, undef, undef, undef, undef, undef, undef, undef, undef, undef, undef, undef, undef, undef, undef, undef, undef, undef, undef, undef, undef, undef, undef, undef, undef], []⟩ ∧ St w0 F0 w30 F (⟨n2, ((cL Z 5).map laneV), 233⟩ :: ⟨rb, ((thL Z (cL Z 5) k2).map laneV), 217⟩ :: L0) (M0) ∧ (k2 ≤ 25)) _ ⟨0, _, rfl, rfl, rfl, S12, (by omega)⟩ ?_
 rintro m31 a32 w33 ⟨k2, u29, rfl, -, rfl, S34, hk2⟩ K36 hK36
 refine sk fun K37 hK37 => ?_
 by_cases hc54 : k2 < 25
 refine lssT ?_
 refine wn hK37 ?_
 refine wp_seq_k (fun K38 hK38 => ?_)
 refine wp_cond_true rfl ?_
 refine wp_skip ?_
 refine hK38 _ _ ?_
 refine wp_seq_k (fun K39 hK39 => ?_)
 refine wp_block ?_
 refine sk fun K40 hK40 => ?_
 refine dx ?_
 refine dy ?_
 simp only [pq]
 refine wn hK40 ?_
 refine sk fun K41 hK41 => ?_
 refine dx ?_
 refine dr (nI (k2 % 5)) (ex_remA (m := k2) (n := 5) rfl rfl (by decide) (by omega)) ?_
 refine dy ?_
 simp only [pq]
 refine wn hK41 ?_
 refine region_gw F 19 [(15, .is (laneV (turnL (at0 (cL Z 5) (((k2 % 5) + 1) % 5)) 1)))] (by kernel_rfl) (by kernel_rfl) ?_
 simp only [List.take_succ_cons, List.take_zero]
 iterate 2 refine gm ?_
 refine gi ?_
 simp only [pq]
 refine gv (pP rb k2) (fun _ _ => ex_atA (i := k2) Tryz.underlying217 (sizeof_215 _) rfl rfl (by omega)) ?_
 refine gv _ (fun _ C42 => ex_load rfl (load1 (nagg_215 _) (St.cell (St.tells S34 C42) (i := 1) rfl (lanes_at (Nat.lt_of_lt_of_eq (show k2 < 25 by omega) (thL_len _ _ _).symm))))) ?_
 refine gm ?_
 simp only [pq]
 refine gv (nI ((k2 % 5) + 4)) (fun _ _ => ex_add (m := (((k2 % 5) : Nat) : Int)) (n := (4 : Int)) (r := ((((k2 % 5) + 4) : Nat) : Int)) rfl rfl (by omega) (by omega) (by omega)) ?_
 refine gv (.int .i64 (((((k2 % 5) + 4) % 5) : Nat) : Int)) (fun _ _ => ex_remA (m := ((k2 % 5) + 4)) (n := 5) rfl rfl (by decide) (by omega)) ?_
 refine gv (pP n2 ((((k2 % 5) + 4) % 5))) (fun _ _ => ex_atA (i := (((k2 % 5) + 4) % 5)) Tryz.underlying233 (sizeof_215 _) rfl rfl (by omega)) ?_
 simp only [pq]
 refine gv _ (fun _ C42 => ex_load rfl (load1 (nagg_215 _) (St.cell (St.tells S34 C42) (i := 0) rfl (lanes_at (Nat.lt_of_lt_of_eq (show (((k2 % 5) + 4) % 5) < 5 by omega) (cL_len _ _).symm))))) ?_
 refine gm ?_
 refine gv (nI ((k2 % 5) + 1)) (fun _ _ => ex_add (m := (((k2 % 5) : Nat) : Int)) (n := (1 : Int)) (r := ((((k2 % 5) + 1) : Nat) : Int)) rfl rfl (by omega) (by omega) (by omega)) ?_
 simp only [pq]
 refine gv (.int .i64 (((((k2 % 5) + 1) % 5) : Nat) : Int)) (fun _ _ => ex_remA (m := ((k2 % 5) + 1)) (n := 5) rfl rfl (by decide) (by omega)) ?_
 refine gv (pP n2 ((((k2 % 5) + 1) % 5))) (fun _ _ => ex_atA (i := (((k2 % 5) + 1) % 5)) Tryz.underlying233 (sizeof_215 _) rfl rfl (by omega)) ?_
 refine gv _ (fun _ C42 => ex_load rfl (load1 (nagg_215 _) (St.cell (St.tells S34 C42) (i := 0) rfl (lanes_at (Nat.lt_of_lt_of_eq (show (((k2 % 5) + 1) % 5) < 5 by omega) (cL_len _ _).symm))))) ?_
 simp only [pq]
 refine gw_const rfl rfl (v := (laneV (turnL (at0 (cL Z 5) (((k2 % 5) + 1) % 5)) 1))) (fun w42 C42 _ => does_call (ex_fn (vs := #[(laneV (at0 (cL Z 5) (((k2 % 5) + 1) % 5))), (iI 1)]) (map2 rfl rfl) rfl (ent_148 _ _)) (call_tells (turn_spec _ (at0 (cL Z 5) (((k2 % 5) + 1) % 5)) 1 (by decide) (by decide)))) ?_
 refine gv (laneV ((at0 (cL Z 5) (((k2 % 5) + 4) % 5)) ^^^ (turnL (at0 (cL Z 5) (((k2 % 5) + 1) % 5)) 1))) (fun _ _ => ex_xorL rfl rfl) ?_
 refine gv (laneV ((at0 (thL Z (cL Z 5) k2) k2) ^^^ ((at0 (cL Z 5) (((k2 % 5) + 4) % 5)) ^^^ (turnL (at0 (cL Z 5) (((k2 % 5) + 1) % 5)) 1)))) (fun _ _ => ex_xorL rfl rfl) ?_
 refine gi ?_
 simp only [pq]
 refine gw_nil ?_
 intro w43 hC45 hF46
 clear hF46
 have S44 := St.tells S34 hC45
 simp only [List.drop_succ_cons, List.drop_zero]
 refine dr (pP rb k2) (ex_atA (i := k2) Tryz.underlying217 (sizeof_215 _) rfl rfl (by omega)) ?_
 refine stStore (i := 1) (v := laneV ((at0 (thL Z (cL Z 5) k2) k2) ^^^ ((at0 (cL Z 5) (((k2 % 5) + 4) % 5)) ^^^ (turnL (at0 (cL Z 5) (((k2 % 5) + 1) % 5)) 1)))) S44 rfl rfl rfl rfl (size_215) (allc1 rfl) (by rw [List.length_map, (thL_len _ _ _)]; show k2 + 1 ≤ 25; omega) (fun w47 S48 => ?_)
 simp only [pq]
 have S48 : St w0 F0 w47 F (⟨n2, ((cL Z 5).map laneV), 233⟩ :: ⟨rb, (splice ((thL Z (cL Z 5) k2).map laneV) k2 [laneV ((at0 (thL Z (cL Z 5) k2) k2) ^^^ ((at0 (cL Z 5) (((k2 % 5) + 4) % 5)) ^^^ (turnL (at0 (cL Z 5) (((k2 % 5) + 1) % 5)) 1)))]), 217⟩ :: L0) (M0) := S48
 rw [lanes_set (Nat.lt_of_lt_of_eq (show k2 < 25 by omega) (thL_len _ _ _).symm)] at S48
 rw [thL_at (S := Z) (C := (cL Z 5)) (i := k2) (by omega)] at S48
 have S48 : St w0 F0 w47 F (⟨n2, ((cL Z 5).map laneV), 233⟩ :: ⟨rb, (((thL Z (cL Z 5) k2).set k2 (thAt Z (cL Z 5) k2)).map laneV), 217⟩ :: L0) (M0) := S48
 rw [thL_step Z _ (by omega)] at S48
 refine wl_nil (hK39 _ _ ?_)
 refine region_wl ?_
 refine dAdd (k2 + 1) ?_
 refine dx ?_
 refine wl_nil ?_
 exact hK36 _ _ _ (by omega) ⟨(k2 + 1), _, rfl, rfl, rfl, S48, (by omega)⟩
 refine lssF ?_
 simp only [pq]
 refine wn hK37 ?_
 refine wp_seq_k (fun K49 hK49 => ?_)
 refine wp_cond_false rfl ?_
 refine wp_exit ?_
 refine hK27 _ _ ?_
 refine wp_seq_k (fun K50 hK50 => ?_)
 obtain rfl : k2 = 25 := by omega
 obtain ⟨A, hA⟩ : ∃ A, A = thL Z (cL Z 5) 25 := ⟨_, rfl⟩
 have hAl : A.length = 25 := by rw [hA]; exact thL_len _ _ _
 rw [← hA] at S34
 refine region_wl ?_
 refine dx ?_
 refine di ?_
 refine dr (pP rb 1) (ex_atA (i := 1) Tryz.underlying217 (sizeof_215 _) rfl rfl (by omega)) ?_
 simp only [pq]
 refine dr _ (ex_load rfl (load1 (nagg_215 _) (St.cell S34 (i := 1) rfl (lanes_at (Nat.lt_of_lt_of_eq (show 1 < 25 by omega) hAl.symm))))) ?_
 refine dy ?_
 refine wl_nil (hK50 _ _ ?_)
 refine wp_seq_k (fun K51 hK51 => ?_)
 refine sk fun K52 hK52 => ?_
 refine dr (.agg goesV) (ex_load rfl (goes_load (hT.at S34.gr.below))) ?_
 refine dx ?_
 simp only [pq]
 refine wn hK52 ?_
 refine wp_block ?_
 refine wp_loop_g (fun mm aa w54 => ∃ (k3 : Nat) (u53 : Nat → Value), mm = 24 - k3 ∧ u53 = slots aa ∧ aa = ⟨#[(pP rb 0), (nI r), undef, undef, (pP n2 0), (u7 5), (u29 6), (u29 7), (laneV (rhoL A k3).2), (u53 9), (u53 10), undef, undef, undef, (iI 5), bF, (u7 16), (u7 17), (u7 18), (u7 19), (u7 20), (u7 21), (u7 22), (u7 23), (u7 24), (u7 25), (u7 26), (u7 27), (u7 28), (u7 29), (u7 30), (u7 31), (u7 32), (u7 33), (u7 34), (u7 35), (u7 36), (u7 37), (u7 38), (u7 39), (u7 40), (u7 41), (u7 42), (u7 43), (u7 44), (u7 45), (u7 46), (u7 47), (u7 48), (u7 49), (u7 50), (u7 51), (u7 52), (iI 25), bF, (u29 55), (u29 56), (u29 57), (u29 58), (u29 59), (u29 60), (u29 61), (u29 62), (u29 63), (u29 64), (u29 65), (u29 66), (u29 67), (u29 68), (u29 69), (u29 70), (u29 71), (u29 72), (u29 73), (u29 74), (u29 75), (u29 76), (u29 77), (u29 78), (pP rb 0), (pP rb 0), (pP rb 1), (laneV (at0 A 1)), (.agg goesV), (nI k3), (u53 85), (u53 86), (u53 87), (u53 88), (u53 89), (u53 90), (u53 91), (u53 92), (u53 93), (u53 94), (u53 95), (u53 96), (u53 97), (u53 98), (u53 99), (u53 100), (u53 101), (u53 102), undef, undef, undef, undef, undef, undef, undef, undef, undef, undef, undef, undef, undef, undef, undef, undef, undef, undef, undef, undef, undef, undef, undef, undef, undef, undef, undef, undef, undef, undef, undef, undef, undef, undef, undef, undef, undef, undef, undef, undef, undef, undef, undef, undef, undef, undef, undef, undef], []⟩ ∧ St w0 F0 w54 F (⟨n2, ((cL Z 5).map laneV), 233⟩ :: ⟨rb, ((rhoL A k3).1.map laneV), 217⟩ :: L0) (M0) ∧ (k3 ≤ 24)) _ ⟨0, _, rfl, rfl, rfl, S34, (by omega)⟩ ?_
 rintro m55 a56 w57 ⟨k3, u53, rfl, -, rfl, S58, hk3⟩ K60 hK60
 refine sk fun K61 hK61 => ?_
 by_cases hc85 : k3 < 24
 refine lssT ?_
 refine wn hK61 ?_
 refine wp_seq_k (fun K62 hK62 => ?_)
 refine wp_cond_true rfl ?_
 refine wp_skip ?_
 refine hK62 _ _ ?_
 refine wp_seq_k (fun K63 hK63 => ?_)
 refine wp_block ?_
 refine wp_seq_k (fun K64 hK64 => ?_)
 have hgo := goesN_bd k3 (by omega)
 refine region_wl ?_
 refine dx ?_
 refine dr (nI (goesN k3)) (ex_ixA (i := k3) Tryz.underlying235 (sizeof_3 _) rfl rfl (by omega) (nagg_3 _) (goes_at (by omega))) ?_
 refine dy ?_
 simp only [pq]
 refine dy ?_
 refine wl_nil (hK64 _ _ ?_)
 refine region_gw F 13 [(6, .is (laneV (turnL ((rhoL A k3).2) (turnsN k3))))] (by kernel_rfl) (by kernel_rfl) ?_
 simp only [List.take_succ_cons, List.take_zero]
 iterate 2 refine gm ?_
 simp only [pq]
 iterate 2 refine gm ?_
 refine gv (pP 3 k3) (fun _ _ => ex_atA (i := k3) Tryz.underlying235 (sizeof_3 _) rfl rfl (by omega)) ?_
 simp only [pq]
 refine gv _ (fun _ C65 => ex_load rfl (load1 (nagg_3 _) (((hT.at (St.tells S58 C65).gr.below).2.1 k3 (by omega))))) ?_
 simp only [pq]
 refine gw_const rfl rfl (v := (laneV (turnL ((rhoL A k3).2) (turnsN k3)))) (fun w65 C65 _ => does_call (ex_fn (vs := #[(laneV (rhoL A k3).2), (nI (turnsN k3))]) (map2 rfl rfl) rfl (ent_148 _ _)) (call_tells (turn_spec _ ((rhoL A k3).2) (turnsN k3) (turnsN_bd _ (by omega)).1 (turnsN_bd _ (by omega)).2))) ?_
 iterate 2 refine gm ?_
 refine gi ?_
 simp only [pq]
 refine gv (pP rb ((goesN k3))) (fun _ _ => ex_atA (i := (goesN k3)) Tryz.underlying217 (sizeof_215 _) rfl rfl (by omega)) ?_
 refine gv _ (fun _ C65 => ex_load rfl (load1 (nagg_215 _) (St.cell (St.tells S58 C65) (i := 1) rfl (lanes_at (Nat.lt_of_lt_of_eq (show (goesN k3) < 25 by omega) (rhoL_len hAl _).symm))))) ?_
 refine gi ?_
 simp only [pq]
 refine gw_nil ?_
 intro w66 hC68 hF69
 clear hF69
 have S67 := St.tells S58 hC68
 simp only [List.drop_succ_cons, List.drop_zero]
 refine dr (pP rb ((goesN k3))) (ex_atA (i := (goesN k3)) Tryz.underlying217 (sizeof_215 _) rfl rfl (by omega)) ?_
 refine stStore (i := 1) (v := laneV (turnL ((rhoL A k3).2) (turnsN k3))) S67 rfl rfl rfl rfl (size_215) (allc1 rfl) (by rw [List.length_map, (rhoL_len hAl _)]; show (goesN k3) + 1 ≤ 25; omega) (fun w70 S71 => ?_)
 simp only [pq]
 have S71 : St w0 F0 w70 F (⟨n2, ((cL Z 5).map laneV), 233⟩ :: ⟨rb, (splice (((rhoL A k3).1).map laneV) (goesN k3) [laneV (turnL ((rhoL A k3).2) (turnsN k3))]), 217⟩ :: L0) (M0) := S71
 rw [lanes_set (Nat.lt_of_lt_of_eq (show (goesN k3) < 25 by omega) (rhoL_len hAl _).symm)] at S71
 rw [rho_one] at S71
 refine dy ?_
 refine wl_nil (hK63 _ _ ?_)
 refine region_wl ?_
 refine dAdd (k3 + 1) ?_
 refine dx ?_
 simp only [pq]
 refine wl_nil ?_
 exact hK60 _ _ _ (by omega) ⟨(k3 + 1), _, rfl, rfl, rfl, S71, (by omega)⟩
 refine lssF ?_
 refine wn hK61 ?_
 refine wp_seq_k (fun K72 hK72 => ?_)
 refine wp_cond_false rfl ?_
 refine wp_exit ?_
 refine hK51 _ _ ?_
 refine wp_seq_k (fun K73 hK73 => ?_)
 refine wp_seq_k (fun K74 hK74 => ?_)
 obtain rfl : k3 = 24 := by omega
 obtain ⟨Q, hQ⟩ : ∃ Q, Q = (rhoL A 24).1 := ⟨_, rfl⟩
 have hQl : Q.length = 25 := by rw [hQ]; exact rhoL_len hAl _
 rw [← hQ] at S58
 refine region_wl ?_
 refine dy ?_
 refine wl_nil (hK74 _ _ ?_)
 refine wp_block ?_
 have S58 : St w0 F0 w57 F (⟨n2, ((cL Z 5).map laneV), 233⟩ :: ⟨rb, ((chiK Q 0).map laneV), 217⟩ :: L0) (M0) := by rw [chiK_zero hQl]; exact S58
 refine wp_loop_g (fun mm aa w76 => ∃ (y : Nat) (u75 : Nat → Value), mm = 25 - y ∧ u75 = slots aa ∧ aa = ⟨#[(pP rb 0), (nI r), undef, undef, (pP n2 0), (u7 5), (u29 6), (u29 7), (laneV (rhoL A 24).2), (u53 9), (u53 10), (nI y), (u75 12), (u75 13), (iI 5), bF, (u7 16), (u7 17), (u7 18), (u7 19), (u7 20), (u7 21), (u7 22), (u7 23), (u7 24), (u7 25), (u7 26), (u7 27), (u7 28), (u7 29), (u7 30), (u7 31), (u7 32), (u7 33), (u7 34), (u7 35), (u7 36), (u7 37), (u7 38), (u7 39), (u7 40), (u7 41), (u7 42), (u7 43), (u7 44), (u7 45), (u7 46), (u7 47), (u7 48), (u7 49), (u7 50), (u7 51), (u7 52), (iI 25), bF, (u29 55), (u29 56), (u29 57), (u29 58), (u29 59), (u29 60), (u29 61), (u29 62), (u29 63), (u29 64), (u29 65), (u29 66), (u29 67), (u29 68), (u29 69), (u29 70), (u29 71), (u29 72), (u29 73), (u29 74), (u29 75), (u29 76), (u29 77), (u29 78), (pP rb 0), (pP rb 0), (pP rb 1), (laneV (at0 A 1)), (.agg goesV), (iI 24), bF, (u53 86), (u53 87), (u53 88), (u53 89), (u53 90), (u53 91), (u53 92), (u53 93), (u53 94), (u53 95), (u53 96), (u53 97), (u53 98), (u53 99), (u53 100), (u53 101), (u53 102), (u75 103), (u75 104), (u75 105), (u75 106), (u75 107), (u75 108), (u75 109), (u75 110), (u75 111), (u75 112), (u75 113), (u75 114), (u75 115), (u75 116), (u75 117), (u75 118), (u75 119), (u75 120), (u75 121), (u75 122), (u75 123), (u75 124), (u75 125), (u75 126), (u75 127), (u75 128), (u75 129), (u75 130), (u75 131), (u75 132), (u75 133), (u75 134), (u75 135), (u75 136), (u75 137), (u75 138), (u75 139), (u75 140), undef, undef, undef, undef, undef, undef, undef, undef, undef, undef], []⟩ ∧ St w0 F0 w76 F (⟨n2, ((cL Z 5).map laneV), 233⟩ :: ⟨rb, ((chiK Q y).map laneV), 217⟩ :: L0) (M0) ∧ (y % 5 = 0) ∧ (y ≤ 25)) _ ⟨0, _, rfl, rfl, rfl, S58, (by omega), (by omega)⟩ ?_
 rintro m77 a78 w79 ⟨y, u75, rfl, -, rfl, S80, hy5, hy25⟩ K82 hK82
 refine wp_seq_k (fun K83 hK83 => ?_)
 refine sk fun K84 hK84 => ?_
 refine dx ?_
 simp only [pq]
 by_cases hc104 : y < 25
 refine lssT ?_
 refine wn hK84 ?_
 refine wp_cond_true rfl ?_
 refine wp_skip ?_
 refine hK83 _ _ ?_
 refine wp_seq_k (fun K85 hK85 => ?_)
 refine wp_block ?_
 refine sk fun K86 hK86 => ?_
 refine dx ?_
 refine di ?_
 refine dx ?_
 simp only [pq]
 refine dx ?_
 refine dAdd (y + 5) ?_
 refine dr (.slice (aA rb y) ((y + 5) - y) (25 - y)) (ex_sliceA (l := y) (h := (y + 5)) Tryz.underlying217 rfl (sizeof_215 _) rfl rfl (by omega) (by omega) (by omega)) ?_
 simp only [pq]
 refine dr (pP rb y) (ex_s2a Tryz.underlying233 rfl (by omega)) ?_
 refine dr (.agg #[(laneV (at0 (chiK Q y) y)), (laneV (at0 (chiK Q y) (y + 1))), (laneV (at0 (chiK Q y) (y + 2))), (laneV (at0 (chiK Q y) (y + 3))), (laneV (at0 (chiK Q y) (y + 4)))]) (ex_load rfl (row_load (St.cellsAt S80 (i := 1) rfl) (show y + 5 ≤ (chiK Q y).length from by rw [(chiK_len _ _)]; omega))) ?_
 refine sA S80 (zero_233 _) fun n87 w88 S89 => ?_
 simp only [pq]
 refine sW 0 S89 (size_233) fun w90 S91 => ?_
 refine wn hK86 ?_
 refine sk fun K92 hK92 => ?_
 refine dx ?_
 refine wn hK92 ?_
 refine wp_block ?_
 have S91 : St w0 F0 w90 F (⟨n87, ((rowL (chiK Q y) y).map laneV), 233⟩ :: ⟨n2, ((cL Z 5).map laneV), 233⟩ :: ⟨rb, ((chiK Q y).map laneV), 217⟩ :: L0) (M0) := S91
 rw [rowL_chi (by omega)] at S91
 refine wp_loop_g (fun mm aa w94 => ∃ (k5 : Nat) (u93 : Nat → Value), mm = 5 - k5 ∧ u93 = slots aa ∧ aa = ⟨#[(pP rb 0), (nI r), undef, undef, (pP n2 0), (u7 5), (u29 6), (u29 7), (laneV (rhoL A 24).2), (u53 9), (u53 10), (nI y), (pP n87 0), (u93 13), (iI 5), bF, (u7 16), (u7 17), (u7 18), (u7 19), (u7 20), (u7 21), (u7 22), (u7 23), (u7 24), (u7 25), (u7 26), (u7 27), (u7 28), (u7 29), (u7 30), (u7 31), (u7 32), (u7 33), (u7 34), (u7 35), (u7 36), (u7 37), (u7 38), (u7 39), (u7 40), (u7 41), (u7 42), (u7 43), (u7 44), (u7 45), (u7 46), (u7 47), (u7 48), (u7 49), (u7 50), (u7 51), (u7 52), (iI 25), bF, (u29 55), (u29 56), (u29 57), (u29 58), (u29 59), (u29 60), (u29 61), (u29 62), (u29 63), (u29 64), (u29 65), (u29 66), (u29 67), (u29 68), (u29 69), (u29 70), (u29 71), (u29 72), (u29 73), (u29 74), (u29 75), (u29 76), (u29 77), (u29 78), (pP rb 0), (pP rb 0), (pP rb 1), (laneV (at0 A 1)), (.agg goesV), (iI 24), bF, (u53 86), (u53 87), (u53 88), (u53 89), (u53 90), (u53 91), (u53 92), (u53 93), (u53 94), (u53 95), (u53 96), (u53 97), (u53 98), (u53 99), (u53 100), (u53 101), (u53 102), (nI y), bT, (u75 105), (u75 106), (pP rb 0), (pP rb 0), (nI y), (nI y), (nI (y + 5)), (.slice (aA rb y) ((y + 5) - y) (25 - y)), (pP rb y), (.agg #[(laneV (at0 (chiK Q y) y)), (laneV (at0 (chiK Q y) (y + 1))), (laneV (at0 (chiK Q y) (y + 2))), (laneV (at0 (chiK Q y) (y + 3))), (laneV (at0 (chiK Q y) (y + 4)))]), (nI k5), (u93 116), (u93 117), (u93 118), (u93 119), (u93 120), (u93 121), (u93 122), (u93 123), (u93 124), (u93 125), (u93 126), (u93 127), (u93 128), (u93 129), (u93 130), (u93 131), (u93 132), (u93 133), (u93 134), (u93 135), (u93 136), (u93 137), (u93 138), (u93 139), (u93 140), undef, undef, undef, undef, undef, undef, undef, undef, undef, undef], []⟩ ∧ St w0 F0 w94 F (⟨n87, ((rowL Q y).map laneV), 233⟩ :: ⟨n2, ((cL Z 5).map laneV), 233⟩ :: ⟨rb, ((chiK Q (y + k5)).map laneV), 217⟩ :: L0) (M0) ∧ (k5 ≤ 5)) _ ⟨0, _, rfl, rfl, rfl, S91, (by omega)⟩ ?_
 rintro m95 a96 w97 ⟨k5, u93, rfl, -, rfl, S98, hk5⟩ K100 hK100
 refine sk fun K101 hK101 => ?_
 by_cases hc116 : k5 < 5
 refine lssT ?_
 simp only [pq]
 refine wn hK101 ?_
 refine wp_seq_k (fun K102 hK102 => ?_)
 refine wp_cond_true rfl ?_
 refine wp_skip ?_
 refine hK102 _ _ ?_
 refine wp_seq_k (fun K103 hK103 => ?_)
 refine wp_block ?_
 refine sk fun K104 hK104 => ?_
 refine dx ?_
 refine dy ?_
 refine wn hK104 ?_
 refine region_gw F 21 [] (by kernel_rfl) (by kernel_rfl) ?_
 simp only [List.take_succ_cons, List.take_zero]
 refine gm ?_
 simp only [pq]
 iterate 2 refine gm ?_
 refine gv (nI (y + k5)) (fun _ _ => ex_add (m := ((y : Nat) : Int)) (n := ((k5 : Nat) : Int)) (r := (((y + k5) : Nat) : Int)) rfl rfl (by omega) (by omega) (by omega)) ?_
 simp only [pq]
 refine gm ?_
 refine gv (pP n87 k5) (fun _ _ => ex_atA (i := k5) Tryz.underlying233 (sizeof_215 _) rfl rfl (by omega)) ?_
 refine gv _ (fun _ C105 => ex_load rfl (load1 (nagg_215 _) (St.cell (St.tells S98 C105) (i := 0) rfl (lanes_at (Nat.lt_of_lt_of_eq (show k5 < 5 by omega) (rowL_len _ _).symm))))) ?_
 simp only [pq]
 refine gm ?_
 refine gv (nI (k5 + 1)) (fun _ _ => ex_add (m := ((k5 : Nat) : Int)) (n := (1 : Int)) (r := (((k5 + 1) : Nat) : Int)) rfl rfl (by omega) (by omega) (by omega)) ?_
 refine gv (nI ((k5 + 1) % 5)) (fun _ _ => ex_remA (m := (k5 + 1)) (n := 5) rfl rfl (by decide) (by omega)) ?_
 simp only [pq]
 refine gv (pP n87 (((k5 + 1) % 5))) (fun _ _ => ex_atA (i := ((k5 + 1) % 5)) Tryz.underlying233 (sizeof_215 _) rfl rfl (by omega)) ?_
 refine gv _ (fun _ C105 => ex_load rfl (load1 (nagg_215 _) (St.cell (St.tells S98 C105) (i := 0) rfl (lanes_at (Nat.lt_of_lt_of_eq (show ((k5 + 1) % 5) < 5 by omega) (rowL_len _ _).symm))))) ?_
 refine gv (laneV (~~~ (at0 (rowL Q y) ((k5 + 1) % 5)))) (fun _ _ => ex_notL rfl) ?_
 simp only [pq]
 refine gm ?_
 refine gv (nI (k5 + 2)) (fun _ _ => ex_add (m := ((k5 : Nat) : Int)) (n := (2 : Int)) (r := (((k5 + 2) : Nat) : Int)) rfl rfl (by omega) (by omega) (by omega)) ?_
 refine gv (nI ((k5 + 2) % 5)) (fun _ _ => ex_remA (m := (k5 + 2)) (n := 5) rfl rfl (by decide) (by omega)) ?_
 simp only [pq]
 refine gv (pP n87 (((k5 + 2) % 5))) (fun _ _ => ex_atA (i := ((k5 + 2) % 5)) Tryz.underlying233 (sizeof_215 _) rfl rfl (by omega)) ?_
 refine gv _ (fun _ C105 => ex_load rfl (load1 (nagg_215 _) (St.cell (St.tells S98 C105) (i := 0) rfl (lanes_at (Nat.lt_of_lt_of_eq (show ((k5 + 2) % 5) < 5 by omega) (rowL_len _ _).symm))))) ?_
 refine gv (laneV ((~~~ (at0 (rowL Q y) ((k5 + 1) % 5))) &&& (at0 (rowL Q y) ((k5 + 2) % 5)))) (fun _ _ => ex_andL rfl rfl) ?_
 simp only [pq]
 refine gv (laneV ((at0 (rowL Q y) k5) ^^^ ((~~~ (at0 (rowL Q y) ((k5 + 1) % 5))) &&& (at0 (rowL Q y) ((k5 + 2) % 5))))) (fun _ _ => ex_xorL rfl rfl) ?_
 refine gi ?_
 refine gw_nil ?_
 intro w106 hC108 hF109
 clear hF109
 have S107 := St.tells S98 hC108
 simp only [List.drop_succ_cons, List.drop_zero]
 refine dr (pP rb ((y + k5))) (ex_atA (i := (y + k5)) Tryz.underlying217 (sizeof_215 _) rfl rfl (by omega)) ?_
 simp only [pq]
 refine stStore (i := 2) (v := laneV ((at0 (rowL Q y) k5) ^^^ ((~~~ (at0 (rowL Q y) ((k5 + 1) % 5))) &&& (at0 (rowL Q y) ((k5 + 2) % 5))))) S107 rfl rfl rfl rfl (size_215) (allc1 rfl) (by rw [List.length_map, (chiK_len _ _)]; show (y + k5) + 1 ≤ 25; omega) (fun w110 S111 => ?_)
 simp only [pq]
 have S111 : St w0 F0 w110 F (⟨n87, ((rowL Q y).map laneV), 233⟩ :: ⟨n2, ((cL Z 5).map laneV), 233⟩ :: ⟨rb, (splice ((chiK Q (y + k5)).map laneV) (y + k5) [laneV ((at0 (rowL Q y) k5) ^^^ ((~~~ (at0 (rowL Q y) ((k5 + 1) % 5))) &&& (at0 (rowL Q y) ((k5 + 2) % 5))))]), 217⟩ :: L0) (M0) := S111
 rw [lanes_set (Nat.lt_of_lt_of_eq (show (y + k5) < 25 by omega) (chiK_len _ _).symm)] at S111
 rw [chi_row hy5 (by omega), chiK_step Q (by omega)] at S111
 refine wl_nil (hK103 _ _ ?_)
 refine region_wl ?_
 refine dAdd (k5 + 1) ?_
 refine dx ?_
 refine wl_nil ?_
 exact hK100 _ _ _ (by omega) ⟨(k5 + 1), _, rfl, rfl, rfl, S111, (by omega)⟩
 refine lssF ?_
 simp only [pq]
 refine wn hK101 ?_
 refine wp_seq_k (fun K112 hK112 => ?_)
 refine wp_cond_false rfl ?_
 refine wp_exit ?_
 refine hK85 _ _ ?_
 obtain rfl : k5 = 5 := by omega
 refine region_wl ?_
 refine dx ?_
 refine dAdd (y + 5) ?_
 refine dy ?_
 simp only [pq]
 refine wl_nil ?_
 have S98 := St.drop S98 (.cons _ (List.Sublist.refl _))
 exact hK82 _ _ _ (by omega) ⟨(y + 5), _, rfl, rfl, rfl, S98, (by omega), (by omega)⟩
 refine lssF ?_
 refine wn hK84 ?_
 refine wp_cond_false rfl ?_
 refine wp_exit ?_
 refine hK73 _ _ ?_
 obtain rfl : y = 25 := by omega
 refine region_gw F 9 [] (by kernel_rfl) (by kernel_rfl) ?_
 simp only [List.take_succ_cons, List.take_zero]
 refine gm ?_
 refine gi ?_
 simp only [pq]
 refine gv (pP rb 0) (fun _ _ => ex_atA (i := 0) Tryz.underlying217 (sizeof_215 _) rfl rfl (by omega)) ?_
 refine gv _ (fun _ C113 => ex_load rfl (load1 (nagg_215 _) (St.cell (St.tells S80 C113) (i := 1) rfl (lanes_at (Nat.lt_of_lt_of_eq (show 0 < 25 by omega) (chiK_len _ _).symm))))) ?_
 refine gm ?_
 simp only [pq]
 refine gv (pP 4 r) (fun _ _ => ex_atA (i := r) Tryz.underlying218 (sizeof_215 _) rfl rfl (by omega)) ?_
 refine gv _ (fun _ C113 => ex_load rfl (load1 (nagg_215 _) (((hT.at (St.tells S80 C113).gr.below).2.2 r hr)))) ?_
 refine gv (laneV ((at0 (chiK Q 25) 0) ^^^ (roundB r))) (fun _ _ => ex_xorL rfl rfl) ?_
 simp only [pq]
 refine gi ?_
 refine gw_nil ?_
 intro w114 hC116 hF117
 clear hF117
 have S115 := St.tells S80 hC116
 simp only [List.drop_succ_cons, List.drop_zero]
 refine dr (pP rb 0) (ex_atA (i := 0) Tryz.underlying217 (sizeof_215 _) rfl rfl (by omega)) ?_
 refine stStore (i := 1) (v := laneV ((at0 (chiK Q 25) 0) ^^^ (roundB r))) S115 rfl rfl rfl rfl (size_215) (allc1 rfl) (by rw [List.length_map, (chiK_len _ _)]; show 0 + 1 ≤ 25; omega) (fun w118 S119 => ?_)
 simp only [pq]
 have S119 : St w0 F0 w118 F (⟨n2, ((cL Z 5).map laneV), 233⟩ :: ⟨rb, (splice ((chiK Q 25).map laneV) 0 [laneV ((at0 (chiK Q 25) 0) ^^^ (roundB r))]), 217⟩ :: L0) (M0) := S119
 rw [lanes_set (Nat.lt_of_lt_of_eq (show 0 < 25 by omega) (chiK_len _ _).symm)] at S119
 refine wl_nil ?_
 (try simp only [Exit.then, Exit.inBlock, ↓reduceIte, Nat.reduceEqDiff])
 refine bE (res_0 rfl) ?_
 rw [chiK_all] at S119
 have S119 := St.drop S119 (.cons _ (List.Sublist.refl _))
 rw [hQ, hA, cL_all] at S119
 exact ⟨rfl, S119⟩
theorem by_at {E base : Nat} {w : World} {F : Fz} {l : By} {a : Option Addr} {n c : Nat} (h : Own 1 ByC E base w F (.slice a n c) l) {i : Nat} {b : UInt8} (hp : l[i]? = some b) : ∃ g, a = some ⟨g, 0, none⟩ ∧ w.cell? ⟨g, 0 + i * 1, none⟩ = some (bv b) := by
 obtain ⟨g, cs, e, _, r, hr⟩ := h.at hp
 have r : cs = [bv b] := r
 subst r
 refine ⟨g, e, ?_⟩
 have := hr 0 _ rfl
 rw [Nat.zero_add]
 simpa using this
section
variable {P : Program} {ρ : Operand → Value} {w : World} {d : Option Tmp} {t X Y E : TypeId} {pos : String} {after : Array Edge} {guard : Option (Nat × Bool)} {x y : Operand}
theorem or128 (b : UInt8) : bits .or .u8 (b.toNat : Int) 128 = ((b ||| 128).toNat : Int) := by
 have e1 : BitVec.ofInt 8 (b.toNat : Int) = b.toBitVec := by rw [BitVec.ofInt_natCast]; simp
 have e2 : BitVec.ofInt 8 (128 : Int) = (128 : UInt8).toBitVec := by decide
 have e3 : (b ||| 128).toNat = (b.toBitVec ||| (128 : UInt8).toBitVec).toNat := by rw [← UInt8.toBitVec_or]; rfl
 have hlt := (b ||| 128).toNat_lt
 unfold bits
 show IntKind.u8.wrap (((BitVec.ofInt 8 (b.toNat : Int) ||| BitVec.ofInt 8 (128 : Int)).toNat : Nat) : Int) = _
 rw [e1, e2, ← e3, show IntKind.u8.wrap (((b ||| 128).toNat : Nat) : Int) = (((b ||| 128).toNat : Nat) : Int) % 256 from rfl]
 omega
theorem ex_orB {b : UInt8} (hx : ρ x = bv b) (hy : ρ y = .int .u8 128) : (execOp ρ ⟨d, .binOp .or X x y Y, t, pos, after, guard⟩).run P w = .ok (.value (bv (b ||| 128))) w := by
 refine ex_bin hx hy ?_
 rw [run_binInt _ (by simp)]
 show Result.ok (Value.int .u8 (bits .or .u8 (b.toNat : Int) 128)) w = _
 rw [or128]; rfl
theorem ex_quoA {m n : Nat} (hx : ρ x = .int .i64 (m : Int)) (hy : ρ y = .int .i64 (n : Int)) (hn : 0 < n) (hm : m ≤ 9223372036854775807) : (execOp ρ ⟨d, .binOp .quo X x y Y, t, pos, after, guard⟩).run P w = .ok (.value (.int .i64 ((m / n : Nat) : Int))) w := by
 refine ex_bin hx hy ?_
 rw [run_binInt _ (by simp)]
 show (Op.intDiv .quo .i64 m n).run P w = _
 unfold Op.intDiv
 rw [if_neg (by omega)]
 show Result.ok (Value.int .i64 (IntKind.i64.wrap (Int.tdiv (m : Int) (n : Int)))) w = _
 have hle : m / n ≤ m := Nat.div_le_self m n
 rw [Int.tdiv_eq_ediv_of_nonneg (by omega), ← Int.natCast_ediv]
 generalize m / n = q at *
 rw [wrap64_in (by omega) (by omega)]
theorem ex_shlL {a : BitVec 64} {n : Nat} (hx : ρ x = laneV a) (hy : ρ y = .int .i64 (n : Int)) (hn : n ≤ 64) : (execOp ρ ⟨d, .binOp .shl X x y Y, t, pos, after, guard⟩).run P w = .ok (.value (laneV (a <<< n))) w := by
 have e : (eqGuard .shl X x y (.int .u64 (lane a)) (.int .i64 (n : Int))).run P w = .ok () w := rfl
 have h : (binOp .shl X (.int .u64 (lane a)) (.int .i64 (n : Int))).run P w = .ok (laneV (a <<< n)) w := by
  show (Op.shift .shl .u64 (lane a) .i64 (n : Int)).run P w = _
  unfold Op.shift
  rw [if_neg (by omega)]
  show Result.ok (Value.int .u64 (IntKind.u64.wrap (lane a * 2 ^ (min (n : Int).toNat 64)))) w = _
  rw [Int.toNat_natCast, Nat.min_eq_left hn, lane_shl]
 simp only [execOp, hx, hy, Sem.run_bind, e, Result.andThen_ok, h, Sem.run_pure]
theorem ex_shrL {a : BitVec 64} {n : Nat} (hx : ρ x = laneV a) (hy : ρ y = .int .i64 (n : Int)) (hn : n ≤ 64) : (execOp ρ ⟨d, .binOp .shr X x y Y, t, pos, after, guard⟩).run P w = .ok (.value (laneV (a >>> n))) w := by
 have e : (eqGuard .shr X x y (.int .u64 (lane a)) (.int .i64 (n : Int))).run P w = .ok () w := rfl
 have h : (binOp .shr X (.int .u64 (lane a)) (.int .i64 (n : Int))).run P w = .ok (laneV (a >>> n)) w := by
  show (Op.shift .shr .u64 (lane a) .i64 (n : Int)).run P w = _
  unfold Op.shift
  rw [if_neg (by omega)]
  show Result.ok (Value.int .u64 (Int.fdiv (lane a) (2 ^ (min (n : Int).toNat 64)))) w = _
  rw [Int.toNat_natCast, Nat.min_eq_left hn, Int.fdiv_eq_ediv_of_nonneg _ (show (0 : Int) ≤ 2 ^ n from Int.le_of_lt (Int.pow_pos (by decide))), lane_shr]
 simp only [execOp, hx, hy, Sem.run_bind, e, Result.andThen_ok, h, Sem.run_pure]
theorem conv_u64 (b : UInt8) (w : World) : (convert 5 215 (bv b)).run Tryz.prog w = .ok (laneV (BitVec.ofNat 64 b.toNat)) w := by
 have : (convert 5 215 (bv b)).run Tryz.prog w = .ok (.int .u64 (IntKind.u64.wrap (b.toNat : Int))) w := by kernel_rfl
 have hb := b.toNat_lt
 have e : IntKind.u64.wrap (b.toNat : Int) = lane (BitVec.ofNat 64 b.toNat) := by
  rw [wrap_u64]; unfold lane; simp; omega
 rw [this, e]
theorem conv_low (a : BitVec 64) (w : World) : (convert 215 5 (laneV a)).run Tryz.prog w = .ok (bv (UInt8.ofNat (a.toNat % 256))) w := by
 have : (convert 215 5 (laneV a)).run Tryz.prog w = .ok (.int .u8 (IntKind.u8.wrap (lane a))) w := by kernel_rfl
 have e : IntKind.u8.wrap (lane a) = ((UInt8.ofNat (a.toNat % 256)).toNat : Int) := by
  rw [show IntKind.u8.wrap (lane a) = lane a % 256 from rfl]; unfold lane; simp
 rw [this, e]; rfl
end
def padK (b : By) (k : Nat) : By := (b ++ [6]) ++ List.replicate k 0
def padN (b : By) : Nat := (136 - (b.length + 1) % 136) % 136
theorem padK_len (b : By) (k : Nat) : (padK b k).length = b.length + 1 + k := by simp [padK]; omega
theorem padK_step (b : By) (k : Nat) : padK b k ++ [0] = padK b (k + 1) := by
 unfold padK
 rw [List.append_assoc, List.replicate_succ']
theorem padK_zero (b : By) : b ++ [6] = padK b 0 := by simp [padK]
theorem padL_of {b : By} {x : UInt8} (h : (padK b (padN b))[(padK b (padN b)).length - 1]? = some x) : (padK b (padN b)).set ((padK b (padN b)).length - 1) (x ||| 128) = padL b := by
 have e : (padK b (padN b)).getD ((padK b (padN b)).length - 1) 0 = x := by rw [List.getD_eq_getElem?_getD, h]; rfl
 rw [← e]
 unfold padL padK padN
 simp only [List.length_append, List.length_singleton]
theorem padL_len (b : By) : (padL b).length = b.length + 1 + padN b := by
 unfold padL padN
 simp only [List.length_set, List.length_append, List.length_singleton, List.length_replicate]
theorem mix_len (S : List (BitVec 64)) (p : By) : ∀ n, (mixL S p n).length = S.length := by
 intro n
 induction n with
 | zero => rfl
 | succ n ih => unfold mixL at *; rw [List.range_succ, List.foldl_append]; simpa using ih
theorem mix_step (S : List (BitVec 64)) {p : By} {n : Nat} {x : UInt8} (h : p[n]? = some x) : (mixL S p n).set (n / 8) (at0 (mixL S p n) (n / 8) ^^^ (BitVec.ofNat 64 x.toNat <<< (n % 8 * 8))) = mixL S p (n + 1) := by
 have e : p.getD n 0 = x := by rw [List.getD_eq_getElem?_getD, h]; rfl
 rw [← e]
 unfold mixL
 rw [List.range_succ, List.foldl_append]
 rfl
theorem stirL_len (S : List (BitVec 64)) (r : Nat) : (stirL S r).length = 25 := by
 unfold stirL
 simp [chiL, mapL]
theorem stirs_step (S : List (BitVec 64)) (n : Nat) : stirL (stirsL S n) n = stirsL S (n + 1) := by
 unfold stirsL
 rw [List.range_succ, List.foldl_append]
 rfl
theorem stirs_len {S : List (BitVec 64)} (h : S.length = 25) : ∀ n, (stirsL S n).length = 25
  | 0 => h
  | n + 1 => by rw [← stirs_step]; exact stirL_len _ _
theorem absorb_step {Z : List (BitVec 64)} {p : By} (h : 136 ≤ p.length) : absorbL Z p (p.length / 136) = absorbL (stirsL (mixL Z p 136) 24) (p.drop 136) ((p.drop 136).length / 136) := by
 rw [List.length_drop, show p.length / 136 = (p.length - 136) / 136 + 1 from by omega]
 rfl
def outAt (Z : List (BitVec 64)) (i : Nat) : UInt8 := UInt8.ofNat ((at0 Z (i / 8) >>> (i % 8 * 8)).toNat % 256)
def outK (Z : List (BitVec 64)) (k : Nat) : By := (List.range 32).map fun i => if i < k then outAt Z i else 0
theorem outK_len (Z : List (BitVec 64)) (k : Nat) : (outK Z k).length = 32 := by simp [outK]
theorem outK_zero (Z : List (BitVec 64)) : outK Z 0 = List.replicate 32 0 := by unfold outK; rfl
theorem outK_all (Z : List (BitVec 64)) : outK Z 32 = outL Z := by
 unfold outK outL
 exact List.map_congr_left fun i hi => by rw [if_pos (List.mem_range.1 hi)]; rfl
theorem outK_step (Z : List (BitVec 64)) {k : Nat} (h : k < 32) : (outK Z k).set k (outAt Z k) = outK Z (k + 1) := by
 apply List.ext_getElem (by simp [outK])
 intro i h1 h2
 simp only [outK, List.getElem_set, List.getElem_map, List.getElem_range]
 by_cases e : k = i
 ·subst e; simp
 ·rw [if_neg e]
  by_cases e2 : i < k
  ·rw [if_pos e2, if_pos (by omega)]
  ·rw [if_neg e2, if_neg (by omega)]
theorem bytes_set {l : By} {j : Nat} {x : UInt8} (h : j < l.length) : splice (l.map bv) j [bv x] = (l.set j x).map bv := by
 unfold splice
 rw [List.map_set, List.set_eq_take_append_cons_drop, if_pos (by simpa using h)]
 simp
theorem zero_217 (w : World) : (zeroValue 217).run Tryz.prog w = .ok (.agg ((List.replicate 25 (0 : BitVec 64)).map laneV).toArray) w := by kernel_rfl
theorem stStir {P : Program} {w0 w : World} {F0 F : Fz} {rb : Nat} {T : TypeId} {L0 : List Blk} {M0 : List RowP} {Z : List (BitVec 64)} {ops : Array Oper} {Q : Exit → Act → World → Prop} {a : Act} {rest : List Oper} {o : Oper} {k : FuncId} {vs : Array Value} (hw : Region.wanted o (yielded ops a.tmps) = true)
    (hr : (execOp a.eval o).run P w = .ok (.enter k vs) w) (hc : Calls P k vs w fun e w' => e = .returned (.tuple #[]) ∧ St w0 F0 w' F (⟨rb, Z.map laneV, T⟩ :: L0) M0)
    (h : ∀ w', St w0 F0 w' F (⟨rb, Z.map laneV, T⟩ :: L0) M0 → WL P ops Q rest (a.put o.dst (.tuple #[])) w') : WL P ops Q (o :: rest) a w :=
  doC hw hr hc fun e w' ⟨he, hS⟩ => ⟨_, he, h w' hS⟩
theorem Sl.dropD {α : Type} {k : Nat} {R : Fz → List Value → α → Prop} {F : Fz} {a : Option Addr} {n c m : Nat} {l : List α} (hk : 0 < k) (h : Sl k R F (.slice a n c) l) (hm : m ≤ n) : Sl k R F (.slice (if c = m then a else a.map (·.add (m * k))) (n - m) (c - m)) (l.drop m) := by
 have hn := Sl.len h
 obtain ⟨el, h1, h2, h3⟩ := h
 obtain ⟨a0, c0, e1, q1, q2, q3, q4⟩ := h1
 injection e1 with e1 e2 e3
 subst e1; subst e3
 have hll := h2.len
 by_cases hmn : m = l.length
 have e : l.drop m = [] := List.drop_of_length_le (by omega)
 have e0 : n - m = 0 := by omega
 rw [e, e0]
 refine ⟨[], ⟨_, c - m, rfl, by simp, by omega, fun e => ?_, .inl rfl⟩, trivial, by simp⟩
 cases a with
 | none => have := q3 rfl; exact ⟨rfl, by omega⟩
 | some ad => split at e <;> cases e
 have hpos : el.flatten ≠ [] := by
  intro e
  have := congrArg List.length e
  rw [flatten_len h3, hll] at this
  have := Nat.mul_pos (show 0 < l.length by omega) hk
  simp at *
  omega
 obtain ⟨b, o, e, hc⟩ := q4.resolve_left hpos
 subst e
 rw [if_neg (by omega)]
 have hs : Sl k R F (.slice (some ⟨b, o, none⟩) n c) l := ⟨el, ⟨_, _, by rw [hn], q1, q2, q3, .inr ⟨b, o, rfl, hc⟩⟩, h2, h3⟩
 have := Sl.dropN (m := m) hs hm rfl rfl
 show Sl k R F (.slice (some (Addr.add ⟨b, o, none⟩ (m * k))) _ _) _
 rw [Addr.add_mid]
 exact this
theorem Bs.restD {F : Fz} {a : Option Addr} {m c n : Nat} {l : By} (h : Bs F (.slice a m c) l) (hn : n ≤ m) : Bs F (.slice (if c = n then a else a.map (·.add (n * 1))) (m - n) (c - n)) (l.drop n) := bs_of_sl (Sl.dropD (by decide) h.sl hn)
theorem made_bytes (n : Nat) : (madeCells (Value.int .u8 0).cells (n * 1)).toList = (List.replicate n (0 : UInt8)).map bv := by
 rw [show (Value.int .u8 0).cells = #[.int .u8 0] from rfl, toList_madeCells_one]; simp [bv]
theorem stirs_zero (S : List (BitVec 64)) : stirsL S 0 = S := rfl
theorem mix_zero (S : List (BitVec 64)) (p : By) : mixL S p 0 = S := rfl
theorem absorb_at {Z X R : List (BitVec 64)} {p : By} (hX : X = mixL Z p 136) (h : 136 ≤ p.length) (e : absorbL Z p (p.length / 136) = R) : absorbL (stirsL X 24) (p.drop 136) ((p.drop 136).length / 136) = R := by
 rw [hX, ← absorb_step h]; exact e
theorem absorb_end {Z R : List (BitVec 64)} {p : By} (h : p.length / 136 = 0) (e : absorbL Z p (p.length / 136) = R) : Z = R := by
 rw [h] at e; rw [← e]; cases p <;> rfl
theorem outL_len (Z : List (BitVec 64)) : (outL Z).length = 32 := by simp [outL]
theorem sum_own (F : Fz) (w : World) (v : Value) (b : By) (hs : Sat w F) (hT : Tabs w) (hb : Bs F v b) (hn : b.length ≤ 100000) :
    Calls Tryz.prog 117 #[v] w (GivesO w F 1 ByC 5 (sumL b)) := by
 obtain ⟨x, y, rfl, hc1', hc2'⟩ := hb.shape
 unfold maxLen at hc2'
 obtain ⟨i5, hi5, hz5, hs5, hb5⟩ := info_parts infoU8
 have S := St.start hs
 go_enter Tryz.func117, Tryz.ntmps117
 refine wp_seq_k (fun K1 hK1 => region_wl ?_)
 refine do_ rfl (.slice none 0 0) (ex_assign _) ?_
 simp only [pS, pN, pA, pC, pZ]
 refine wl_nil (hK1 _ _ ?_)
 refine wp_seq_k (fun K2 hK2 => region_wl ?_)
 refine do_ rfl (.slice x b.length y) (ex_move _) ?_
 simp only [pS, pN, pA, pC, pZ]
 have S3 := St.addNil S 1 ByC ByC.mono 5 w.heap.size
 refine stAppendS (r := 0) (u := (.slice x b.length y)) S3 rfl i5 (.int .u8 0) 1 Tryz.underlying25 hi5 hz5 hs5 hb5 rfl (by decide) rfl rfl rfl (Sl.toW (Bs.sl hb) (S3).sat) ByC.one (Nat.le_refl _) S3.gr.below.size (by unfold maxLen; simp only [List.length_nil]; omega) (by simp only [List.length_nil]; omega) ?_
 intro v4 w5 S6 hn7
 simp only [pS, pN, pA, pC, pZ]
 have S6 : St w F w5 F [] [ownP 1 ByC ByC.mono 5 w.heap.size v4 ([] ++ b)] := S6
 refine stNew S6 (v := fun n => .slice (some ⟨n, 0, none⟩) 1 1) rfl (ex_lit (ps := #[(0, (.int .u8 6))]) (cells := #[(.int .u8 6)]) (E := 5) (bmap1 rfl) (fun w => by kernel_rfl)) (fun n8 w9 S10 => ?_)
 simp only [pS, pN, pA, pC, pZ]
 have S10 : St w F w9 F [⟨n8, [(.int .u8 6)], 5⟩] [ownP 1 ByC ByC.mono 5 w.heap.size v4 ([] ++ b)] := S10
 rw [List.nil_append] at S10
 refine stPush (i := 0) (r := 0) (p := (6 : UInt8)) (cs := [(.int .u8 6)]) S10 rfl i5 (.int .u8 0) 1 Tryz.underlying25 hi5 hz5 hs5 hb5 rfl (by decide) rfl rfl rfl rfl rfl (bv_one 6) (rfl) (Nat.le_refl _) S10.gr.below.size (by unfold maxLen; omega) (by omega) ?_
 intro v11 w12 S13 hn14
 simp only [pS, pN, pA, pC, pZ]
 have S13 := St.drop S13 (L' := []) (.cons _ (List.Sublist.refl _))
 have S13 : St w F w12 F [] [ownP 1 ByC ByC.mono 5 w.heap.size v11 (b ++ [(6 : UInt8)])] := S13
 refine do_ rfl v11 (ex_assign _) ?_
 simp only [pS, pN, pA, pC, pZ]
 refine wl_nil (hK2 _ _ ?_)
 refine wp_seq_k (fun K15 hK15 => ?_)
 refine wp_block ?_
 rw [padK_zero] at S13
 refine wp_loop_g (fun mm aa w17 => ∃ (k : Nat) (v : Value) (u16 : Nat → Value), mm = padN b - k ∧ u16 = slots aa ∧ aa = ⟨#[(.slice x b.length y), undef, (.slice none 0 0), v, undef, undef, undef, undef, undef, (.slice x b.length y), v4, (.slice (some ⟨n8, 0, none⟩) 1 1), v11, (u16 13), (u16 14), (u16 15), (u16 16), (u16 17), (u16 18), (u16 19), undef, undef, undef, undef, undef, undef, undef, undef, undef, undef, undef, undef, undef, undef, undef, undef, undef, undef, undef, undef, undef, undef, undef, undef, undef, undef, undef, undef, undef, undef, undef, undef, undef, undef, undef, undef, undef, undef, undef, undef, undef, undef, undef, undef, undef, undef, undef, undef, undef, undef, undef, undef, undef, undef, undef, undef, undef, undef], []⟩ ∧ St w F w17 F [] [ownP 1 ByC ByC.mono 5 w.heap.size v (padK b k)] ∧ (k ≤ padN b)) _ ⟨0, v11, _, rfl, rfl, rfl, S13, (Nat.zero_le _)⟩ ?_
 rintro m18 a19 w20 ⟨k, v, u16, rfl, -, rfl, S21, hk⟩ K23 hK23
 refine wp_seq_k (fun K24 hK24 => ?_)
 refine wp_seq_k (fun K25 hK25 => ?_)
 have hpl := padK_len b k
 have hpn : padN b < 136 := by unfold padN; omega
 obtain ⟨a26, cap27, rfl, h28, h29⟩ := (S21.own (i := 0) rfl).shape
 unfold maxLen at h29
 refine region_wl ?_
 refine do_ rfl (.slice a26 (padK b k).length cap27) (ex_move _) ?_
 simp only [pS, pN, pA, pC, pZ]
 refine do_ rfl (.int .i64 (((padK b k).length : Nat) : Int)) (ex_len Tryz.underlying25 rfl) ?_
 simp only [pS, pN, pA, pC, pZ]
 refine do_ rfl (.int .i64 ((((padK b k).length % 136) : Nat) : Int)) (ex_remA (m := ((padK b k).length)) (n := 136) rfl rfl (by decide) (by omega)) ?_
 simp only [pS, pN, pA, pC, pZ]
 by_cases hc16 : ((padK b k).length % 136) = 0
 ·refine do_ rfl (.bool false) (ex_neq (m := ((((padK b k).length % 136) : Nat) : Int)) (n := (0 : Int)) (b := false) rfl rfl (bne_eq_false_iff_eq.2 (by omega))) ?_
  simp only [pS, pN, pA, pC, pZ]
  refine wl_nil (hK25 _ _ ?_)
  refine wp_cond_false rfl ?_
  refine wp_exit ?_
  refine hK15 _ _ ?_
  refine wp_seq_k (fun K30 hK30 => ?_)
  have hkk : k = padN b := by unfold padN at *; omega
  subst hkk
  obtain ⟨xb, hxb⟩ : ∃ x, (padK b (padN b))[(padK b (padN b)).length - 1]? = some x := ⟨_, List.getElem?_eq_getElem (by omega)⟩
  obtain ⟨g31, ha32, c33⟩ := by_at (St.own S21 (i := 0) rfl) hxb
  subst ha32
  refine region_wl ?_
  refine do_ rfl (.slice (some ⟨g31, 0, none⟩) (padK b (padN b)).length cap27) (ex_move _) ?_
  simp only [pS, pN, pA, pC, pZ]
  refine do_ rfl (.slice (some ⟨g31, 0, none⟩) (padK b (padN b)).length cap27) (ex_move _) ?_
  simp only [pS, pN, pA, pC, pZ]
  refine do_ rfl (.int .i64 (((padK b (padN b)).length : Nat) : Int)) (ex_len Tryz.underlying25 rfl) ?_
  simp only [pS, pN, pA, pC, pZ]
  refine do_ rfl (.int .i64 ((((padK b (padN b)).length - 1) : Nat) : Int)) (ex_sub (m := (((padK b (padN b)).length : Nat) : Int)) (n := (1 : Int)) (r := ((((padK b (padN b)).length - 1) : Nat) : Int)) rfl rfl (by omega) (by omega) (by omega)) ?_
  simp only [pS, pN, pA, pC, pZ]
  refine do_ rfl (.pointer (some ⟨g31, 0 + ((padK b (padN b)).length - 1) * 1, none⟩)) (ex_at (i := ((padK b (padN b)).length - 1)) (sz := 1) Tryz.underlying25 (sizeof_5 _) rfl rfl rfl (by omega) rfl) ?_
  simp only [pS, pN, pA, pC, pZ]
  refine do_ rfl (bv xb) (ex_load rfl (load1 (nagg_5 _) c33)) ?_
  simp only [pS, pN, pA, pC, pZ]
  refine do_ rfl (bv (xb ||| 128)) (ex_orB rfl rfl) ?_
  simp only [pS, pN, pA, pC, pZ]
  refine do_ rfl (.pointer (some ⟨g31, 0 + ((padK b (padN b)).length - 1) * 1, none⟩)) (ex_at (i := ((padK b (padN b)).length - 1)) (sz := 1) Tryz.underlying25 (sizeof_5 _) rfl rfl rfl (by omega) rfl) ?_
  simp only [pS, pN, pA, pC, pZ]
  refine stSetRow (r := 0) (i := ((padK b (padN b)).length - 1)) (p := (xb ||| 128)) (u := (bv (xb ||| 128))) S21 rfl rfl (by omega) rfl rfl (by omega) (size_5) (allc1 rfl) rfl rfl (Nat.le_refl _) (fun w34 S35 => ?_)
  simp only [pS, pN, pA, pC, pZ]
  have S35 : St w F w34 F [] [ownP 1 ByC ByC.mono 5 w.heap.size (.slice (some ⟨g31, 0, none⟩) (padK b (padN b)).length cap27) ((padK b (padN b)).set ((padK b (padN b)).length - 1) (xb ||| 128))] := S35
  rw [padL_of hxb] at S35
  refine wl_nil (hK30 _ _ ?_)
  refine wp_seq_k (fun K36 hK36 => ?_)
  obtain ⟨F37, S38, le39, hv40⟩ := St.freeze S35 (i := 0) rfl (Nat.le_refl _)
  have S38 : St w F w34 F37 [] [] := S38
  have hv40 : Bys _ (.slice (some ⟨g31, 0, none⟩) (padK b (padN b)).length cap27) (padL b) := hv40
  have r41 := bs_of_sl hv40
  refine region_wl ?_
  refine stNew S38 (v := fun n => .pointer (some ⟨n, 0, none⟩)) rfl (ex_alloc (zero_217 _)) (fun n42 w43 S44 => ?_)
  simp only [pS, pN, pA, pC, pZ]
  have S44 : St w F w43 F37 [⟨n42, ((List.replicate 25 (0 : BitVec 64)).map laneV), 217⟩] [] := S44
  refine wl_nil (hK36 _ _ ?_)
  refine wp_seq_k (fun K45 hK45 => ?_)
  refine wp_block ?_
  refine wp_loop_g (fun mm aa w47 => ∃ (Z : List (BitVec 64)) (ra : Option Addr) (rn : Nat) (rc : Nat) (rest : By) (u46 : Nat → Value), mm = rest.length ∧ u46 = slots aa ∧ aa = ⟨#[(.slice x b.length y), undef, (.slice none 0 0), (.slice ra rn rc), (.pointer (some ⟨n42, 0, none⟩)), (u46 5), (u46 6), undef, undef, (.slice x b.length y), v4, (.slice (some ⟨n8, 0, none⟩) 1 1), v11, (.slice (some ⟨g31, 0, none⟩) (padK b (padN b)).length cap27), (.int .i64 (((padK b (padN b)).length : Nat) : Int)), (.int .i64 ((((padK b (padN b)).length % 136) : Nat) : Int)), (.bool false), (u16 17), (u16 18), (u16 19), (.slice (some ⟨g31, 0, none⟩) (padK b (padN b)).length cap27), (.slice (some ⟨g31, 0, none⟩) (padK b (padN b)).length cap27), (.int .i64 (((padK b (padN b)).length : Nat) : Int)), (.int .i64 ((((padK b (padN b)).length - 1) : Nat) : Int)), (.pointer (some ⟨g31, 0 + ((padK b (padN b)).length - 1) * 1, none⟩)), (bv xb), (bv (xb ||| 128)), (.pointer (some ⟨g31, 0 + ((padK b (padN b)).length - 1) * 1, none⟩)), (u46 28), (u46 29), (u46 30), (u46 31), (u46 32), (u46 33), (u46 34), (u46 35), (u46 36), (u46 37), (u46 38), (u46 39), (u46 40), (u46 41), (u46 42), (u46 43), (u46 44), (u46 45), (u46 46), (u46 47), (u46 48), (u46 49), (u46 50), (u46 51), (u46 52), (u46 53), (u46 54), (u46 55), (u46 56), (u46 57), undef, undef, undef, undef, undef, undef, undef, undef, undef, undef, undef, undef, undef, undef, undef, undef, undef, undef, undef, undef], []⟩ ∧ St w F w47 F37 [⟨n42, (Z.map laneV), 217⟩] [] ∧ (Z.length = 25) ∧ (Bs F37 (.slice ra rn rc) rest) ∧ (rest.length % 136 = 0) ∧ (rest.length ≤ 200000) ∧ (absorbL Z rest (rest.length / 136) = absorbL (List.replicate 25 0) (padL b) ((padL b).length / 136))) _ ⟨(List.replicate 25 0), (some ⟨g31, 0, none⟩), (padK b (padN b)).length, cap27, (padL b), _, rfl, rfl, rfl, S44, (by simp), r41, (by rw [padL_len]; unfold padN; omega), (by rw [padL_len]; unfold padN; omega), rfl⟩ ?_
  rintro m48 a49 w50 ⟨Z, ra, rn, rc, rest, u46, rfl, -, rfl, S51, hZ, hrest, hrm, hrl, hab⟩ K53 hK53
  refine wp_seq_k (fun K54 hK54 => ?_)
  refine wp_seq_k (fun K55 hK55 => ?_)
  have hrn := hrest.len
  refine region_wl ?_
  refine do_ rfl (.slice ra rn rc) (ex_move _) ?_
  simp only [pS, pN, pA, pC, pZ]
  refine do_ rfl (.int .i64 ((rn : Nat) : Int)) (ex_len Tryz.underlying25 rfl) ?_
  simp only [pS, pN, pA, pC, pZ]
  by_cases hc30 : 0 < rn
  ·refine do_ rfl (.bool true) (ex_gtr (m := ((rn : Nat) : Int)) (n := (0 : Int)) (b := true) rfl rfl (decide_eq_true (by omega))) ?_
   simp only [pS, pN, pA, pC, pZ]
   refine wl_nil (hK55 _ _ ?_)
   refine wp_cond_true rfl ?_
   refine wp_skip ?_
   refine hK54 _ _ ?_
   refine wp_seq_k (fun K56 hK56 => ?_)
   refine wp_block ?_
   refine wp_seq_k (fun K57 hK57 => ?_)
   refine wp_seq_k (fun K58 hK58 => region_wl ?_)
   refine do_ rfl (.int .i64 0) (ex_move _) ?_
   simp only [pS, pN, pA, pC, pZ]
   refine wl_nil (hK58 _ _ ?_)
   refine wp_block ?_
   have S51 : St w F w50 F37 [⟨n42, ((mixL Z rest 0).map laneV), 217⟩] [] := by rw [mix_zero]; exact S51
   refine wp_loop_g (fun mm aa w60 => ∃ (i : Nat) (u59 : Nat → Value), mm = 136 - i ∧ u59 = slots aa ∧ aa = ⟨#[(.slice x b.length y), undef, (.slice none 0 0), (.slice ra rn rc), (.pointer (some ⟨n42, 0, none⟩)), (u59 5), (u46 6), undef, undef, (.slice x b.length y), v4, (.slice (some ⟨n8, 0, none⟩) 1 1), v11, (.slice (some ⟨g31, 0, none⟩) (padK b (padN b)).length cap27), (.int .i64 (((padK b (padN b)).length : Nat) : Int)), (.int .i64 ((((padK b (padN b)).length % 136) : Nat) : Int)), (.bool false), (u16 17), (u16 18), (u16 19), (.slice (some ⟨g31, 0, none⟩) (padK b (padN b)).length cap27), (.slice (some ⟨g31, 0, none⟩) (padK b (padN b)).length cap27), (.int .i64 (((padK b (padN b)).length : Nat) : Int)), (.int .i64 ((((padK b (padN b)).length - 1) : Nat) : Int)), (.pointer (some ⟨g31, 0 + ((padK b (padN b)).length - 1) * 1, none⟩)), (bv xb), (bv (xb ||| 128)), (.pointer (some ⟨g31, 0 + ((padK b (padN b)).length - 1) * 1, none⟩)), (.slice ra rn rc), (.int .i64 ((rn : Nat) : Int)), (.bool true), (u46 31), (u46 32), (.int .i64 ((i : Nat) : Int)), (u59 34), (u59 35), (u59 36), (u59 37), (u59 38), (u59 39), (u59 40), (u59 41), (u59 42), (u59 43), (u59 44), (u59 45), (u59 46), (u59 47), (u59 48), (u59 49), (u59 50), (u59 51), (u46 52), (u46 53), (u46 54), (u46 55), (u46 56), (u46 57), undef, undef, undef, undef, undef, undef, undef, undef, undef, undef, undef, undef, undef, undef, undef, undef, undef, undef, undef, undef], []⟩ ∧ St w F w60 F37 [⟨n42, ((mixL Z rest i).map laneV), 217⟩] [] ∧ (i ≤ 136)) _ ⟨0, _, rfl, rfl, rfl, S51, (by omega)⟩ ?_
   rintro m61 a62 w63 ⟨i, u59, rfl, -, rfl, S64, hi⟩ K66 hK66
   refine wp_seq_k (fun K67 hK67 => region_wl ?_)
   by_cases hc34 : i < 136
   ·refine do_ rfl (.bool true) (ex_lss (m := ((i : Nat) : Int)) (n := (136 : Int)) (b := true) rfl rfl (decide_eq_true (by omega))) ?_
    simp only [pS, pN, pA, pC, pZ]
    refine wl_nil (hK67 _ _ ?_)
    refine wp_seq_k (fun K68 hK68 => ?_)
    refine wp_cond_true rfl ?_
    refine wp_skip ?_
    refine hK68 _ _ ?_
    refine wp_seq_k (fun K69 hK69 => ?_)
    refine wp_block ?_
    refine wp_seq_k (fun K70 hK70 => region_wl ?_)
    refine do_ rfl (.int .i64 ((i : Nat) : Int)) (ex_move _) ?_
    simp only [pS, pN, pA, pC, pZ]
    refine do_ rfl (.int .i64 ((i : Nat) : Int)) (ex_assign _) ?_
    simp only [pS, pN, pA, pC, pZ]
    refine wl_nil (hK70 _ _ ?_)
    obtain ⟨xi, hxi⟩ : ∃ x, rest[i]? = some x := ⟨_, List.getElem?_eq_getElem (by omega)⟩
    obtain ⟨b71, o72, ha73, c74⟩ := Bs.get hrest hxi
    refine region_gw F37 13 [] (by kernel_rfl) (by kernel_rfl) ?_
    simp only [List.take_succ_cons, List.take_zero]
    refine gw_pure rfl rfl (.int .i64 ((i : Nat) : Int)) (fun w75 hCw75 => pureAt_of (ex_move _)) ?_
    simp only [pS, pN, pA, pC, pZ]
    refine gw_pure rfl rfl (.int .i64 (((i / 8) : Nat) : Int)) (fun w75 hCw75 => pureAt_of (ex_quoA (m := i) (n := 8) rfl rfl (by decide) (by omega))) ?_
    simp only [pS, pN, pA, pC, pZ]
    refine gw_pure rfl rfl (.pointer (some ⟨n42, (i / 8), none⟩)) (fun w75 hCw75 => pureAt_of (ex_atA (i := (i / 8)) Tryz.underlying217 (sizeof_215 _) rfl rfl (by omega))) ?_
    simp only [pS, pN, pA, pC, pZ]
    refine gw_pure rfl rfl (laneV (at0 (mixL Z rest i) (i / 8))) (fun w75 hCw75 => pureAt_of (ex_load rfl (load1 (nagg_215 _) (St.cell (St.tells S64 hCw75) (i := 0) rfl (lanes_at (Nat.lt_of_lt_of_eq (show (i / 8) < 25 by omega) ((mix_len _ _ _).trans hZ).symm)))))) ?_
    simp only [pS, pN, pA, pC, pZ]
    refine gw_pure rfl rfl (.slice ra rn rc) (fun w75 hCw75 => pureAt_of (ex_move _)) ?_
    simp only [pS, pN, pA, pC, pZ]
    refine gw_pure rfl rfl (.int .i64 ((i : Nat) : Int)) (fun w75 hCw75 => pureAt_of (ex_move _)) ?_
    simp only [pS, pN, pA, pC, pZ]
    refine gw_pure rfl rfl (.pointer (some ⟨b71, o72 + i * 1, none⟩)) (fun w75 hCw75 => pureAt_of (ex_at (i := i) (sz := 1) Tryz.underlying25 (sizeof_5 _) rfl ha73 rfl (by omega) rfl)) ?_
    simp only [pS, pN, pA, pC, pZ]
    refine gw_pure rfl rfl (bv xi) (fun w75 hCw75 => pureAt_of (ex_load rfl (load1 (nagg_5 _) (St.fz (St.tells S64 hCw75) c74)))) ?_
    simp only [pS, pN, pA, pC, pZ]
    refine gw_pure rfl rfl (laneV (BitVec.ofNat 64 xi.toNat)) (fun w75 hCw75 => pureAt_of (ex_convert (v := (bv xi)) rfl (conv_u64 xi _))) ?_
    simp only [pS, pN, pA, pC, pZ]
    refine gw_pure rfl rfl (.int .i64 ((i : Nat) : Int)) (fun w75 hCw75 => pureAt_of (ex_move _)) ?_
    simp only [pS, pN, pA, pC, pZ]
    refine gw_pure rfl rfl (.int .i64 (((i % 8) : Nat) : Int)) (fun w75 hCw75 => pureAt_of (ex_remA (m := i) (n := 8) rfl rfl (by decide) (by omega))) ?_
    simp only [pS, pN, pA, pC, pZ]
    refine gw_pure rfl rfl (.int .i64 ((((i % 8) * 8) : Nat) : Int)) (fun w75 hCw75 => pureAt_of (ex_mul (m := (((i % 8) : Nat) : Int)) (n := (8 : Int)) (r := ((((i % 8) * 8) : Nat) : Int)) rfl rfl (by omega) (by omega) (by omega))) ?_
    simp only [pS, pN, pA, pC, pZ]
    refine gw_pure rfl rfl (laneV ((BitVec.ofNat 64 xi.toNat) <<< ((i % 8) * 8))) (fun w75 hCw75 => pureAt_of (ex_shlL (n := ((i % 8) * 8)) rfl rfl (by omega))) ?_
    simp only [pS, pN, pA, pC, pZ]
    refine gw_nil ?_
    intro w76 hC78 hF79
    clear hF79
    have S77 := St.tells S64 hC78
    simp only [List.drop_succ_cons, List.drop_zero]
    refine do_ rfl (laneV ((at0 (mixL Z rest i) (i / 8)) ^^^ ((BitVec.ofNat 64 xi.toNat) <<< ((i % 8) * 8)))) (ex_xorL rfl rfl) ?_
    simp only [pS, pN, pA, pC, pZ]
    refine do_ rfl (.pointer (some ⟨n42, (i / 8), none⟩)) (ex_atA (i := (i / 8)) Tryz.underlying217 (sizeof_215 _) rfl rfl (by omega)) ?_
    simp only [pS, pN, pA, pC, pZ]
    refine stStore (i := 0) (v := laneV ((at0 (mixL Z rest i) (i / 8)) ^^^ ((BitVec.ofNat 64 xi.toNat) <<< ((i % 8) * 8)))) S77 rfl rfl rfl rfl (size_215) (allc1 rfl) (by rw [List.length_map, ((mix_len _ _ _).trans hZ)]; show (i / 8) + 1 ≤ 25; omega) (fun w80 S81 => ?_)
    simp only [pS, pN, pA, pC, pZ]
    have S81 : St w F w80 F37 [⟨n42, (splice ((mixL Z rest i).map laneV) (i / 8) [laneV ((at0 (mixL Z rest i) (i / 8)) ^^^ ((BitVec.ofNat 64 xi.toNat) <<< ((i % 8) * 8)))]), 217⟩] [] := S81
    rw [lanes_set (Nat.lt_of_lt_of_eq (show (i / 8) < 25 by omega) ((mix_len _ _ _).trans hZ).symm)] at S81
    rw [mix_step Z hxi] at S81
    refine wl_nil (hK69 _ _ ?_)
    refine region_wl ?_
    refine do_ rfl (.int .i64 (((i + 1) : Nat) : Int)) (ex_add (m := ((i : Nat) : Int)) (n := (1 : Int)) (r := (((i + 1) : Nat) : Int)) rfl rfl (by omega) (by omega) (by omega)) ?_
    simp only [pS, pN, pA, pC, pZ]
    refine do_ rfl (.int .i64 (((i + 1) : Nat) : Int)) (ex_move _) ?_
    simp only [pS, pN, pA, pC, pZ]
    refine wl_nil ?_
    exact hK66 _ _ _ (by omega) ⟨(i + 1), _, rfl, rfl, rfl, S81, (by omega)⟩
   ·refine do_ rfl (.bool false) (ex_lss (m := ((i : Nat) : Int)) (n := (136 : Int)) (b := false) rfl rfl (decide_eq_false (by omega))) ?_
    simp only [pS, pN, pA, pC, pZ]
    refine wl_nil (hK67 _ _ ?_)
    refine wp_seq_k (fun K82 hK82 => ?_)
    refine wp_cond_false rfl ?_
    refine wp_exit ?_
    refine hK57 _ _ ?_
    refine wp_seq_k (fun K83 hK83 => ?_)
    obtain rfl : i = 136 := by omega
    obtain ⟨Xm, hXm⟩ : ∃ X, X = mixL Z rest 136 := ⟨_, rfl⟩
    have hXl : Xm.length = 25 := by rw [hXm]; exact (mix_len _ _ _).trans hZ
    rw [← hXm] at S64
    refine region_wl ?_
    refine do_ rfl (.int .i64 0) (ex_move _) ?_
    simp only [pS, pN, pA, pC, pZ]
    refine wl_nil (hK83 _ _ ?_)
    refine wp_block ?_
    have S64 : St w F w63 F37 [⟨n42, ((stirsL Xm 0).map laneV), 217⟩] [] := by rw [stirs_zero]; exact S64
    refine wp_loop_g (fun mm aa w85 => ∃ (q : Nat) (u84 : Nat → Value), mm = 24 - q ∧ u84 = slots aa ∧ aa = ⟨#[(.slice x b.length y), undef, (.slice none 0 0), (.slice ra rn rc), (.pointer (some ⟨n42, 0, none⟩)), (u59 5), (u84 6), undef, undef, (.slice x b.length y), v4, (.slice (some ⟨n8, 0, none⟩) 1 1), v11, (.slice (some ⟨g31, 0, none⟩) (padK b (padN b)).length cap27), (.int .i64 (((padK b (padN b)).length : Nat) : Int)), (.int .i64 ((((padK b (padN b)).length % 136) : Nat) : Int)), (.bool false), (u16 17), (u16 18), (u16 19), (.slice (some ⟨g31, 0, none⟩) (padK b (padN b)).length cap27), (.slice (some ⟨g31, 0, none⟩) (padK b (padN b)).length cap27), (.int .i64 (((padK b (padN b)).length : Nat) : Int)), (.int .i64 ((((padK b (padN b)).length - 1) : Nat) : Int)), (.pointer (some ⟨g31, 0 + ((padK b (padN b)).length - 1) * 1, none⟩)), (bv xb), (bv (xb ||| 128)), (.pointer (some ⟨g31, 0 + ((padK b (padN b)).length - 1) * 1, none⟩)), (.slice ra rn rc), (.int .i64 ((rn : Nat) : Int)), (.bool true), (u46 31), (u46 32), (.int .i64 136), (.bool false), (u59 35), (u59 36), (u59 37), (u59 38), (u59 39), (u59 40), (u59 41), (u59 42), (u59 43), (u59 44), (u59 45), (u59 46), (u59 47), (u59 48), (u59 49), (u59 50), (u59 51), (.int .i64 ((q : Nat) : Int)), (u84 53), (u84 54), (u84 55), (u84 56), (u84 57), undef, undef, undef, undef, undef, undef, undef, undef, undef, undef, undef, undef, undef, undef, undef, undef, undef, undef, undef, undef], []⟩ ∧ St w F w85 F37 [⟨n42, ((stirsL Xm q).map laneV), 217⟩] [] ∧ (q ≤ 24)) _ ⟨0, _, rfl, rfl, rfl, S64, (by omega)⟩ ?_
    rintro m86 a87 w88 ⟨q, u84, rfl, -, rfl, S89, hq⟩ K91 hK91
    refine wp_seq_k (fun K92 hK92 => region_wl ?_)
    by_cases hc53 : q < 24
    ·refine do_ rfl (.bool true) (ex_lss (m := ((q : Nat) : Int)) (n := (24 : Int)) (b := true) rfl rfl (decide_eq_true (by omega))) ?_
     simp only [pS, pN, pA, pC, pZ]
     refine wl_nil (hK92 _ _ ?_)
     refine wp_seq_k (fun K93 hK93 => ?_)
     refine wp_cond_true rfl ?_
     refine wp_skip ?_
     refine hK93 _ _ ?_
     refine wp_seq_k (fun K94 hK94 => ?_)
     refine wp_block ?_
     refine wp_seq_k (fun K95 hK95 => region_wl ?_)
     refine do_ rfl (.int .i64 ((q : Nat) : Int)) (ex_move _) ?_
     simp only [pS, pN, pA, pC, pZ]
     refine do_ rfl (.int .i64 ((q : Nat) : Int)) (ex_assign _) ?_
     simp only [pS, pN, pA, pC, pZ]
     refine wl_nil (hK95 _ _ ?_)
     refine region_wl ?_
     refine do_ rfl (.int .i64 ((q : Nat) : Int)) (ex_move _) ?_
     simp only [pS, pN, pA, pC, pZ]
     refine stStir rfl (ex_fn (vs := #[(.pointer (some ⟨n42, 0, none⟩)), (.int .i64 ((q : Nat) : Int))]) (map2 rfl rfl) rfl (ent_138 _ _)) (stir_spec S89 (stirs_len hXl _) hT (by omega)) (fun w96 S97 => ?_)
     simp only [pS, pN, pA, pC, pZ]
     have S97 : St w F w96 F37 [⟨n42, ((stirL (stirsL Xm q) q).map laneV), 217⟩] [] := S97
     rw [stirs_step] at S97
     refine wl_nil (hK94 _ _ ?_)
     refine region_wl ?_
     refine do_ rfl (.int .i64 (((q + 1) : Nat) : Int)) (ex_add (m := ((q : Nat) : Int)) (n := (1 : Int)) (r := (((q + 1) : Nat) : Int)) rfl rfl (by omega) (by omega) (by omega)) ?_
     simp only [pS, pN, pA, pC, pZ]
     refine do_ rfl (.int .i64 (((q + 1) : Nat) : Int)) (ex_move _) ?_
     simp only [pS, pN, pA, pC, pZ]
     refine wl_nil ?_
     exact hK91 _ _ _ (by omega) ⟨(q + 1), _, rfl, rfl, rfl, S97, (by omega)⟩
    ·refine do_ rfl (.bool false) (ex_lss (m := ((q : Nat) : Int)) (n := (24 : Int)) (b := false) rfl rfl (decide_eq_false (by omega))) ?_
     simp only [pS, pN, pA, pC, pZ]
     refine wl_nil (hK92 _ _ ?_)
     refine wp_seq_k (fun K98 hK98 => ?_)
     refine wp_cond_false rfl ?_
     refine wp_exit ?_
     refine hK56 _ _ ?_
     obtain rfl : q = 24 := by omega
     refine region_wl ?_
     refine do_ rfl (.slice ra rn rc) (ex_move _) ?_
     simp only [pS, pN, pA, pC, pZ]
     have hcap : rest.length ≤ rc := by obtain ⟨_, _, e, q, _⟩ := hrest.shape; injection e with _ _ e; rw [e]; exact q
     have r99 : Bs _ (.slice (if rc = 136 then ra else ra.map (·.add (136 * 1))) (rn - 136) (rc - 136)) (rest.drop 136) := Bs.restD hrest (by omega)
     refine do_ rfl (.slice (if rc = 136 then ra else ra.map (·.add (136 * 1))) (rn - 136) (rc - 136)) (ex_slice (l := 136) (h := rn) (sz := 1) Tryz.underlying25 rfl (sizeof_5 _) (.inr ⟨_, rfl, rfl⟩) (.inl ⟨rfl, rfl⟩) (by omega) (by omega) (rfl)) ?_
     simp only [pS, pN, pA, pC, pZ]
     refine do_ rfl (.slice (if rc = 136 then ra else ra.map (·.add (136 * 1))) (rn - 136) (rc - 136)) (ex_assign _) ?_
     simp only [pS, pN, pA, pC, pZ]
     refine wl_nil ?_
     have hdl : (rest.drop 136).length = rest.length - 136 := by simp
     exact hK53 _ _ _ (by omega) ⟨(stirsL Xm 24), (if rc = 136 then ra else ra.map (·.add (136 * 1))), (rn - 136), (rc - 136), (rest.drop 136), _, rfl, rfl, rfl, S89, (stirs_len hXl 24), r99, (by omega), (by omega), (absorb_at hXm (by omega) hab)⟩
  ·refine do_ rfl (.bool false) (ex_gtr (m := ((rn : Nat) : Int)) (n := (0 : Int)) (b := false) rfl rfl (decide_eq_false (by omega))) ?_
   simp only [pS, pN, pA, pC, pZ]
   refine wl_nil (hK55 _ _ ?_)
   refine wp_cond_false rfl ?_
   refine wp_exit ?_
   refine hK45 _ _ ?_
   refine wp_seq_k (fun K100 hK100 => ?_)
   have hZa := absorb_end (by omega) hab
   refine region_wl ?_
   refine stMake (k := 1) (n := 32) (m := 32) S51 rfl i5 (.int .u8 0) 1 Tryz.underlying25 hi5 hz5 hs5 hb5 rfl rfl (by omega) (by omega) (by omega) ?_
   intro g101 w102 S103
   rw [made_bytes] at S103
   simp only [pS, pN, pA, pC, pZ]
   have S103 : St w F w102 F37 [⟨g101, ((List.replicate 32 (0 : UInt8)).map bv), 5⟩, ⟨n42, (Z.map laneV), 217⟩] [] := S103
   have S103 : St w F w102 F37 [⟨g101, ((outK Z 0).map bv), 5⟩, ⟨n42, (Z.map laneV), 217⟩] [] := by rw [outK_zero]; exact S103
   refine do_ rfl (.slice (some ⟨g101, 0, none⟩) 32 32) (ex_assign _) ?_
   simp only [pS, pN, pA, pC, pZ]
   refine wl_nil (hK100 _ _ ?_)
   refine wp_seq_k (fun K104 hK104 => ?_)
   refine wp_seq_k (fun K105 hK105 => region_wl ?_)
   refine do_ rfl (.slice (some ⟨g101, 0, none⟩) 32 32) (ex_move _) ?_
   simp only [pS, pN, pA, pC, pZ]
   refine do_ rfl (.int .i64 32) (ex_len Tryz.underlying25 rfl) ?_
   simp only [pS, pN, pA, pC, pZ]
   refine do_ rfl (.int .i64 0) (ex_move _) ?_
   simp only [pS, pN, pA, pC, pZ]
   refine wl_nil (hK105 _ _ ?_)
   refine wp_block ?_
   refine wp_loop_g (fun mm aa w107 => ∃ (j : Nat) (u106 : Nat → Value), mm = 32 - j ∧ u106 = slots aa ∧ aa = ⟨#[(.slice x b.length y), undef, (.slice none 0 0), (.slice ra rn rc), (.pointer (some ⟨n42, 0, none⟩)), (u46 5), (u46 6), (.slice (some ⟨g101, 0, none⟩) 32 32), (u106 8), (.slice x b.length y), v4, (.slice (some ⟨n8, 0, none⟩) 1 1), v11, (.slice (some ⟨g31, 0, none⟩) (padK b (padN b)).length cap27), (.int .i64 (((padK b (padN b)).length : Nat) : Int)), (.int .i64 ((((padK b (padN b)).length % 136) : Nat) : Int)), (.bool false), (u16 17), (u16 18), (u16 19), (.slice (some ⟨g31, 0, none⟩) (padK b (padN b)).length cap27), (.slice (some ⟨g31, 0, none⟩) (padK b (padN b)).length cap27), (.int .i64 (((padK b (padN b)).length : Nat) : Int)), (.int .i64 ((((padK b (padN b)).length - 1) : Nat) : Int)), (.pointer (some ⟨g31, 0 + ((padK b (padN b)).length - 1) * 1, none⟩)), (bv xb), (bv (xb ||| 128)), (.pointer (some ⟨g31, 0 + ((padK b (padN b)).length - 1) * 1, none⟩)), (.slice ra rn rc), (.int .i64 ((rn : Nat) : Int)), (.bool false), (u46 31), (u46 32), (u46 33), (u46 34), (u46 35), (u46 36), (u46 37), (u46 38), (u46 39), (u46 40), (u46 41), (u46 42), (u46 43), (u46 44), (u46 45), (u46 46), (u46 47), (u46 48), (u46 49), (u46 50), (u46 51), (u46 52), (u46 53), (u46 54), (u46 55), (u46 56), (u46 57), (.slice (some ⟨g101, 0, none⟩) 32 32), (.slice (some ⟨g101, 0, none⟩) 32 32), (.int .i64 32), (.int .i64 ((j : Nat) : Int)), (u106 62), (u106 63), (u106 64), (u106 65), (u106 66), (u106 67), (u106 68), (u106 69), (u106 70), (u106 71), (u106 72), (u106 73), (u106 74), (u106 75), (u106 76), undef], []⟩ ∧ St w F w107 F37 [⟨g101, ((outK Z j).map bv), 5⟩, ⟨n42, (Z.map laneV), 217⟩] [] ∧ (j ≤ 32)) _ ⟨0, _, rfl, rfl, rfl, S103, (by omega)⟩ ?_
   rintro m108 a109 w110 ⟨j, u106, rfl, -, rfl, S111, hj⟩ K113 hK113
   refine wp_seq_k (fun K114 hK114 => region_wl ?_)
   by_cases hc62 : j < 32
   ·refine do_ rfl (.bool true) (ex_lss (m := ((j : Nat) : Int)) (n := (32 : Int)) (b := true) rfl rfl (decide_eq_true (by omega))) ?_
    simp only [pS, pN, pA, pC, pZ]
    refine wl_nil (hK114 _ _ ?_)
    refine wp_seq_k (fun K115 hK115 => ?_)
    refine wp_cond_true rfl ?_
    refine wp_skip ?_
    refine hK115 _ _ ?_
    refine wp_seq_k (fun K116 hK116 => ?_)
    refine wp_block ?_
    refine wp_seq_k (fun K117 hK117 => region_wl ?_)
    refine do_ rfl (.int .i64 ((j : Nat) : Int)) (ex_move _) ?_
    simp only [pS, pN, pA, pC, pZ]
    refine do_ rfl (.int .i64 ((j : Nat) : Int)) (ex_assign _) ?_
    simp only [pS, pN, pA, pC, pZ]
    refine wl_nil (hK117 _ _ ?_)
    refine region_wl ?_
    refine do_ rfl (.slice (some ⟨g101, 0, none⟩) 32 32) (ex_move _) ?_
    simp only [pS, pN, pA, pC, pZ]
    refine do_ rfl (.int .i64 ((j : Nat) : Int)) (ex_move _) ?_
    simp only [pS, pN, pA, pC, pZ]
    refine do_ rfl (.int .i64 ((j : Nat) : Int)) (ex_move _) ?_
    simp only [pS, pN, pA, pC, pZ]
    refine do_ rfl (.int .i64 (((j / 8) : Nat) : Int)) (ex_quoA (m := j) (n := 8) rfl rfl (by decide) (by omega)) ?_
    simp only [pS, pN, pA, pC, pZ]
    refine do_ rfl (.pointer (some ⟨n42, (j / 8), none⟩)) (ex_atA (i := (j / 8)) Tryz.underlying217 (sizeof_215 _) rfl rfl (by omega)) ?_
    simp only [pS, pN, pA, pC, pZ]
    refine do_ rfl (laneV (at0 Z (j / 8))) (ex_load rfl (load1 (nagg_215 _) (St.cell S111 (i := 1) rfl (lanes_at (Nat.lt_of_lt_of_eq (show (j / 8) < 25 by omega) hZ.symm))))) ?_
    simp only [pS, pN, pA, pC, pZ]
    refine do_ rfl (.int .i64 ((j : Nat) : Int)) (ex_move _) ?_
    simp only [pS, pN, pA, pC, pZ]
    refine do_ rfl (.int .i64 (((j % 8) : Nat) : Int)) (ex_remA (m := j) (n := 8) rfl rfl (by decide) (by omega)) ?_
    simp only [pS, pN, pA, pC, pZ]
    refine do_ rfl (.int .i64 ((((j % 8) * 8) : Nat) : Int)) (ex_mul (m := (((j % 8) : Nat) : Int)) (n := (8 : Int)) (r := ((((j % 8) * 8) : Nat) : Int)) rfl rfl (by omega) (by omega) (by omega)) ?_
    simp only [pS, pN, pA, pC, pZ]
    refine do_ rfl (laneV ((at0 Z (j / 8)) >>> ((j % 8) * 8))) (ex_shrL (n := ((j % 8) * 8)) rfl rfl (by omega)) ?_
    simp only [pS, pN, pA, pC, pZ]
    refine do_ rfl (bv (UInt8.ofNat (((at0 Z (j / 8)) >>> ((j % 8) * 8)).toNat % 256))) (ex_convert (v := (laneV ((at0 Z (j / 8)) >>> ((j % 8) * 8)))) rfl (conv_low ((at0 Z (j / 8)) >>> ((j % 8) * 8)) _)) ?_
    simp only [pS, pN, pA, pC, pZ]
    refine do_ rfl (.pointer (some ⟨g101, 0 + j * 1, none⟩)) (ex_at (i := j) (sz := 1) Tryz.underlying25 (sizeof_5 _) rfl rfl rfl (by omega) rfl) ?_
    simp only [pS, pN, pA, pC, pZ]
    refine stStore (i := 0) (v := bv (UInt8.ofNat (((at0 Z (j / 8)) >>> ((j % 8) * 8)).toNat % 256))) S111 rfl rfl rfl rfl (size_5) (allc1 rfl) (by rw [List.length_map, outK_len]; show 0 + j * 1 + 1 ≤ 32; omega) (fun w118 S119 => ?_)
    simp only [pS, pN, pA, pC, pZ]
    have S119 : St w F w118 F37 [⟨g101, (splice ((outK Z j).map bv) (0 + j * 1) [bv (UInt8.ofNat (((at0 Z (j / 8)) >>> ((j % 8) * 8)).toNat % 256))]), 5⟩, ⟨n42, (Z.map laneV), 217⟩] [] := S119
    rw [Nat.zero_add, Nat.mul_one, bytes_set (by rw [outK_len]; omega)] at S119
    have S119 : St w F w118 F37 [⟨g101, (((outK Z j).set j (outAt Z j)).map bv), 5⟩, ⟨n42, (Z.map laneV), 217⟩] [] := S119
    rw [outK_step Z (by omega)] at S119
    refine wl_nil (hK116 _ _ ?_)
    refine region_wl ?_
    refine do_ rfl (.int .i64 (((j + 1) : Nat) : Int)) (ex_add (m := ((j : Nat) : Int)) (n := (1 : Int)) (r := (((j + 1) : Nat) : Int)) rfl rfl (by omega) (by omega) (by omega)) ?_
    simp only [pS, pN, pA, pC, pZ]
    refine do_ rfl (.int .i64 (((j + 1) : Nat) : Int)) (ex_move _) ?_
    simp only [pS, pN, pA, pC, pZ]
    refine wl_nil ?_
    exact hK113 _ _ _ (by omega) ⟨(j + 1), _, rfl, rfl, rfl, S119, (by omega)⟩
   ·refine do_ rfl (.bool false) (ex_lss (m := ((j : Nat) : Int)) (n := (32 : Int)) (b := false) rfl rfl (decide_eq_false (by omega))) ?_
    simp only [pS, pN, pA, pC, pZ]
    refine wl_nil (hK114 _ _ ?_)
    refine wp_seq_k (fun K120 hK120 => ?_)
    refine wp_cond_false rfl ?_
    refine wp_exit ?_
    refine hK104 _ _ ?_
    refine wp_seq_k (fun K121 hK121 => ?_)
    obtain rfl : j = 32 := by omega
    rw [outK_all] at S111
    refine region_wl ?_
    refine do_ rfl (.slice (some ⟨g101, 0, none⟩) 32 32) (ex_move _) ?_
    simp only [pS, pN, pA, pC, pZ]
    refine do_ rfl (.slice (some ⟨g101, 0, none⟩) 32 32) (ex_assign _) ?_
    simp only [pS, pN, pA, pC, pZ]
    refine wl_nil (hK121 _ _ ?_)
    refine wp_ret ?_
    (try simp only [Exit.then, Exit.inBlock, ↓reduceIte, Nat.reduceEqDiff])
    refine bodyPost_ret (v := (.slice (some ⟨g101, 0, none⟩) 32 32)) ?_ rfl ?_
    ·exact res_t rfl rfl
    ·have hB := St.blkRow (k := 1) (l := outL Z) (el := (outL Z).map fun b => [bv b]) (hR := ByC.mono) (cap := 32) S111 (by rw [bytes_flat, List.take_of_length_le (by rw [List.length_map, outL_len]; decide)]) (allR_bytes _ _) (by simp) (by rw [List.length_map, outL_len]) (by rw [outL_len]; decide) (by unfold maxLen; decide) (S111.blk _ (List.mem_cons_self ..)).2.2
     rw [outL_len] at hB
     refine ⟨_, _, rfl, hB.gr, ?_⟩
     have hO := St.own (i := 0) hB rfl
     unfold sumL
     rw [← hZa]
     exact hO
 ·refine do_ rfl (.bool true) (ex_neq (m := ((((padK b k).length % 136) : Nat) : Int)) (n := (0 : Int)) (b := true) rfl rfl (bne_iff_ne.2 (by omega))) ?_
  simp only [pS, pN, pA, pC, pZ]
  refine wl_nil (hK25 _ _ ?_)
  refine wp_cond_true rfl ?_
  refine wp_skip ?_
  refine hK24 _ _ ?_
  refine wp_block ?_
  refine region_wl ?_
  refine do_ rfl (.slice a26 (padK b k).length cap27) (ex_move _) ?_
  simp only [pS, pN, pA, pC, pZ]
  refine stNew S21 (v := fun n => .slice (some ⟨n, 0, none⟩) 1 1) rfl (ex_lit (ps := #[(0, (.int .u8 0))]) (cells := #[(.int .u8 0)]) (E := 5) (bmap1 rfl) (fun w => by kernel_rfl)) (fun n122 w123 S124 => ?_)
  simp only [pS, pN, pA, pC, pZ]
  have S124 : St w F w123 F [⟨n122, [(.int .u8 0)], 5⟩] [ownP 1 ByC ByC.mono 5 w.heap.size (.slice a26 (padK b k).length cap27) (padK b k)] := S124
  refine stPush (i := 0) (r := 0) (p := (0 : UInt8)) (cs := [(.int .u8 0)]) S124 rfl i5 (.int .u8 0) 1 Tryz.underlying25 hi5 hz5 hs5 hb5 rfl (by decide) rfl rfl rfl rfl rfl (bv_one 0) (rfl) (Nat.le_refl _) S124.gr.below.size (by unfold maxLen; omega) (by omega) ?_
  intro v125 w126 S127 hn128
  simp only [pS, pN, pA, pC, pZ]
  have S127 := St.drop S127 (L' := []) (.cons _ (List.Sublist.refl _))
  have S127 : St w F w126 F [] [ownP 1 ByC ByC.mono 5 w.heap.size v125 ((padK b k) ++ [(0 : UInt8)])] := S127
  refine do_ rfl v125 (ex_assign _) ?_
  simp only [pS, pN, pA, pC, pZ]
  refine wl_nil ?_
  rw [padK_step] at S127
  have hk2 : k + 1 ≤ padN b := by unfold padN at *; omega
  exact hK23 _ _ _ (by omega) ⟨(k + 1), v125, _, rfl, rfl, rfl, S127, hk2⟩
/-- A slice of byte slices. -/
def LsC (F : Fz) (cs : List Value) (p : By) : Prop := ∃ a, cs = [a] ∧ Bs F a p
theorem LsC.mono (F F' : Fz) (x : List Value) (p : By) (hl : Le F F') (h : LsC F x p) : LsC F' x p := by
 obtain ⟨a, h1, h2⟩ := h
 exact ⟨a, h1, h2.mono hl⟩
abbrev Lss (F : Fz) (v : Value) (l : List By) : Prop := Sl 1 LsC F v l
theorem Lss.get {F : Fz} {a : Option Addr} {n c : Nat} {l : List By} (h : Lss F (.slice a n c) l) {i : Nat} {p : By} (hp : l[i]? = some p) :
    ∃ b o, a = some ⟨b, o, none⟩ ∧ ∃ xa xc, cellF F b (o + i * 1) = some (.slice xa p.length xc) ∧ Bs F (.slice xa p.length xc) p := by
 obtain ⟨hi, rfl⟩ := List.getElem?_eq_some_iff.1 hp
 have hn := h.len
 obtain ⟨b, o, e, h1⟩ := Sl.at h (by omega) (by omega)
 obtain ⟨cs, q1, ⟨x, rfl, r1⟩, q4⟩ := h1 i hi
 obtain ⟨xa, xc, rfl, _⟩ := r1.shape
 exact ⟨b, o, e, xa, xc, by have := q4 0 (by simp); simpa using this, r1⟩
theorem Lss.mono {F F' : Fz} {v : Value} {l : List By} (h : Lss F v l) (hl : Le F F') : Lss F' v l := Sl.mono LsC.mono h hl
section
variable {P : Program} {ops : Array Oper} {Q : Exit → Act → World → Prop} {a : Act} {w w' : World} {rest : List Oper} {o : Oper} {n : Nat}
end
/-- All cells but one block lie as they lay. -/
def KeepC (b : Nat) (W W' : World) : Prop := ∀ k o, k ≠ b → W.heap[k]? = some o → o.isCells = true → W'.heap[k]? = some o
theorem KeepC.trans {b : Nat} {X Y Z : World} (h : KeepC b X Y) (k : KeepC b Y Z) : KeepC b X Z := fun j o hj ho hc => k j o hj (h j o hj ho hc) hc
theorem KeepC.put {b : Nat} {B : Nat} (W : World) (l : Nat) (o o' : Obj) (_ : B ≤ l) (h : W.heap[l]? = some o) (hc : o.isCells = false) (_ : o.isWalk = false) : KeepC b W (W.putObj l o') := fun k x _ hk hx => by
  rw [World.putObj_heap_other (fun e => by rw [e, h] at hk; cases hk; rw [hc] at hx; cases hx)]
  exact hk
def SatC (F : Fz) (W : World) : Prop := ∀ b c t fr, F b = some (.cells c t fr) → W.heap[b]? = some (.cells c t fr)
theorem SatC.cell {F : Fz} {W : World} (h : SatC F W) {b o : Nat} {v : Value} (hc : cellF F b o = some v) : W.cell? ⟨b, o, none⟩ = some v := by
 unfold cellF at hc
 split at hc
 ·rename_i c t fr hb
  simp [World.cell?, h b _ _ _ hb, hc]
 ·cases hc
theorem SatC.keep {F : Fz} {W W' : World} {b : Nat} (h : SatC F W) (hF : F b = none) (hk : KeepC b W W') : SatC F W' := fun k c t fr hb => hk k _ (fun e => by rw [e, hF] at hb; cases hb) (h k c t fr hb) rfl
theorem Sat.c {F : Fz} {W : World} (h : Sat W F) : SatC F W := fun b c t fr hb => h b _ hb
theorem SatC.below {F : Fz} {w W : World} (h : SatC F w) (hW : Below w.heap.size w W) : SatC F W := fun b c t fr hb => by
  have := h b c t fr hb
  rw [hW.block b (Array.getElem?_eq_some_iff.1 this).1]
  exact this
/-- What the loop over the steps is handed. -/
def BkX (F : Fz) := { x : Nat × Option Addr × Nat × Stp // Bs F (.slice x.2.1 x.2.2.2.other.length x.2.2.1) x.2.2.2.other ∧ x.2.2.2.bit < 145 ∧ x.2.2.2.other.length = 32 }
def bkS {F : Fz} (x : BkX F) : Stp := x.1.2.2.2
def bkV {F : Fz} (x : BkX F) : Value := .slice x.1.2.1 (bkS x).other.length x.1.2.2.1
theorem Bs.cells {F F' : Fz} {v : Value} {l : By} (h : Bs F v l) (hc : ∀ b o u, cellF F b o = some u → cellF F' b o = some u) : Bs F' v l := by
 obtain ⟨a, c, h1, h2, h3, h4, h5⟩ := h
 exact ⟨a, c, h1, h2, h3, h4, h5.imp id fun ⟨b, o, h6, h7⟩ => ⟨b, o, h6, fun j u hu => hc _ _ _ (h7 j u hu)⟩⟩
/-- What holds between two rounds. -/
def UpI {F1 : Fz} (w0 : World) (F0 : Fz) (B b5 : Nat) (d0 : By) (pre : List (BkX F1)) (W : World) : Prop :=
  (w0.heap.size ≤ b5 ∧ b5 < B ∧ w0.heap.size ≤ B ∧ B ≤ W.heap.size) ∧ ∃ F da dc, Gr w0 F0 W F ∧ Le F1 F ∧ (∀ r o, B ≤ r → W.heap[r]? = some o → o.isCells = false → F r = none) ∧ F b5 = none ∧ W.heap[b5]? = some (.cells #[.slice da (pre.foldl (fun d x => up1 (bkS x) d) d0).length dc] 25 (0, 0)) ∧ Bs F (.slice da (pre.foldl (fun d x => up1 (bkS x) d) d0).length dc) (pre.foldl (fun d x => up1 (bkS x) d) d0)
theorem UpI.own {F1 : Fz} {w0 : World} {F0 : Fz} {B b5 : Nat} {d0 : By} : OwnFrom B (UpI (F1 := F1) w0 F0 B b5 d0) := by
 intro pre W W' row ⟨⟨hb1, hb2, hb3, hB⟩, F, da, dc, hG, hle, hcl, h5n, h5, hbs⟩ hg hr
 have hrow : ∀ k, row = some k → F k = none := fun k e => by
  obtain ⟨h1, o, h2, h3⟩ := hr k e
  exact hcl k o h1 h2 h3
 have h5' : W'.heap[b5]? = some (.cells #[.slice da (pre.foldl (fun d x => up1 (bkS x) d) d0).length dc] 25 (0, 0)) := by
  rw [hg.block b5 (Array.getElem?_eq_some_iff.1 h5).1 (fun e => by have := (hr b5 e.symm).1; omega)]
  exact h5
 refine ⟨⟨hb1, hb2, hb3, Nat.le_trans hB hg.size⟩, F, da, dc, ⟨hG.below.grown hg (by omega) (fun k e => by have := (hr k e).1; omega), hG.old, hG.sat.grown hg hrow⟩, hle, fun r o hrB ho hc => ?_, h5n, h5', hbs⟩
 by_cases hlt : r < W.heap.size
 by_cases e : some r = row
 exact hrow r e.symm
 rw [hg.block r hlt e] at ho
 exact hcl r o hrB ho hc
 exact hG.sat.out (by omega)
/-- The box of a step, in a round. -/
def UpX {F1 : Fz} (B : Nat) (fr : Nat → BkX F1 → Array Value) (x : BkX F1) (a' : Act) (W : World) : Prop :=
  ∃ Bx, B ≤ Bx ∧ W.heap[Bx]? = some (.cells #[.int .i64 (((bkS x).bit : Nat) : Int), .bool (bkS x).right, bkV x] 204 (0, 0)) ∧ a' = ⟨fr Bx x, []⟩
theorem UpX.own {F1 : Fz} {B B' : Nat} {fr : Nat → BkX F1 → Array Value} {x : BkX F1} {a' : Act} : OwnFrom B' (fun (_ : Unit) W => UpX B fr x a' W) := by
 rintro _ W W' row ⟨Bx, h1, h2, h3⟩ hg hr
 refine ⟨Bx, h1, ?_, h3⟩
 rw [hg.block Bx (Array.getElem?_eq_some_iff.1 h2).1 (fun e => by obtain ⟨_, o, ho, hc⟩ := hr Bx e.symm; rw [h2] at ho; cases ho; cases hc)]
 exact h2
theorem UpI.below {F1 : Fz} {w0 W w : World} {F0 : Fz} {B b5 : Nat} {d0 : By} {pre : List (BkX F1)} (h : UpI w0 F0 B b5 d0 pre W) (hb : Below W.heap.size W w) : UpI w0 F0 B b5 d0 pre w := by
 obtain ⟨⟨hb1, hb2, hb3, hB⟩, F, da, dc, hG, hle, hcl, h5n, h5, hbs⟩ := h
 refine ⟨⟨hb1, hb2, hb3, Nat.le_trans hB hb.size⟩, F, da, dc, hG.trans (Gr.of_below hG.sat hb), hle, fun r o hrB ho hc => ?_, h5n, (hb.block b5 (Array.getElem?_eq_some_iff.1 h5).1).trans h5, hbs⟩
 by_cases hlt : r < W.heap.size
 rw [hb.block r hlt] at ho
 exact hcl r o hrB ho hc
 exact hG.sat.out (by omega)
theorem UpI.end {F1 : Fz} {w0 W : World} {F0 : Fz} {B b5 D : Nat} {d0 : By} {pre : List (BkX F1)} (h : UpI w0 F0 B b5 d0 pre W) (hD : B ≤ D) (hK : W.heap[D]? = some (.deferred (some []))) :
    ∃ da dc F, W.cell? ⟨b5, 0, none⟩ = some (.slice da (pre.foldl (fun d x => up1 (bkS x) d) d0).length dc) ∧ Gr w0 F0 (W.putObj D (.deferred none)) F ∧ Bs F (.slice da (pre.foldl (fun d x => up1 (bkS x) d) d0).length dc) (pre.foldl (fun d x => up1 (bkS x) d) d0) := by
 obtain ⟨⟨hb1, hb2, hb3, hB⟩, F, da, dc, hG, hle, hcl, h5n, h5, hbs⟩ := h
 exact ⟨da, dc, F, by simp [World.cell?, h5], ⟨hG.below.grown (grownBy_putObj' W D _) (by omega) (fun k e => by cases e; omega), hG.old, hG.sat.grown (grownBy_putObj' W D _) (fun k e => by cases e; exact hcl D _ hD hK rfl)⟩, hbs⟩
/-- The tenants' names and the roots of their trees. -/
def rootsF (l : Forest) : List Pr := l.map fun t => (t.1, rootT t.2)
def rootF (l : Forest) : By := rootT (rootsF l)
theorem hl_two {P : Program} {Q : Exit → Act → World → Prop} {F : Fz} {fuel : Nat} {listed : Array Bool} {a : Act} {w : World} {l : List Oper} {o1 o2 : Oper} (i j : Nat) (hr : Region.ready .any l.toArray listed = [i, j]) (hi : l[i]? = some o1) (hj : l[j]? = some o2)
    (h1 : WL P l.toArray (Exit.then (fun a' w' => Sat w' F ∧ Go.wpAnyH P .any l.toArray Q (fun w => Sat w F) fuel (listed.setIfInBounds i true) a' w') Q) [o1] a w)
    (h2 : WL P l.toArray (Exit.then (fun a' w' => Sat w' F ∧ Go.wpAnyH P .any l.toArray Q (fun w => Sat w F) fuel (listed.setIfInBounds j true) a' w') Q) [o2] a w) : HL P l.toArray Q F (fuel + 1) listed a w := by
 refine ⟨Go.wpAnyH_all hr (by simp) fun k hk => ?_⟩
 have key : ∀ (m : Nat) (o : Oper), l[m]? = some o → WL P l.toArray (Exit.then (fun a' w' => Sat w' F ∧ Go.wpAnyH P .any l.toArray Q (fun w => Sat w F) fuel (listed.setIfInBounds m true) a' w') Q) [o] a w → wpOp P l.toArray Q m (fun a' w' => Sat w' F ∧ Go.wpAnyH P .any l.toArray Q (fun w => Sat w F) fuel (listed.setIfInBounds m true) a' w') a w := by
  intro m o hm h
  have h1 := h.out
  unfold wpList at h1
  unfold wpOp
  have hi' : l.toArray[m]? = some o := by simpa using hm
  simp only [hi']
  split
  rename_i hw
  rw [if_pos hw] at h1
  rcases h1 with h1 | h1
  left
  refine Oper.wp_mono (fun a' w' hk => ?_) (Oper.wp_exit h1)
  exact hk
  exact .inr h1
  rename_i hw
  rw [if_neg hw] at h1
  exact h1
 rcases (by simpa using hk : k = i ∨ k = j) with rfl | rfl
 exact key _ _ hi h1
 exact key _ _ hj h2

structure Tp where
  data : By
  synced : Nat
/-- A commit's bytes behind their length. -/
def bodyB (m : Cm) : By := b8 ((encCm m.turn m.writes).length / 256) :: b8 (encCm m.turn m.writes).length :: encCm m.turn m.writes
/-- .. and their digest's first bytes. -/
def frameB (m : Cm) : By := bodyB m ++ (sumL (bodyB m)).take 4
def tapeB (cs : List Cm) : By := cs.flatMap frameB
def chunkR (r : By) (k : Nat) : Option (Cm × Nat) :=
  if r.length < 2 then none else
  if 4000 < 2 + (r.getD 0 0).toNat * 256 + (r.getD 1 0).toNat ∨ r.length < 2 + (r.getD 0 0).toNat * 256 + (r.getD 1 0).toNat + 4 then none else
  if (sumL (r.take (2 + (r.getD 0 0).toNat * 256 + (r.getD 1 0).toNat))).take 4 ≠ (r.drop (2 + (r.getD 0 0).toNat * 256 + (r.getD 1 0).toNat)).take 4 then none else
  if decE ((r.take (2 + (r.getD 0 0).toNat * 256 + (r.getD 1 0).toNat)).drop 2) ≠ 0 ∨ (decC ((r.take (2 + (r.getD 0 0).toNat * 256 + (r.getD 1 0).toNat)).drop 2)).turn ≠ k + 1 then none else
  some (decC ((r.take (2 + (r.getD 0 0).toNat * 256 + (r.getD 1 0).toNat)).drop 2), 2 + (r.getD 0 0).toNat * 256 + (r.getD 1 0).toNat + 4)
def recL : Nat → By → Nat → List Cm × Nat
  | 0, _, _ => ([], 0)
  | f + 1, r, k => match chunkR r k with
    | none => ([], 0)
    | some p => (p.1 :: (recL f (r.drop p.2) (k + 1)).1, p.2 + (recL f (r.drop p.2) (k + 1)).2)
def recT (d : By) : List Cm × Nat := recL d.length d 0
theorem recL_none {r : By} {k : Nat} (h : chunkR r k = none) (f : Nat) : recL f r k = ([], 0) := by
 cases f with
 | zero => rfl
 | succ f => rw [recL, h]
theorem recL_some {r : By} {k f : Nat} {p : Cm × Nat} (h : chunkR r k = some p) : recL (f + 1) r k = (p.1 :: (recL f (r.drop p.2) (k + 1)).1, p.2 + (recL f (r.drop p.2) (k + 1)).2) := by rw [recL, h]
theorem bodyB_len {m : Cm} (hm : CmOk m) : (bodyB m).length = 2 + (encCm m.turn m.writes).length ∧ (bodyB m).length ≤ 596 ∧ 6 ≤ (bodyB m).length := by
 have := encCm_len hm
 have h : (bodyB m).length = 2 + (encCm m.turn m.writes).length := by simp [bodyB]; omega
 omega
theorem frameB_len {m : Cm} (hm : CmOk m) : (frameB m).length = 6 + (encCm m.turn m.writes).length ∧ (frameB m).length = (bodyB m).length + 4 := by
 have := bodyB_len hm
 have : (frameB m).length = (bodyB m).length + 4 := by
  unfold frameB
  rw [List.length_append, List.length_take, sumL_len]
  omega
 omega
theorem body_num {m : Cm} (hm : CmOk m) {t : By} : 2 + (((frameB m) ++ t).getD 0 0).toNat * 256 + (((frameB m) ++ t).getD 1 0).toNat = (bodyB m).length := by
 have h1 := encCm_len hm
 have h2 := bodyB_len hm
 have e0 : ((frameB m) ++ t).getD 0 0 = b8 ((encCm m.turn m.writes).length / 256) := by simp [frameB, bodyB]
 have e1 : ((frameB m) ++ t).getD 1 0 = b8 (encCm m.turn m.writes).length := by simp [frameB, bodyB]
 rw [e0, e1, b8_toNat (by omega)]
 have : (b8 (encCm m.turn m.writes).length).toNat = (encCm m.turn m.writes).length % 256 := by simp [b8]
 omega
theorem chunk_frame {m : Cm} (hm : CmOk m) {t : By} {k : Nat} : chunkR (frameB m ++ t) k = if m.turn = k + 1 then some (m, (frameB m).length) else none := by
 have h2 := bodyB_len hm
 have h3 := frameB_len hm
 have hl : (frameB m ++ t).length = (bodyB m).length + 4 + t.length := by rw [List.length_append]; omega
 have ht : (frameB m ++ t).take (bodyB m).length = bodyB m := by
  rw [show frameB m = bodyB m ++ (sumL (bodyB m)).take 4 from rfl, List.append_assoc, List.take_left']
  rfl
 have hd : ((frameB m ++ t).drop (bodyB m).length).take 4 = (sumL (bodyB m)).take 4 := by
  rw [show frameB m = bodyB m ++ (sumL (bodyB m)).take 4 from rfl, List.append_assoc, List.drop_left' rfl, List.take_append_of_le_length (by rw [List.length_take, sumL_len]; omega), List.take_take]
  simp
 have hb : (bodyB m).drop 2 = encCm m.turn m.writes := rfl
 obtain ⟨d1, d2⟩ := dec_back hm
 unfold chunkR
 rw [body_num hm, if_neg (by omega), if_neg (by omega), ht, hd, if_neg (by simp), hb, d1, d2]
 by_cases h : m.turn = k + 1
 ·rw [if_neg (by simp [h]), if_pos h, h3.2]
 ·rw [if_pos (.inr h), if_neg h]
theorem chunk_torn {m : Cm} (hm : CmOk m) {n k : Nat} (hn : n < (frameB m).length) : chunkR ((frameB m).take n) k = none := by
 have h2 := bodyB_len hm
 have h3 := frameB_len hm
 unfold chunkR
 have hl : ((frameB m).take n).length = n := by rw [List.length_take]; omega
 rw [hl]
 by_cases h : n < 2
 ·rw [if_pos h]
 ·rw [if_neg h]
  have e : 2 + (((frameB m).take n).getD 0 0).toNat * 256 + (((frameB m).take n).getD 1 0).toNat = (bodyB m).length := by
   rw [← body_num hm (t := [])]
   have q : ∀ i, i < 2 → ((frameB m).take n).getD i 0 = (frameB m ++ []).getD i 0 := by
    intro i hi
    rw [List.append_nil, List.getD_eq_getElem?_getD, List.getD_eq_getElem?_getD, List.getElem?_take_of_lt (by omega)]
   rw [q 0 (by omega), q 1 (by omega)]
  rw [e, if_pos (.inr (by omega))]
theorem tapeB_append (a b : List Cm) : tapeB (a ++ b) = tapeB a ++ tapeB b := by simp [tapeB]
theorem rec_of : ∀ (cs : List Cm) (f k : Nat) (t : By), (∀ c ∈ cs, CmOk c) → (∀ (i : Nat) (h : i < cs.length), cs[i].turn = k + i + 1) → chunkR t (k + cs.length) = none → (tapeB cs ++ t).length ≤ f → recL f (tapeB cs ++ t) k = (cs, (tapeB cs).length)
  | [], f, k, t, _, _, ht, _ => by
    rw [show tapeB ([] : List Cm) ++ t = t from rfl, recL_none (by simpa using ht)]
    rfl
  | c :: cs, f, k, t, hok, htn, ht, hf => by
    have hc := hok c (by simp)
    have h3 := frameB_len hc
    have hb := bodyB_len hc
    have e : tapeB (c :: cs) ++ t = frameB c ++ (tapeB cs ++ t) := by simp [tapeB]
    have ht0 : c.turn = k + 1 := by have := htn 0 (by simp); simpa using this
    have hch := chunk_frame hc (t := tapeB cs ++ t) (k := k)
    rw [if_pos ht0] at hch
    rw [e] at hf ⊢
    match f, hf with
    | 0, hf => rw [List.length_append] at hf; omega
    | f + 1, hf =>
      rw [recL_some hch]
      simp only
      rw [List.drop_left' rfl, rec_of cs f (k + 1) t (fun x hx => hok x (by simp [hx])) (fun i hi => by have := htn (i + 1) (by simpa using hi); simp at this; omega) (by rw [show k + 1 + cs.length = k + (c :: cs).length from by simp; omega]; exact ht) (by rw [List.length_append] at hf; omega)]
      refine Prod.ext rfl ?_
      simp [tapeB]
/-- How many whole commits so many bytes hold. -/
def wholeN : List Cm → Nat → Nat
  | [], _ => 0
  | c :: cs, n => if (frameB c).length ≤ n then 1 + wholeN cs (n - (frameB c).length) else 0
theorem wholeN_le : ∀ (cs : List Cm) (n : Nat), wholeN cs n ≤ cs.length
  | [], _ => by simp [wholeN]
  | c :: cs, n => by
    unfold wholeN
    split
    · have := wholeN_le cs (n - (frameB c).length); simp; omega
    · simp
theorem take_tape : ∀ (cs : List Cm) (n k : Nat), (∀ c ∈ cs, CmOk c) → n ≤ (tapeB cs).length → ∃ t, (tapeB cs).take n = tapeB (cs.take (wholeN cs n)) ++ t ∧ (∀ k, chunkR t k = none) ∧ (t = [] ∨ wholeN cs n < cs.length) ∧ (n = (tapeB cs).length → wholeN cs n = cs.length)
  | [], n, k, _, _ => ⟨[], by simp [tapeB], fun k => by unfold chunkR; rw [if_pos (by simp)], .inl rfl, fun _ => rfl⟩
  | c :: cs, n, k, hok, hn => by
    have hc := hok c (by simp)
    have h3 := frameB_len hc
    have e : tapeB (c :: cs) = frameB c ++ tapeB cs := by simp [tapeB]
    rw [e, List.length_append] at hn
    by_cases hw : (frameB c).length ≤ n
    · obtain ⟨t, h1, h2, h4, h5⟩ := take_tape cs (n - (frameB c).length) k (fun x hx => hok x (by simp [hx])) (by omega)
      have ew : wholeN (c :: cs) n = wholeN cs (n - (frameB c).length) + 1 := by rw [wholeN, if_pos hw]; omega
      refine ⟨t, ?_, h2, ?_, fun h => ?_⟩
      · rw [e, ew, List.take_succ_cons, show n = (frameB c).length + (n - (frameB c).length) from by omega, List.take_append]
        simp only [Nat.add_sub_cancel_left]
        rw [List.take_of_length_le (by omega), h1]
        simp [tapeB]
      · rw [ew, List.length_cons]
        rcases h4 with h4 | h4
        · exact .inl h4
        · exact .inr (by omega)
      · rw [ew, List.length_cons, h5 (by rw [e, List.length_append] at h; omega)]
    · have ew : wholeN (c :: cs) n = 0 := by rw [wholeN, if_neg hw]
      refine ⟨(frameB c).take n, ?_, fun k => chunk_torn hc (by omega), ?_, fun h => ?_⟩
      · rw [e, ew, List.take_append_of_le_length (by omega)]
        simp [tapeB]
      · rw [ew]; exact .inr (by simp)
      · rw [e, List.length_append] at h; omega
theorem rec_tape {m : Nat} {cs : List Cm} (hh : HistOk m cs) {n : Nat} (hn : n ≤ (tapeB cs).length) : recT ((tapeB cs).take n) = (cs.take (wholeN cs n), (tapeB (cs.take (wholeN cs n))).length) := by
 obtain ⟨t, h1, h2, _, _⟩ := take_tape cs n 0 hh.ok hn
 unfold recT
 rw [h1]
 refine rec_of _ _ 0 t (fun c hc => hh.ok c (List.mem_of_mem_take hc)) (fun i hi => ?_) (h2 _) (Nat.le_refl _)
 rw [List.getElem_take]
 have := hh.turn i (by rw [List.length_take] at hi; omega)
 omega
theorem tapeB_len_le {cs : List Cm} (hok : ∀ c ∈ cs, CmOk c) : (tapeB cs).length ≤ 600 * cs.length := by
 induction cs with
 | nil => simp [tapeB]
 | cons c cs ih =>
  have h3 := frameB_len (hok c (by simp))
  have hb := bodyB_len (hok c (by simp))
  have := ih (fun x hx => hok x (by simp [hx]))
  have e : tapeB (c :: cs) = frameB c ++ tapeB cs := by simp [tapeB]
  rw [e, List.length_append, List.length_cons]
  omega
theorem whole_len : ∀ (cs : List Cm) (n : Nat), (tapeB (cs.take (wholeN cs n))).length ≤ n
  | [], n => by simp [tapeB, wholeN]
  | c :: cs, n => by
    unfold wholeN
    split
    · rename_i h
      have := whole_len cs (n - (frameB c).length)
      rw [Nat.add_comm, List.take_succ_cons, show tapeB (c :: cs.take (wholeN cs (n - (frameB c).length))) = frameB c ++ tapeB (cs.take (wholeN cs (n - (frameB c).length))) from by simp [tapeB], List.length_append]
      omega
    · simp [tapeB]
theorem whole_ge : ∀ (cs : List Cm) (k n : Nat), k ≤ cs.length → (tapeB (cs.take k)).length ≤ n → k ≤ wholeN cs n
  | _, 0, _, _, _ => Nat.zero_le _
  | [], k + 1, _, h, _ => by simp at h
  | c :: cs, k + 1, n, hk, h => by
    rw [List.take_succ_cons, show tapeB (c :: cs.take k) = frameB c ++ tapeB (cs.take k) from by simp [tapeB], List.length_append] at h
    rw [wholeN, if_pos (by omega)]
    have := whole_ge cs k (n - (frameB c).length) (by simpa using hk) (by omega)
    omega
theorem cloneO_spec (F : Fz) (w : World) (v : Value) (l : List UInt8) (hs : Sat w F) (hv : Bs F v l) (hm : l.length ≤ 100000) :
    Calls Tryz.prog 45 #[v] w (GivesO w F 1 ByC 5 l) := by
 obtain ⟨a, c, rfl, hlc, hcm⟩ := hv.shape
 obtain ⟨i, hi, hz0, hz1, hz2⟩ := info_parts infoU8
 have hr := hv
 unfold Bs at hr
 have hnil := Lib.run_eql_slice_nil (P := Tryz.prog) w 25 5 a l.length c 0 0 Tryz.underlying25
 cases a with
 | none =>
  have hl : l = [] := by
   obtain ⟨a', c', h1, _, _, h4, _⟩ := hr
   cases h1
   exact List.eq_nil_of_length_eq_zero (h4 rfl).1
  subst hl
  simp only [List.length_nil] at hnil
  go_enter Tryz.func45, Tryz.ntmps45
  go_wp2_with fail
  go_ret
  exact ⟨_, F, rfl, Gr.refl hs, Own.nil _ _⟩
 | some a =>
  have hown := World.ownsRow_lit (base := w.heap.size) (e := 5) (size := 1) w #[] 0 (Nat.le_refl _) (Nat.zero_le _) rfl
  have hsa := hs.alloc (.cells #[] 5)
  go_enter Tryz.func45, Tryz.ntmps45
  go_wp2_with (at_builtin; go_loud (refine wpList_append_any rfl _ _ 25 rfl w.heap.size 5 i (.int .u8 0) 1 1 Tryz.underlying25 hi hz0 hz1 hz2 rfl (by decide) rfl hown rfl hsa hr (by simp) (bv_oneCell _) (by unfold maxLen; omega) (by omega) (by simp) ?_))
  intro v1 w1 hown1 hg _
  have hb : Below w.heap.size w w1 := ((Below.refl _ _).alloc (Nat.le_refl _) _).grown hg (by simp) (fun g hg' => (hown.lt g hg').1)
  clear hg hown
  go_wp2_with fail
  go_ret
  refine ⟨_, F, rfl, Gr.of_below hs hb, ⟨l.map fun b => [bv b], ?_, allR_bytes F l, by simp⟩, fun g hg => hs.out (hown1.lt g hg).1⟩
  rw [bytes_flat]
  simpa using hown1
/-- A tape by value. -/
def TpV (F : Fz) (v : Value) (t : Tp) : Prop := ∃ a c, v = .agg #[.slice a t.data.length c, .int .i64 (t.synced : Nat)] ∧ Bs F (.slice a t.data.length c) t.data
theorem TpV.mono {F F' : Fz} {v : Value} {t : Tp} (h : TpV F v t) (hl : Le F F') : TpV F' v t := by
 obtain ⟨a, c, h1, h2⟩ := h; exact ⟨a, c, h1, h2.mono hl⟩
def GivesTp (w : World) (F : Fz) (t : Tp) (e : Ending) (w' : World) : Prop := ∃ v F', e = .returned (.tuple #[.agg #[v, .int .i64 (t.synced : Nat)], .bool true]) ∧ Gr w F w' F' ∧ Own 1 ByC 5 w.heap.size w' F' v t.data
theorem stGivesTp {P : Program} {ops : Array Oper} {Q : Exit → Act → World → Prop} {a : Act} {rest : List Oper} {o : Oper} {kf : FuncId} {vs : Array Value} {w0 w : World} {F0 F : Fz} {L : List Blk} {M : List RowP} {t : Tp} (S : St w0 F0 w F L M) (hw : Region.wanted o (yielded ops a.tmps) = true)
    (hr : (execOp a.eval o).run P w = .ok (.enter kf vs) w) (hc : Calls P kf vs w (GivesTp w F t))
    (h : ∀ v w' F', St w0 F0 w' F' L (ownP 1 ByC ByC.mono 5 w0.heap.size v t.data :: M) → Le F F' → WL P ops Q rest (a.put o.dst (.tuple #[.agg #[v, .int .i64 (t.synced : Nat)], .bool true])) w') : WL P ops Q (o :: rest) a w :=
  doC hw hr hc fun e w' ⟨v, F', he, g, ho⟩ => ⟨_, he, h v w' F' (S.addRow g ho) (g.le S.sat)⟩
structure TpOk (n : Nat) (t : Tp) : Prop where
  len : t.data.length ≤ n
  syn : t.synced ≤ t.data.length
def TpeV (t : Tp) (e : Int) (F : Fz) (u : Value) : Prop := ∃ v, u = .tuple #[v, .int .i64 e] ∧ TpV F v t
/-- What was known when the call saw more is known to one who sees less. -/
def mixF (w : World) (F G : Fz) : Fz := fun b => if b < w.heap.size then F b else G b
theorem Gr.mix {w w' : World} {F F1 G : Fz} (hl : Le F F1) (h : Gr w F1 w' G) (hs : Sat w F) : Gr w F w' (mixF w F G) := by
 refine ⟨h.below, fun b hb => by unfold mixF; rw [if_pos hb], fun b o hb => ?_⟩
 unfold mixF at hb
 split at hb
 rename_i hlt
 exact h.sat b o (by rw [h.old b hlt]; exact hl b o hb)
 exact h.sat b o hb
theorem ByC.mix {base E : Nat} {w w' : World} {F G : Fz} {v : Value} {l : By} (h : Own 1 ByC E base w' G v l) (hb : w.heap.size ≤ base) : Own 1 ByC E base w' (mixF w F G) v l := by
 obtain ⟨el, h1, h2, h3⟩ := h.ex
 refine ⟨⟨el, h1, h2.imp fun x p hx => hx, h3⟩, fun g hg => ?_⟩
 unfold mixF
 rw [if_neg (by have := (h.lt g hg).1; omega)]
 exact h.out g hg
def GivesSum (w : World) (F : Fz) (b : By) (e : Ending) (w' : World) : Prop := ∃ v F', e = .returned (.tuple #[v, .int .i64 0]) ∧ Gr w F w' F' ∧ Own 1 ByC 5 w.heap.size w' F' v (sumL b)
theorem GivesSum.mix {w w' : World} {F F1 : Fz} {b : By} {e : Ending} (hs : Sat w F) (hl : Le F F1) (h : GivesSum w F1 b e w') : GivesSum w F b e w' := by
 obtain ⟨v, F', he, g, ho⟩ := h
 exact ⟨v, _, he, g.mix hl hs, ByC.mix ho (Nat.le_refl _)⟩
theorem stGivesSum {P : Program} {ops : Array Oper} {Q : Exit → Act → World → Prop} {a : Act} {rest : List Oper} {o : Oper} {kf : FuncId} {vs : Array Value} {w0 w : World} {F0 F F1 : Fz} {L : List Blk} {M : List RowP} {b : By} (S : St w0 F0 w F L M) (hl : Le F F1) (hw : Region.wanted o (yielded ops a.tmps) = true)
    (hr : (execOp a.eval o).run P w = .ok (.enter kf vs) w) (hc : Calls P kf vs w (GivesSum w F1 b))
    (h : ∀ v w' F', St w0 F0 w' F' L (ownP 1 ByC ByC.mono 5 w0.heap.size v (sumL b) :: M) → Le F F' → WL P ops Q rest (a.put o.dst (.tuple #[v, .int .i64 0])) w') : WL P ops Q (o :: rest) a w :=
  doC hw hr hc fun e w' hg => by
    obtain ⟨v, F', he, g, ho⟩ := GivesSum.mix S.sat hl hg
    exact ⟨_, he, h v w' F' (S.addRow g ho) (g.le S.sat)⟩
theorem Sum_own (F : Fz) (w : World) (v : Value) (b : By) (hs : Sat w F) (hT : Tabs w) (hb : Bs F v b) (hn : b.length ≤ 4000) :
    Calls Tryz.prog 96 #[v] w (GivesSum w F b) := by
 obtain ⟨x, y, rfl, hc1', hc2'⟩ := hb.shape
 unfold maxLen at hc2'
 have S := St.start hs
 go_enter Tryz.func96, Tryz.ntmps96
 refine sk fun K1 hK1 => ?_
 iterate 2 refine dy ?_
 refine wn hK1 ?_
 refine wp_seq_k (fun K2 hK2 => ?_)
 refine sk fun K3 hK3 => ?_
 refine dx ?_
 refine dn Tryz.underlying25 ?_
 refine gtrF ?_
 simp only [pq]
 refine wn hK3 ?_
 refine wp_cond_false rfl ?_
 refine wp_skip ?_
 refine hK2 _ _ ?_
 refine sk fun K4 hK4 => ?_
 refine dx ?_
 refine stGivesO ByC.mono S rfl (fn1 (ent_117 _ _)) (sum_own _ _ _ b (S).sat (hT.at S.gr.below) hb (by omega)) ?_
 intro v9 w5 F7 S6 le8
 iterate 2 refine dy ?_
 simp only [pq]
 refine wn hK4 ?_
 refine wp_ret ?_
 try simp only [xt]
 refine bR (res_tt rfl (gD rfl) (gD rfl)) ?_
 exact ⟨_, _, rfl, S6.gr, St.own (i := 0) S6 rfl⟩
theorem open_spec (F : Fz) (w : World) (v : Value) (t : Tp) (hs : Sat w F) (hv : TpV F v t) (ok : TpOk 100000 t) :
    Calls Tryz.prog 95 #[v] w (GivesTp w F t) := by
 obtain ⟨x, y, rfl, hv⟩ := hv
 have h1 := ok.len
 have h2 := ok.syn
 have S := St.start hs
 go_enter Tryz.func95, Tryz.ntmps95
 refine sk fun K1 hK1 => ?_
 refine stNew S (v := fun n => .pointer (aA n 0)) rfl (ex_box (v := (.agg #[(.slice x t.data.length y), (nI t.synced)])) rfl) (fun n2 w3 S4 => ?_)
 refine sA S4 (zero_108 _) fun n5 w6 S7 => ?_
 refine dy ?_
 refine wn hK1 ?_
 refine wp_seq_k (fun K8 hK8 => ?_)
 refine sk fun K9 hK9 => ?_
 refine df (fa_108_1 _ _) ?_
 refine dl (nagg_3 _) S7 1 ?_
 refine lssF ?_
 simp only [pq]
 refine dx ?_
 refine df (fa_108_1 _ _) ?_
 refine dl (nagg_3 _) S7 1 ?_
 simp only [pq]
 refine df (fa_108_0 _ _) ?_
 refine dl (nagg_25 _) S7 1 ?_
 refine dn Tryz.underlying25 ?_
 simp only [pq]
 refine gtrF ?_
 refine dp ?_
 refine dx ?_
 simp only [pq]
 refine df (fa_108_0 _ _) ?_
 refine dl (nagg_25 _) S7 1 ?_
 refine dn Tryz.underlying25 ?_
 simp only [pq]
 refine gtrF ?_
 refine dp ?_
 refine wn hK9 ?_
 refine wp_cond_false rfl ?_
 refine wp_skip ?_
 refine hK8 _ _ ?_
 refine wp_seq_k (fun K10 hK10 => ?_)
 obtain ⟨S11, le12, hc13⟩ := St.freezeBlk S7 (i := 1) rfl
 generalize addF F w6 n2 = F14 at *
 refine region_hl S11 (by kernel_rfl) (fun w16 S15 => ?_)
 refine hl_take 0 rfl (by kernel_rfl) (v := (pP n2 0)) (fun _ _ _ h => h) S15.sat rfl (fun w17 hs18 => ef (fa_108_0 _ _)) ?_
 simp only [pq]
 refine hl_take 1 rfl (by kernel_rfl) (v := (.slice x t.data.length y)) (fun _ _ _ h => h) S15.sat rfl (fun w19 hs20 => ex_load rfl (load1 (nagg_25 _) (St.fz (St.start hs20) (hc13 0 _ rfl)))) ?_
 simp only [pq]
 refine hl_take 3 rfl (by kernel_rfl) (v := (pP n2 1)) (fun _ _ _ h => h) S15.sat rfl (fun w21 hs22 => ef (fa_108_1 _ _)) ?_
 simp only [pq]
 refine hl_take 4 rfl (by kernel_rfl) (v := (nI t.synced)) (fun _ _ _ h => h) S15.sat rfl (fun w23 hs24 => ex_load rfl (load1 (nagg_3 _) (St.fz (St.start hs24) (hc13 1 _ rfl)))) ?_
 simp only [pq]
 refine hl_next 2 (by kernel_rfl) rfl ?_
 refine stGivesO ByC.mono S15 rfl (fn1 (ent_45 _ _)) (cloneO_spec _ _ _ t.data (S15).sat (hv.mono le12) (by omega)) ?_
 intro v25 w26 F28 S27 le29
 simp only [pq]
 obtain ⟨a30, cap31, rfl, h32, h33⟩ := (S27.own (i := 0) rfl).shape
 unfold maxLen at h33
 refine wl_nil (hl_back (Sat.le S27.sat le29) ?_)
 refine hl_take 5 rfl (by kernel_rfl) (v := (.agg #[(.slice a30 t.data.length cap31), (nI t.synced)])) (fun _ _ _ h => h) (Sat.le S27.sat le29) rfl (fun w34 hs35 => ex_build (ps := #[(0, (.slice a30 t.data.length cap31)), (1, (nI t.synced))]) (bmap2 rfl rfl) (by kernel_rfl)) ?_
 simp only [pq]
 refine hl_next 6 (by kernel_rfl) rfl ?_
 refine sW 0 S27 (size_108) fun w36 S37 => ?_
 refine wl_nil (hl_back (Sat.le S37.sat le29) ?_)
 refine hl_take 7 rfl (by kernel_rfl) (v := bT) (fun _ _ _ h => h) (Sat.le S37.sat le29) rfl (fun w38 hs39 => ex_assign _) ?_
 simp only [pq]
 refine hl_done (by kernel_rfl) ?_
 refine hK10 _ _ ?_
 refine wp_ret ?_
 try simp only [xt]
 refine bR (res_ct rfl ⟨_, rfl, lR S37 0 Tryz.underlying108 (size_108)⟩ (gD rfl)) ?_
 exact ⟨_, _, rfl, S37.gr, St.own (i := 0) S37 rfl⟩
theorem sync_spec (F : Fz) (w : World) (v : Value) (t : Tp) (hs : Sat w F) (hv : TpV F v t) (ok : TpOk 100000 t) :
    Calls Tryz.prog 82 #[v] w (Gives w F (TpeV ⟨t.data, t.data.length⟩ 0)) := by
 obtain ⟨x, y, rfl, hv⟩ := hv
 have h1 := ok.len
 have h2 := ok.syn
 have S := St.start hs
 go_enter Tryz.func82, Tryz.ntmps82
 refine sk fun K1 hK1 => ?_
 refine stNew S (v := fun n => .pointer (aA n 0)) rfl (ex_box (v := (.agg #[(.slice x t.data.length y), (nI t.synced)])) rfl) (fun n2 w3 S4 => ?_)
 refine sA S4 (zero_108 _) fun n5 w6 S7 => ?_
 refine dy ?_
 refine wn hK1 ?_
 refine sk fun K8 hK8 => ?_
 refine dR S7 1 Tryz.underlying108 (size_108) ?_
 simp only [pq]
 refine stGivesTp S7 rfl (fn1 (ent_95 _ _)) (open_spec _ _ _ t (S7).sat ⟨_, _, rfl, hv⟩ (⟨by omega, ok.syn⟩)) ?_
 intro v9 w10 F11 S12 le13
 simp only [pq]
 obtain ⟨a14, cap15, rfl, h16, h17⟩ := (S12.own (i := 0) rfl).shape
 unfold maxLen at h17
 refine dx ?_
 iterate 2 refine de ?_
 simp only [pq]
 refine sA S12 (zero_108 _) fun n18 w19 S20 => ?_
 refine sW 0 S20 (size_108) fun w21 S22 => ?_
 refine dy ?_
 simp only [pq]
 refine wn hK8 ?_
 refine wp_seq_k (fun K23 hK23 => ?_)
 refine sk fun K24 hK24 => ?_
 refine dx ?_
 refine dt ?_
 refine wn hK24 ?_
 refine wp_cond_false rfl ?_
 refine wp_skip ?_
 refine hK23 _ _ ?_
 refine wp_seq_k (fun K25 hK25 => ?_)
 obtain ⟨F26, S27, le28, hv29⟩ := St.freeze S22 (i := 0) rfl (Nat.le_refl _)
 have hv29 : Bys _ (.slice a14 t.data.length cap15) t.data := hv29
 have r30 := bs_of_sl hv29
 refine region_wl ?_
 refine df (fa_108_0 _ _) ?_
 refine dl (nagg_25 _) S27 0 ?_
 refine dn Tryz.underlying25 ?_
 simp only [pq]
 refine df (fa_108_1 _ _) ?_
 refine sW 0 S27 (size_3) fun w31 S32 => ?_
 refine wl_nil (hK25 _ _ ?_)
 refine sk fun K33 hK33 => ?_
 refine dR S32 0 Tryz.underlying108 (size_108) ?_
 simp only [pq]
 refine sW 1 S32 (size_108) fun w34 S35 => ?_
 refine dy ?_
 refine wn hK33 ?_
 refine wp_ret ?_
 try simp only [xt]
 refine bR (res_ct rfl ⟨_, rfl, lR S35 1 Tryz.underlying108 (size_108)⟩ (gD rfl)) ?_
 exact ⟨_, _, rfl, S35.gr, _, rfl, _, _, rfl, r30⟩
def crashN (t : Tp) (k : Nat) : Nat := t.synced + min k (t.data.length - t.synced)
theorem append_spec (F : Fz) (w : World) (v u : Value) (t : Tp) (m : Cm) (hs : Sat w F) (hT : Tabs w) (hv : TpV F v t) (hc : CmV F u m) (ok : TpOk 90000 t) (hm : CmOk m) :
    Calls Tryz.prog 110 #[v, u] w (Gives w F (TpeV ⟨t.data ++ frameB m, t.synced⟩ 0)) := by
 obtain ⟨x, y, rfl, hv⟩ := hv
 have h1' := ok.len
 have h2' := ok.syn
 obtain ⟨x1, y1, rfl, h1⟩ := hc
 obtain ⟨_, _, e1, q2, q3⟩ := Sl.shape h1
 injection e1 with _ _ e1
 subst e1
 unfold maxLen at q3
 obtain ⟨i5, hi5, hz5, hs5, hb5⟩ := info_parts infoU8
 have S := St.start hs
 go_enter Tryz.func110, Tryz.ntmps110
 refine sk fun K1 hK1 => ?_
 refine stNew S (v := fun n => .pointer (aA n 0)) rfl (ex_box (v := (.agg #[(.slice x t.data.length y), (nI t.synced)])) rfl) (fun n2 w3 S4 => ?_)
 refine stNew S4 (v := fun n => .pointer (aA n 0)) rfl (ex_box (v := (.agg #[(nI m.turn), (.slice x1 m.writes.length y1)])) rfl) (fun n5 w6 S7 => ?_)
 simp only [pq]
 refine sA S7 (zero_108 _) fun n8 w9 S10 => ?_
 refine dy ?_
 refine wn hK1 ?_
 refine sk fun K11 hK11 => ?_
 refine dR S10 2 Tryz.underlying108 (size_108) ?_
 simp only [pq]
 refine stGivesTp S10 rfl (fn1 (ent_95 _ _)) (open_spec _ _ _ t (S10).sat ⟨_, _, rfl, hv⟩ (⟨by omega, ok.syn⟩)) ?_
 intro v12 w13 F14 S15 le16
 simp only [pq]
 obtain ⟨a17, cap18, rfl, h19, h20⟩ := (S15.own (i := 0) rfl).shape
 unfold maxLen at h20
 refine dx ?_
 iterate 2 refine de ?_
 simp only [pq]
 refine sA S15 (zero_108 _) fun n21 w22 S23 => ?_
 refine sW 0 S23 (size_108) fun w24 S25 => ?_
 refine dy ?_
 simp only [pq]
 refine wn hK11 ?_
 refine wp_seq_k (fun K26 hK26 => ?_)
 refine sk fun K27 hK27 => ?_
 refine dx ?_
 refine dt ?_
 refine wn hK27 ?_
 refine wp_cond_false rfl ?_
 refine wp_skip ?_
 refine hK26 _ _ ?_
 refine sk fun K28 hK28 => ?_
 refine dR S25 2 Tryz.underlying168 (size_168) ?_
 simp only [pq]
 refine stGives S25 rfl (fn1 (ent_134 _ _)) (encode_spec _ _ _ (⟨m.turn, m.writes⟩ : Cm) (S25).sat ⟨_, _, rfl, (h1.mono le16)⟩ hm) ?_
 intro v34 w29 F31 S30 le32 R33
 obtain ⟨_, rfl, r37⟩ := R33
 obtain ⟨a35, c36, rfl, h38, _⟩ := r37.shape
 have h38 : (encCm m.turn m.writes).length ≤ c36 := h38
 have r37 : Bs _ (.slice a35 (encCm m.turn m.writes).length c36) (encCm m.turn m.writes) := r37
 refine dx ?_
 iterate 2 refine de ?_
 simp only [pq]
 iterate 2 refine dy ?_
 refine wn hK28 ?_
 refine wp_seq_k (fun K39 hK39 => ?_)
 refine sk fun K40 hK40 => ?_
 refine dx ?_
 refine dr bF (ex_neq (b := false) rfl rfl (by decide)) ?_
 simp only [pq]
 refine wn hK40 ?_
 refine wp_cond_false rfl ?_
 refine wp_skip ?_
 refine hK39 _ _ ?_
 refine wp_seq_k (fun K41 hK41 => ?_)
 obtain ⟨hb1, hb2, hb3⟩ := bodyB_len hm
 obtain ⟨hf1, hf2⟩ := frameB_len hm
 refine region_wl ?_
 refine dx ?_
 refine dn Tryz.underlying25 ?_
 refine dr (nI ((encCm m.turn m.writes).length / 256)) (ex_shrN (m := ((encCm m.turn m.writes).length)) (n := 8) rfl rfl (by decide)) ?_
 simp only [pq]
 refine dr (bv (b8 ((encCm m.turn m.writes).length / 256))) (ex_convert (v := (nI ((encCm m.turn m.writes).length / 256))) rfl (conv_b8 ((encCm m.turn m.writes).length / 256) _)) ?_
 refine dx ?_
 refine dn Tryz.underlying25 ?_
 simp only [pq]
 refine dr (bv (b8 ((encCm m.turn m.writes).length))) (ex_convert (v := (.int .i64 (((encCm m.turn m.writes).length : Nat) : Int))) rfl (conv_b8 ((encCm m.turn m.writes).length) _)) ?_
 refine stNew S30 (v := fun n => .slice (aA n 0) 2 2) rfl (ex_lit (ps := #[(0, (bv (b8 ((encCm m.turn m.writes).length / 256)))), (1, (bv (b8 ((encCm m.turn m.writes).length))))]) (cells := #[(bv (b8 ((encCm m.turn m.writes).length / 256))), (bv (b8 ((encCm m.turn m.writes).length)))]) (E := 5) (bmap2 rfl rfl) (fun w => by kernel_rfl)) (fun n42 w43 S44 => ?_)
 refine dx ?_
 simp only [pq]
 have S45 : St w F w43 F31 [⟨n21, [(.slice a17 t.data.length cap18), (nI t.synced)], 108⟩, ⟨n8, [Zn, (iI 0)], 108⟩, ⟨n5, [(nI m.turn), (.slice x1 m.writes.length y1)], 168⟩, ⟨n2, [(.slice x t.data.length y), (nI t.synced)], 108⟩] [ownP 1 ByC ByC.mono 5 w.heap.size (.slice (aA n42 0) 2 2) [b8 ((encCm m.turn m.writes).length / 256), b8 (encCm m.turn m.writes).length], ownP 1 ByC ByC.mono 5 w.heap.size (.slice a17 t.data.length cap18) t.data] := St.blkRow (k := 1) (l := [b8 ((encCm m.turn m.writes).length / 256), b8 (encCm m.turn m.writes).length]) (el := [[(bv (b8 ((encCm m.turn m.writes).length / 256)))], [(bv (b8 ((encCm m.turn m.writes).length)))]]) (hR := ByC.mono) S44 rfl ⟨rfl, rfl, trivial⟩ (by simp) rfl (by simp) (by unfold maxLen; decide) (S44.blk _ (List.mem_cons_self ..)).2.2
 refine stAppendS (r := 0) (u := (.slice a35 (encCm m.turn m.writes).length c36)) S45 rfl i5 (.int .u8 0) 1 Tryz.underlying25 hi5 hz5 hs5 hb5 rfl (by decide) rfl rfl rfl (Sl.toW (Bs.sl r37) (S45).sat) ByC.one (Nat.le_refl _) S45.gr.below.size (by unfold maxLen; (try simp only [List.length_append, List.length_cons, List.length_nil]); omega) (by (try simp only [List.length_append, List.length_cons, List.length_nil]); omega) ?_
 intro v46 w47 S48 hn49
 refine dy ?_
 refine wl_nil (hK41 _ _ ?_)
 refine sk fun K50 hK50 => ?_
 refine dx ?_
 simp only [pq]
 obtain ⟨F51, hs52, le53, hsl54⟩ := own_peek S48 (i := 0) rfl
 refine stGivesSum S48 le53 rfl (fn1 (ent_96 _ _)) (Sum_own _ _ _ (bodyB m) hs52 (hT.at S48.gr.below) (bs_of_sl hsl54) (by omega)) ?_
 intro v55 w56 F57 S58 le59
 refine dx ?_
 iterate 2 refine de ?_
 simp only [pq]
 iterate 2 refine dy ?_
 refine wn hK50 ?_
 refine wp_seq_k (fun K60 hK60 => ?_)
 obtain ⟨F61, S62, le63, hv64⟩ := St.freeze S58 (i := 0) rfl (Nat.le_refl _)
 have hv64 : Bys _ v55 (sumL (bodyB m)) := hv64
 have r65 := bs_of_sl hv64
 obtain ⟨a66, c67, rfl, _⟩ := r65.shape
 have hsl := sumL_len (bodyB m)
 have h4 : ((sumL (bodyB m)).take 4).length = 4 := by rw [List.length_take, hsl]; rfl
 have hcs : 32 ≤ c67 := by obtain ⟨_, _, e, q, _⟩ := r65.shape; injection e with _ _ e; omega
 refine region_wl ?_
 iterate 2 refine dx ?_
 simp only [pq]
 have r68 : Bs _ (.slice a66 4 c67) ((sumL (bodyB m)).take 4) := bs_of_sl (Sl.takeN (Bs.sl r65) (by rw [sumL_len]; decide))
 refine dr (.slice a66 4 c67) (ex_slice (l := 0) (h := 4) (sz := 1) Tryz.underlying25 rfl (sizeof_5 _) (.inl ⟨rfl, rfl⟩) (.inr ⟨_, rfl, rfl⟩) (by omega) (by omega) (slice_zero)) ?_
 refine stAppendS (r := 0) (u := (.slice a66 4 c67)) S62 rfl i5 (.int .u8 0) 1 Tryz.underlying25 hi5 hz5 hs5 hb5 rfl (by decide) rfl rfl rfl (Sl.toW (Bs.sl r68) (S62).sat) ByC.one (Nat.le_refl _) S62.gr.below.size (by unfold maxLen; (try simp only [List.length_append, List.length_cons, List.length_nil]); omega) (by (try simp only [List.length_append, List.length_cons, List.length_nil]); omega) ?_
 intro v69 w70 S71 hn72
 refine dy ?_
 refine wl_nil (hK60 _ _ ?_)
 refine wp_seq_k (fun K73 hK73 => ?_)
 refine wp_seq_k (fun K74 hK74 => ?_)
 obtain ⟨a75, cap76, rfl, h77, h78⟩ := (S71.own (i := 0) rfl).shape
 unfold maxLen at h78
 refine region_wl ?_
 refine df (fa_108_0 _ _) ?_
 refine dl (nagg_25 _) S71 0 ?_
 refine dn Tryz.underlying25 ?_
 simp only [pq]
 refine dx ?_
 refine dn Tryz.underlying25 ?_
 refine dr (nI (t.data.length + (frameB m).length)) (ex_add (m := ((t.data.length : Nat) : Int)) (n := (((frameB m).length : Nat) : Int)) (r := (((t.data.length + (frameB m).length) : Nat) : Int)) rfl rfl (by omega) (by omega) (by omega)) ?_
 simp only [pq]
 refine gtrF ?_
 refine wl_nil (hK74 _ _ ?_)
 refine wp_cond_false rfl ?_
 refine wp_skip ?_
 refine hK73 _ _ ?_
 refine wp_seq_k (fun K79 hK79 => ?_)
 obtain ⟨F80, S81, le82, hv83⟩ := St.freeze S71 (i := 0) rfl (Nat.le_refl _)
 have hv83 : Bys _ (.slice a75 (frameB m).length cap76) (frameB m) := hv83
 have r84 := bs_of_sl hv83
 refine region_wl ?_
 refine df (fa_108_0 _ _) ?_
 refine dl (nagg_25 _) S81 0 ?_
 refine dx ?_
 simp only [pq]
 refine stAppendS (r := 0) (u := (.slice a75 (frameB m).length cap76)) S81 rfl i5 (.int .u8 0) 1 Tryz.underlying25 hi5 hz5 hs5 hb5 rfl (by decide) rfl rfl rfl (Sl.toW (Bs.sl r84) (S81).sat) ByC.one (Nat.le_refl _) S81.gr.below.size (by unfold maxLen; (try simp only [List.length_append, List.length_cons, List.length_nil]); omega) (by (try simp only [List.length_append, List.length_cons, List.length_nil]); omega) ?_
 intro v87 w88 S89 hn90
 simp only [pq]
 obtain ⟨a91, cap92, rfl, h93, h94⟩ := (S89.own (i := 0) rfl).shape
 unfold maxLen at h94
 refine df (fa_108_0 _ _) ?_
 refine sW 0 S89 (size_25) fun w95 S96 => ?_
 refine wl_nil (hK79 _ _ ?_)
 refine sk fun K97 hK97 => ?_
 refine dR S96 0 Tryz.underlying108 (size_108) ?_
 simp only [pq]
 refine sW 1 S96 (size_108) fun w98 S99 => ?_
 refine dy ?_
 refine wn hK97 ?_
 refine wp_ret ?_
 try simp only [xt]
 refine bR (res_ct rfl ⟨_, rfl, lR S99 1 Tryz.underlying108 (size_108)⟩ (gD rfl)) ?_
 ·obtain ⟨F100, S101, le102, hv103⟩ := St.freeze S99 (i := 0) rfl (Nat.le_refl _)
  have hv103 : Bys _ (.slice a91 (t.data ++ (frameB m)).length cap92) (t.data ++ (frameB m)) := hv103
  have r104 := bs_of_sl hv103
  exact ⟨_, _, rfl, S101.gr, _, rfl, _, _, rfl, r104⟩
theorem TpV.dropT {w : World} {F : Fz} {n : Nat} {T : TypeId} (hs : Sat w F) (hb : w.heap[n]? = some (.cells [Value.slice none 0 0, Value.int .i64 0].toArray T (0, 0))) (hc : ∀ u ∈ [Value.slice none 0 0, Value.int .i64 0], ∀ x, u ≠ bv x) {u : Value} {t : Tp} (h : TpV F u t) : TpV (dropF F n) u t := by
 obtain ⟨x0, y0, rfl, h0⟩ := h
 exact ⟨x0, y0, rfl, h0.dropF hs hb hc⟩
theorem TpV.zero (F : Fz) : TpV F (.agg #[.slice none 0 0, .int .i64 0]) ⟨[], 0⟩ := ⟨none, 0, rfl, Bs.nil F⟩
end Go.Proofs.YtilgpdpooildcaaGreatDoor
