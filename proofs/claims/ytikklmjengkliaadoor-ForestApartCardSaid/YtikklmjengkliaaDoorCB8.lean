/- Rules, plain laws and walks: DG2 DG3 DG4 DG5 -/
import Derived.Test.YtikklmjengkliaaDoorCB7
import Derived.Test.YtikklmjengkliaaDoorCB1
import Derived.Test.YtikklmjengkliaaDoorCB3
namespace Go.Proofs.YtikklmjengkliaaDoor
open Go.RowKit
set_option maxRecDepth 100000
set_option linter.unusedVariables false
set_option linter.unusedSimpArgs false
theorem ex_sliceA {P : Program} {ρ : Operand → Value} {w : World} {d : Option Tmp} {t X E : TypeId} {n : Nat} {pos : String} {after : Array Edge} {guard : Option (Nat × Bool)} {x lo hi : Operand} {b l h : Nat} (hX : P.underlying X = some (.array n E)) (hx : ρ x = .pointer (some ⟨b, 0, none⟩)) (hsz : (sizeOf E).run P w = .ok 1 w) (hl : ρ lo = .int .i64 (l : Int)) (hh : ρ hi = .int .i64 (h : Int)) (h1 : l ≤ h) (h2 : h ≤ n) (h3 : l < n) :
    (execOp ρ ⟨d, .slice X x (some lo) (some hi) none, t, pos, after, guard⟩).run P w = .ok (.value (.slice (some ⟨b, l, none⟩) (h - l) (n - l))) w := by
  have b1 : ∀ (z y : Nat) (code : BoundsCode), z ≤ y → (Instr.sliceBound (.int .i64 z) y code).run P w = .ok z w := by
    intro z y code hzy
    have : (0 : Int) ≤ (z : Int) ∧ (z : Int) ≤ (y : Int) := by omega
    simp [Instr.sliceBound, asIntOf, this]
  have hb : (Instr.sliceBounds false n n (some (.int .i64 l)) (some (.int .i64 h)) none).run P w = .ok (l, h, n) w := by
    simp [Instr.sliceBounds, b1 _ _ _ h2, b1 _ _ _ h1]
  have hadd : (⟨b, 0, none⟩ : Addr).add l = ⟨b, l, none⟩ := by have := Addr.add_mid b 0 l; simpa using this
  have hn : ¬ n = l := by omega
  simp [execOp, hx, hl, hh, Instr.sliceAt, Instr.sureAddr, Sem.run_bind, Sem.run_pure, Result.andThen_ok, run_underlying hX w, hb, hsz, hadd, hn]
theorem ex_s2a {P : Program} {ρ : Operand → Value} {w : World} {d : Option Tmp} {t X E : TypeId} {n : Nat} {pos : String} {after : Array Edge} {guard : Option (Nat × Bool)} {x : Operand} {a : Option Addr} {l c : Nat} (hX : P.underlying X = some (.array n E)) (hx : ρ x = .slice a l c) (hl : n ≤ l) :
    (execOp ρ ⟨d, .sliceToArrayPointer X x, t, pos, after, guard⟩).run P w = .ok (.value (.pointer a)) w := by
  have : ¬ l < n := by omega
  simp [execOp, hx, Instr.arrayAt, Sem.run_bind, Sem.run_pure, run_underlying hX w, this]
theorem St.cellsAt {w0 w : World} {F0 F : Fz} {L : List Blk} {M : List RowP} (S : St w0 F0 w F L M) {i : Nat} {n : Nat} {c : List Value} {t : TypeId} (h : L[i]? = some ⟨n, c, t⟩) : ∀ j v, c[j]? = some v → w.cell? ⟨n, j, none⟩ = some v := fun j v hv => St.cell S h hv
theorem row_load {w : World} {n : Nat} {X : List (BitVec 64)} {y : Nat} (h : ∀ (j : Nat) v, (X.map laneV)[j]? = some v → w.cell? ⟨n, j, none⟩ = some v) (hy : y + 5 ≤ X.length) :
    (Instr.loadAt 162 (.pointer (some ⟨n, y, none⟩))).run Tryd.prog w = .ok (.agg #[laneV (at0 X y), laneV (at0 X (y + 1)), laneV (at0 X (y + 2)), laneV (at0 X (y + 3)), laneV (at0 X (y + 4))]) w := by
  refine run_loadAt_mid (P := Tryd.prog) w n y 162 [laneV (at0 X y), laneV (at0 X (y + 1)), laneV (at0 X (y + 2)), laneV (at0 X (y + 3)), laneV (at0 X (y + 4))] (.array 5 145) (fun j v hj => ?_) (by kernel_rfl) rfl (by kernel_rfl)
  refine h _ _ ?_
  have hj5 : j < 5 := by have := (List.getElem?_eq_some_iff.1 hj).1; simpa using this
  rw [lanes_at (by omega), ← hj]
  rcases (by omega : j = 0 ∨ j = 1 ∨ j = 2 ∨ j = 3 ∨ j = 4) with rfl | rfl | rfl | rfl | rfl <;> rfl
theorem rho_one (A : List (BitVec 64)) (k : Nat) : (rhoL A k).1.set (goesN k) (turnL (rhoL A k).2 (turnsN k)) = (rhoL A (k + 1)).1 := rfl
def rowL (Q : List (BitVec 64)) (y : Nat) : List (BitVec 64) := [at0 Q y, at0 Q (y + 1), at0 Q (y + 2), at0 Q (y + 3), at0 Q (y + 4)]
theorem rowL_len (Q : List (BitVec 64)) (y : Nat) : (rowL Q y).length = 5 := rfl
theorem rowL_at {Q : List (BitVec 64)} {y x : Nat} (h : x < 5) : at0 (rowL Q y) x = at0 Q (y + x) := by
  rcases (by omega : x = 0 ∨ x = 1 ∨ x = 2 ∨ x = 3 ∨ x = 4) with rfl | rfl | rfl | rfl | rfl <;> rfl
theorem rowL_chi {Q : List (BitVec 64)} {y : Nat} (h : y + 5 ≤ 25) : rowL (chiK Q y) y = rowL Q y := by
  unfold rowL
  rw [chiK_at (by omega) (by omega), chiK_at (by omega) (by omega), chiK_at (by omega) (by omega), chiK_at (by omega) (by omega), chiK_at (by omega) (by omega)]
theorem chi_row {Q : List (BitVec 64)} {y x : Nat} (hy : y % 5 = 0) (hx : x < 5) : at0 (rowL Q y) x ^^^ (~~~ (at0 (rowL Q y) ((x + 1) % 5)) &&& at0 (rowL Q y) ((x + 2) % 5)) = chiAt Q (y + x) := by
  unfold chiAt
  rw [rowL_at hx, rowL_at (by omega), rowL_at (by omega), show (y + x) / 5 * 5 = y from by omega, show (y + x) % 5 = x from by omega]
theorem res_0 {fn : Func} {tmps : Array Value} {P : Program} {w : World} (h : fn.results = #[]) : (results fn tmps).run P w = .ok (.tuple #[]) w := by simp [results, h]
set_option maxHeartbeats 8000000 in
theorem stir_spec {w0 w : World} {F0 F : Fz} {L0 : List Blk} {M0 : List RowP} {rb r : Nat} {Z : List (BitVec 64)} (S : St w0 F0 w F (⟨rb, Z.map laneV, 147⟩ :: L0) M0) (hl : Z.length = 25) (hT : Tabs w0) (hr : r < 24) :
    Calls Tryd.prog 95 #[.pointer (some ⟨rb, 0, none⟩), .int .i64 ((r : Nat) : Int)] w fun e w' => e = .returned (.tuple #[]) ∧ St w0 F0 w' F (⟨rb, (stirL Z r).map laneV, 147⟩ :: L0) M0 := by
 go_enter Tryd.func95, Tryd.ntmps95
 refine wp_seq_k (fun K1 hK1 => region_wl ?_)
 refine stNew S (v := fun n => .pointer (some ⟨n, 0, none⟩)) rfl (ex_alloc (zero_162 _)) (fun n2 w3 S4 => ?_)
 simp only [pS, pN, pA, pC, pZ]
 have S4 : St w0 F0 w3 F (⟨n2, [(laneV 0), (laneV 0), (laneV 0), (laneV 0), (laneV 0)], 162⟩ :: ⟨rb, (Z.map laneV), 147⟩ :: L0) (M0) := S4
 refine wl_nil (hK1 _ _ ?_)
 refine wp_seq_k (fun K5 hK5 => ?_)
 refine wp_seq_k (fun K6 hK6 => region_wl ?_)
 refine do_ rfl (.int .i64 0) (ex_move _) ?_
 simp only [pS, pN, pA, pC, pZ]
 refine wl_nil (hK6 _ _ ?_)
 refine wp_block ?_
 have S4 : St w0 F0 w3 F (⟨n2, ((cL Z 0).map laneV), 162⟩ :: ⟨rb, (Z.map laneV), 147⟩ :: L0) (M0) := by rw [cL_zero]; exact S4
 refine wp_loop_g (fun mm aa w8 => ∃ (k1 : Nat) (u7 : Nat → Value), mm = 5 - k1 ∧ u7 = slots aa ∧ aa = ⟨#[(.pointer (some ⟨rb, 0, none⟩)), (.int .i64 ((r : Nat) : Int)), undef, undef, (.pointer (some ⟨n2, 0, none⟩)), (u7 5), undef, undef, undef, undef, undef, undef, undef, undef, (.int .i64 ((k1 : Nat) : Int)), (u7 15), (u7 16), (u7 17), (u7 18), (u7 19), (u7 20), (u7 21), (u7 22), (u7 23), (u7 24), (u7 25), (u7 26), (u7 27), (u7 28), (u7 29), (u7 30), (u7 31), (u7 32), (u7 33), (u7 34), (u7 35), (u7 36), (u7 37), (u7 38), (u7 39), (u7 40), (u7 41), (u7 42), (u7 43), (u7 44), (u7 45), (u7 46), (u7 47), (u7 48), (u7 49), (u7 50), (u7 51), (u7 52), undef, undef, undef, undef, undef, undef, undef, undef, undef, undef, undef, undef, undef, undef, undef, undef, undef, undef, undef, undef, undef, undef, undef, undef, undef, undef, undef, undef, undef, undef, undef, undef, undef, undef, undef, undef, undef, undef, undef, undef, undef, undef, undef, undef, undef, undef, undef, undef, undef, undef, undef, undef, undef, undef, undef, undef, undef, undef, undef, undef, undef, undef, undef, undef, undef, undef, undef, undef, undef, undef, undef, undef, undef, undef, undef, undef, undef, undef, undef, undef, undef, undef, undef, undef, undef, undef, undef, undef, undef, undef, undef, undef, undef, undef, undef, undef, undef, undef], []⟩ ∧ St w0 F0 w8 F (⟨n2, ((cL Z k1).map laneV), 162⟩ :: ⟨rb, (Z.map laneV), 147⟩ :: L0) (M0) ∧ (k1 ≤ 5)) _ ⟨0, _, rfl, rfl, rfl, S4, (by omega)⟩ ?_
 rintro m9 a10 w11 ⟨k1, u7, rfl, -, rfl, S12, hk1⟩ K14 hK14
 refine wp_seq_k (fun K15 hK15 => region_wl ?_)
 by_cases hc15 : k1 < 5
 ·refine do_ rfl (.bool true) (ex_lss (m := ((k1 : Nat) : Int)) (n := (5 : Int)) (b := true) rfl rfl (decide_eq_true (by omega))) ?_
  simp only [pS, pN, pA, pC, pZ]
  refine wl_nil (hK15 _ _ ?_)
  refine wp_seq_k (fun K16 hK16 => ?_)
  refine wp_cond_true rfl ?_
  refine wp_skip ?_
  refine hK16 _ _ ?_
  refine wp_seq_k (fun K17 hK17 => ?_)
  refine wp_block ?_
  refine wp_seq_k (fun K18 hK18 => region_wl ?_)
  refine do_ rfl (.int .i64 ((k1 : Nat) : Int)) (ex_move _) ?_
  simp only [pS, pN, pA, pC, pZ]
  refine do_ rfl (.int .i64 ((k1 : Nat) : Int)) (ex_assign _) ?_
  simp only [pS, pN, pA, pC, pZ]
  refine wl_nil (hK18 _ _ ?_)
  refine region_gw F 34 [] (by kernel_rfl) (by kernel_rfl) ?_
  simp only [List.take_succ_cons, List.take_zero]
  refine gw_pure rfl rfl (.int .i64 ((k1 : Nat) : Int)) (fun w19 hCw19 => pureAt_of (ex_move _)) ?_
  simp only [pS, pN, pA, pC, pZ]
  refine gw_pure rfl rfl (.pointer (some ⟨rb, 0, none⟩)) (fun w19 hCw19 => pureAt_of (ex_move _)) ?_
  simp only [pS, pN, pA, pC, pZ]
  refine gw_pure rfl rfl (.int .i64 ((k1 : Nat) : Int)) (fun w19 hCw19 => pureAt_of (ex_move _)) ?_
  simp only [pS, pN, pA, pC, pZ]
  refine gw_pure rfl rfl (.pointer (some ⟨rb, 0, none⟩)) (fun w19 hCw19 => pureAt_of (ex_nil rfl)) ?_
  simp only [pS, pN, pA, pC, pZ]
  refine gw_pure rfl rfl (.pointer (some ⟨rb, k1, none⟩)) (fun w19 hCw19 => pureAt_of (ex_atA (i := k1) Tryd.underlying147 (sizeof_145 _) rfl rfl (by omega))) ?_
  simp only [pS, pN, pA, pC, pZ]
  refine gw_pure rfl rfl (laneV (at0 Z k1)) (fun w19 hCw19 => pureAt_of (ex_load rfl (load1 (nagg_145 _) (St.cell (St.tells S12 hCw19) (i := 1) rfl (lanes_at (Nat.lt_of_lt_of_eq (show k1 < 25 by omega) hl.symm)))))) ?_
  simp only [pS, pN, pA, pC, pZ]
  refine gw_pure rfl rfl (.pointer (some ⟨rb, 0, none⟩)) (fun w19 hCw19 => pureAt_of (ex_move _)) ?_
  simp only [pS, pN, pA, pC, pZ]
  refine gw_pure rfl rfl (.int .i64 ((k1 : Nat) : Int)) (fun w19 hCw19 => pureAt_of (ex_move _)) ?_
  simp only [pS, pN, pA, pC, pZ]
  refine gw_pure rfl rfl (.int .i64 (((k1 + 5) : Nat) : Int)) (fun w19 hCw19 => pureAt_of (ex_add (m := ((k1 : Nat) : Int)) (n := (5 : Int)) (r := (((k1 + 5) : Nat) : Int)) rfl rfl (by omega) (by omega) (by omega))) ?_
  simp only [pS, pN, pA, pC, pZ]
  refine gw_pure rfl rfl (.pointer (some ⟨rb, 0, none⟩)) (fun w19 hCw19 => pureAt_of (ex_nil rfl)) ?_
  simp only [pS, pN, pA, pC, pZ]
  refine gw_pure rfl rfl (.pointer (some ⟨rb, (k1 + 5), none⟩)) (fun w19 hCw19 => pureAt_of (ex_atA (i := (k1 + 5)) Tryd.underlying147 (sizeof_145 _) rfl rfl (by omega))) ?_
  simp only [pS, pN, pA, pC, pZ]
  refine gw_pure rfl rfl (laneV (at0 Z (k1 + 5))) (fun w19 hCw19 => pureAt_of (ex_load rfl (load1 (nagg_145 _) (St.cell (St.tells S12 hCw19) (i := 1) rfl (lanes_at (Nat.lt_of_lt_of_eq (show (k1 + 5) < 25 by omega) hl.symm)))))) ?_
  simp only [pS, pN, pA, pC, pZ]
  refine gw_pure rfl rfl (laneV ((at0 Z k1) ^^^ (at0 Z (k1 + 5)))) (fun w19 hCw19 => pureAt_of (ex_xorL rfl rfl)) ?_
  simp only [pS, pN, pA, pC, pZ]
  refine gw_pure rfl rfl (.pointer (some ⟨rb, 0, none⟩)) (fun w19 hCw19 => pureAt_of (ex_move _)) ?_
  simp only [pS, pN, pA, pC, pZ]
  refine gw_pure rfl rfl (.int .i64 ((k1 : Nat) : Int)) (fun w19 hCw19 => pureAt_of (ex_move _)) ?_
  simp only [pS, pN, pA, pC, pZ]
  refine gw_pure rfl rfl (.int .i64 (((k1 + 10) : Nat) : Int)) (fun w19 hCw19 => pureAt_of (ex_add (m := ((k1 : Nat) : Int)) (n := (10 : Int)) (r := (((k1 + 10) : Nat) : Int)) rfl rfl (by omega) (by omega) (by omega))) ?_
  simp only [pS, pN, pA, pC, pZ]
  refine gw_pure rfl rfl (.pointer (some ⟨rb, 0, none⟩)) (fun w19 hCw19 => pureAt_of (ex_nil rfl)) ?_
  simp only [pS, pN, pA, pC, pZ]
  refine gw_pure rfl rfl (.pointer (some ⟨rb, (k1 + 10), none⟩)) (fun w19 hCw19 => pureAt_of (ex_atA (i := (k1 + 10)) Tryd.underlying147 (sizeof_145 _) rfl rfl (by omega))) ?_
  simp only [pS, pN, pA, pC, pZ]
  refine gw_pure rfl rfl (laneV (at0 Z (k1 + 10))) (fun w19 hCw19 => pureAt_of (ex_load rfl (load1 (nagg_145 _) (St.cell (St.tells S12 hCw19) (i := 1) rfl (lanes_at (Nat.lt_of_lt_of_eq (show (k1 + 10) < 25 by omega) hl.symm)))))) ?_
  simp only [pS, pN, pA, pC, pZ]
  refine gw_pure rfl rfl (laneV (((at0 Z k1) ^^^ (at0 Z (k1 + 5))) ^^^ (at0 Z (k1 + 10)))) (fun w19 hCw19 => pureAt_of (ex_xorL rfl rfl)) ?_
  simp only [pS, pN, pA, pC, pZ]
  refine gw_pure rfl rfl (.pointer (some ⟨rb, 0, none⟩)) (fun w19 hCw19 => pureAt_of (ex_move _)) ?_
  simp only [pS, pN, pA, pC, pZ]
  refine gw_pure rfl rfl (.int .i64 ((k1 : Nat) : Int)) (fun w19 hCw19 => pureAt_of (ex_move _)) ?_
  simp only [pS, pN, pA, pC, pZ]
  refine gw_pure rfl rfl (.int .i64 (((k1 + 15) : Nat) : Int)) (fun w19 hCw19 => pureAt_of (ex_add (m := ((k1 : Nat) : Int)) (n := (15 : Int)) (r := (((k1 + 15) : Nat) : Int)) rfl rfl (by omega) (by omega) (by omega))) ?_
  simp only [pS, pN, pA, pC, pZ]
  refine gw_pure rfl rfl (.pointer (some ⟨rb, 0, none⟩)) (fun w19 hCw19 => pureAt_of (ex_nil rfl)) ?_
  simp only [pS, pN, pA, pC, pZ]
  refine gw_pure rfl rfl (.pointer (some ⟨rb, (k1 + 15), none⟩)) (fun w19 hCw19 => pureAt_of (ex_atA (i := (k1 + 15)) Tryd.underlying147 (sizeof_145 _) rfl rfl (by omega))) ?_
  simp only [pS, pN, pA, pC, pZ]
  refine gw_pure rfl rfl (laneV (at0 Z (k1 + 15))) (fun w19 hCw19 => pureAt_of (ex_load rfl (load1 (nagg_145 _) (St.cell (St.tells S12 hCw19) (i := 1) rfl (lanes_at (Nat.lt_of_lt_of_eq (show (k1 + 15) < 25 by omega) hl.symm)))))) ?_
  simp only [pS, pN, pA, pC, pZ]
  refine gw_pure rfl rfl (laneV ((((at0 Z k1) ^^^ (at0 Z (k1 + 5))) ^^^ (at0 Z (k1 + 10))) ^^^ (at0 Z (k1 + 15)))) (fun w19 hCw19 => pureAt_of (ex_xorL rfl rfl)) ?_
  simp only [pS, pN, pA, pC, pZ]
  refine gw_pure rfl rfl (.pointer (some ⟨rb, 0, none⟩)) (fun w19 hCw19 => pureAt_of (ex_move _)) ?_
  simp only [pS, pN, pA, pC, pZ]
  refine gw_pure rfl rfl (.int .i64 ((k1 : Nat) : Int)) (fun w19 hCw19 => pureAt_of (ex_move _)) ?_
  simp only [pS, pN, pA, pC, pZ]
  refine gw_pure rfl rfl (.int .i64 (((k1 + 20) : Nat) : Int)) (fun w19 hCw19 => pureAt_of (ex_add (m := ((k1 : Nat) : Int)) (n := (20 : Int)) (r := (((k1 + 20) : Nat) : Int)) rfl rfl (by omega) (by omega) (by omega))) ?_
  simp only [pS, pN, pA, pC, pZ]
  refine gw_pure rfl rfl (.pointer (some ⟨rb, 0, none⟩)) (fun w19 hCw19 => pureAt_of (ex_nil rfl)) ?_
  simp only [pS, pN, pA, pC, pZ]
  refine gw_pure rfl rfl (.pointer (some ⟨rb, (k1 + 20), none⟩)) (fun w19 hCw19 => pureAt_of (ex_atA (i := (k1 + 20)) Tryd.underlying147 (sizeof_145 _) rfl rfl (by omega))) ?_
  simp only [pS, pN, pA, pC, pZ]
  refine gw_pure rfl rfl (laneV (at0 Z (k1 + 20))) (fun w19 hCw19 => pureAt_of (ex_load rfl (load1 (nagg_145 _) (St.cell (St.tells S12 hCw19) (i := 1) rfl (lanes_at (Nat.lt_of_lt_of_eq (show (k1 + 20) < 25 by omega) hl.symm)))))) ?_
  simp only [pS, pN, pA, pC, pZ]
  refine gw_pure rfl rfl (laneV (((((at0 Z k1) ^^^ (at0 Z (k1 + 5))) ^^^ (at0 Z (k1 + 10))) ^^^ (at0 Z (k1 + 15))) ^^^ (at0 Z (k1 + 20)))) (fun w19 hCw19 => pureAt_of (ex_xorL rfl rfl)) ?_
  simp only [pS, pN, pA, pC, pZ]
  refine gw_nil ?_
  intro w20 hC22 hF23
  clear hF23
  have S21 := St.tells S12 hC22
  simp only [List.drop_succ_cons, List.drop_zero]
  refine do_ rfl (.pointer (some ⟨n2, k1, none⟩)) (ex_atA (i := k1) Tryd.underlying162 (sizeof_145 _) rfl rfl (by omega)) ?_
  simp only [pS, pN, pA, pC, pZ]
  refine stStore (i := 0) (v := laneV (((((at0 Z k1) ^^^ (at0 Z (k1 + 5))) ^^^ (at0 Z (k1 + 10))) ^^^ (at0 Z (k1 + 15))) ^^^ (at0 Z (k1 + 20)))) S21 rfl rfl rfl rfl (size_145) (allc1 rfl) (by rw [List.length_map, (cL_len _ _)]; show k1 + 1 ≤ 5; omega) (fun w24 S25 => ?_)
  simp only [pS, pN, pA, pC, pZ]
  have S25 : St w0 F0 w24 F (⟨n2, (splice ((cL Z k1).map laneV) k1 [laneV (((((at0 Z k1) ^^^ (at0 Z (k1 + 5))) ^^^ (at0 Z (k1 + 10))) ^^^ (at0 Z (k1 + 15))) ^^^ (at0 Z (k1 + 20)))]), 162⟩ :: ⟨rb, (Z.map laneV), 147⟩ :: L0) (M0) := S25
  rw [lanes_set (Nat.lt_of_lt_of_eq (show k1 < 5 by omega) (cL_len _ _).symm)] at S25
  have S25 : St w0 F0 w24 F (⟨n2, (((cL Z k1).set k1 (colL Z k1)).map laneV), 162⟩ :: ⟨rb, (Z.map laneV), 147⟩ :: L0) (M0) := S25
  rw [cL_step Z (by omega)] at S25
  refine wl_nil (hK17 _ _ ?_)
  refine region_wl ?_
  refine do_ rfl (.int .i64 (((k1 + 1) : Nat) : Int)) (ex_add (m := ((k1 : Nat) : Int)) (n := (1 : Int)) (r := (((k1 + 1) : Nat) : Int)) rfl rfl (by omega) (by omega) (by omega)) ?_
  simp only [pS, pN, pA, pC, pZ]
  refine do_ rfl (.int .i64 (((k1 + 1) : Nat) : Int)) (ex_move _) ?_
  simp only [pS, pN, pA, pC, pZ]
  refine wl_nil ?_
  exact hK14 _ _ _ (by omega) ⟨(k1 + 1), _, rfl, rfl, rfl, S25, (by omega)⟩
 ·refine do_ rfl (.bool false) (ex_lss (m := ((k1 : Nat) : Int)) (n := (5 : Int)) (b := false) rfl rfl (decide_eq_false (by omega))) ?_
  simp only [pS, pN, pA, pC, pZ]
  refine wl_nil (hK15 _ _ ?_)
  refine wp_seq_k (fun K26 hK26 => ?_)
  refine wp_cond_false rfl ?_
  refine wp_exit ?_
  refine hK5 _ _ ?_
  refine wp_seq_k (fun K27 hK27 => ?_)
  refine wp_seq_k (fun K28 hK28 => ?_)
  obtain rfl : k1 = 5 := by omega
  refine region_wl ?_
  refine do_ rfl (.int .i64 0) (ex_move _) ?_
  simp only [pS, pN, pA, pC, pZ]
  refine wl_nil (hK28 _ _ ?_)
  refine wp_block ?_
  have S12 : St w0 F0 w11 F (⟨n2, ((cL Z 5).map laneV), 162⟩ :: ⟨rb, ((thL Z (cL Z 5) 0).map laneV), 147⟩ :: L0) (M0) := by rw [thL_zero hl]; exact S12
  refine wp_loop_g (fun mm aa w30 => ∃ (k2 : Nat) (u29 : Nat → Value), mm = 25 - k2 ∧ u29 = slots aa ∧ aa = ⟨#[(.pointer (some ⟨rb, 0, none⟩)), (.int .i64 ((r : Nat) : Int)), undef, undef, (.pointer (some ⟨n2, 0, none⟩)), (u7 5), (u29 6), (u29 7), undef, undef, undef, undef, undef, undef, (.int .i64 5), (.bool false), (u7 16), (u7 17), (u7 18), (u7 19), (u7 20), (u7 21), (u7 22), (u7 23), (u7 24), (u7 25), (u7 26), (u7 27), (u7 28), (u7 29), (u7 30), (u7 31), (u7 32), (u7 33), (u7 34), (u7 35), (u7 36), (u7 37), (u7 38), (u7 39), (u7 40), (u7 41), (u7 42), (u7 43), (u7 44), (u7 45), (u7 46), (u7 47), (u7 48), (u7 49), (u7 50), (u7 51), (u7 52), (.int .i64 ((k2 : Nat) : Int)), (u29 54), (u29 55), (u29 56), (u29 57), (u29 58), (u29 59), (u29 60), (u29 61), (u29 62), (u29 63), (u29 64), (u29 65), (u29 66), (u29 67), (u29 68), (u29 69), (u29 70), (u29 71), (u29 72), (u29 73), (u29 74), (u29 75), (u29 76), (u29 77), (u29 78), undef, undef, undef, undef, undef, undef, undef, undef, undef, undef, undef, undef, undef, undef, undef, undef, undef, undef, undef, undef, undef, undef, undef, undef, undef, undef, undef, undef, undef, undef, undef, undef, undef, undef, undef, undef, undef, undef, undef, undef, undef, undef, undef, undef, undef, undef, undef, undef, undef, undef, undef, undef, undef, undef, undef, undef, undef, undef, undef, undef, undef, undef, undef, undef, undef, undef, undef, undef, undef, undef, undef, undef], []⟩ ∧ St w0 F0 w30 F (⟨n2, ((cL Z 5).map laneV), 162⟩ :: ⟨rb, ((thL Z (cL Z 5) k2).map laneV), 147⟩ :: L0) (M0) ∧ (k2 ≤ 25)) _ ⟨0, _, rfl, rfl, rfl, S12, (by omega)⟩ ?_
  rintro m31 a32 w33 ⟨k2, u29, rfl, -, rfl, S34, hk2⟩ K36 hK36
  refine wp_seq_k (fun K37 hK37 => region_wl ?_)
  by_cases hc54 : k2 < 25
  ·refine do_ rfl (.bool true) (ex_lss (m := ((k2 : Nat) : Int)) (n := (25 : Int)) (b := true) rfl rfl (decide_eq_true (by omega))) ?_
   simp only [pS, pN, pA, pC, pZ]
   refine wl_nil (hK37 _ _ ?_)
   refine wp_seq_k (fun K38 hK38 => ?_)
   refine wp_cond_true rfl ?_
   refine wp_skip ?_
   refine hK38 _ _ ?_
   refine wp_seq_k (fun K39 hK39 => ?_)
   refine wp_block ?_
   refine wp_seq_k (fun K40 hK40 => region_wl ?_)
   refine do_ rfl (.int .i64 ((k2 : Nat) : Int)) (ex_move _) ?_
   simp only [pS, pN, pA, pC, pZ]
   refine do_ rfl (.int .i64 ((k2 : Nat) : Int)) (ex_assign _) ?_
   simp only [pS, pN, pA, pC, pZ]
   refine wl_nil (hK40 _ _ ?_)
   refine wp_seq_k (fun K41 hK41 => region_wl ?_)
   refine do_ rfl (.int .i64 ((k2 : Nat) : Int)) (ex_move _) ?_
   simp only [pS, pN, pA, pC, pZ]
   refine do_ rfl (.int .i64 (((k2 % 5) : Nat) : Int)) (ex_remA (m := k2) (n := 5) rfl rfl (by decide) (by omega)) ?_
   simp only [pS, pN, pA, pC, pZ]
   refine do_ rfl (.int .i64 (((k2 % 5) : Nat) : Int)) (ex_assign _) ?_
   simp only [pS, pN, pA, pC, pZ]
   refine wl_nil (hK41 _ _ ?_)
   refine region_gw F 19 [(15, .is (laneV (turnL (at0 (cL Z 5) (((k2 % 5) + 1) % 5)) 1)))] (by kernel_rfl) (by kernel_rfl) ?_
   simp only [List.take_succ_cons, List.take_zero]
   refine gw_pure rfl rfl (.pointer (some ⟨rb, 0, none⟩)) (fun w42 hCw42 => pureAt_of (ex_move _)) ?_
   simp only [pS, pN, pA, pC, pZ]
   refine gw_pure rfl rfl (.int .i64 ((k2 : Nat) : Int)) (fun w42 hCw42 => pureAt_of (ex_move _)) ?_
   simp only [pS, pN, pA, pC, pZ]
   refine gw_pure rfl rfl (.pointer (some ⟨rb, 0, none⟩)) (fun w42 hCw42 => pureAt_of (ex_nil rfl)) ?_
   simp only [pS, pN, pA, pC, pZ]
   refine gw_pure rfl rfl (.pointer (some ⟨rb, k2, none⟩)) (fun w42 hCw42 => pureAt_of (ex_atA (i := k2) Tryd.underlying147 (sizeof_145 _) rfl rfl (by omega))) ?_
   simp only [pS, pN, pA, pC, pZ]
   refine gw_pure rfl rfl (laneV (at0 (thL Z (cL Z 5) k2) k2)) (fun w42 hCw42 => pureAt_of (ex_load rfl (load1 (nagg_145 _) (St.cell (St.tells S34 hCw42) (i := 1) rfl (lanes_at (Nat.lt_of_lt_of_eq (show k2 < 25 by omega) (thL_len _ _ _).symm)))))) ?_
   simp only [pS, pN, pA, pC, pZ]
   refine gw_pure rfl rfl (.int .i64 (((k2 % 5) : Nat) : Int)) (fun w42 hCw42 => pureAt_of (ex_move _)) ?_
   simp only [pS, pN, pA, pC, pZ]
   refine gw_pure rfl rfl (.int .i64 ((((k2 % 5) + 4) : Nat) : Int)) (fun w42 hCw42 => pureAt_of (ex_add (m := (((k2 % 5) : Nat) : Int)) (n := (4 : Int)) (r := ((((k2 % 5) + 4) : Nat) : Int)) rfl rfl (by omega) (by omega) (by omega))) ?_
   simp only [pS, pN, pA, pC, pZ]
   refine gw_pure rfl rfl (.int .i64 (((((k2 % 5) + 4) % 5) : Nat) : Int)) (fun w42 hCw42 => pureAt_of (ex_remA (m := ((k2 % 5) + 4)) (n := 5) rfl rfl (by decide) (by omega))) ?_
   simp only [pS, pN, pA, pC, pZ]
   refine gw_pure rfl rfl (.pointer (some ⟨n2, (((k2 % 5) + 4) % 5), none⟩)) (fun w42 hCw42 => pureAt_of (ex_atA (i := (((k2 % 5) + 4) % 5)) Tryd.underlying162 (sizeof_145 _) rfl rfl (by omega))) ?_
   simp only [pS, pN, pA, pC, pZ]
   refine gw_pure rfl rfl (laneV (at0 (cL Z 5) (((k2 % 5) + 4) % 5))) (fun w42 hCw42 => pureAt_of (ex_load rfl (load1 (nagg_145 _) (St.cell (St.tells S34 hCw42) (i := 0) rfl (lanes_at (Nat.lt_of_lt_of_eq (show (((k2 % 5) + 4) % 5) < 5 by omega) (cL_len _ _).symm)))))) ?_
   simp only [pS, pN, pA, pC, pZ]
   refine gw_pure rfl rfl (.int .i64 (((k2 % 5) : Nat) : Int)) (fun w42 hCw42 => pureAt_of (ex_move _)) ?_
   simp only [pS, pN, pA, pC, pZ]
   refine gw_pure rfl rfl (.int .i64 ((((k2 % 5) + 1) : Nat) : Int)) (fun w42 hCw42 => pureAt_of (ex_add (m := (((k2 % 5) : Nat) : Int)) (n := (1 : Int)) (r := ((((k2 % 5) + 1) : Nat) : Int)) rfl rfl (by omega) (by omega) (by omega))) ?_
   simp only [pS, pN, pA, pC, pZ]
   refine gw_pure rfl rfl (.int .i64 (((((k2 % 5) + 1) % 5) : Nat) : Int)) (fun w42 hCw42 => pureAt_of (ex_remA (m := ((k2 % 5) + 1)) (n := 5) rfl rfl (by decide) (by omega))) ?_
   simp only [pS, pN, pA, pC, pZ]
   refine gw_pure rfl rfl (.pointer (some ⟨n2, (((k2 % 5) + 1) % 5), none⟩)) (fun w42 hCw42 => pureAt_of (ex_atA (i := (((k2 % 5) + 1) % 5)) Tryd.underlying162 (sizeof_145 _) rfl rfl (by omega))) ?_
   simp only [pS, pN, pA, pC, pZ]
   refine gw_pure rfl rfl (laneV (at0 (cL Z 5) (((k2 % 5) + 1) % 5))) (fun w42 hCw42 => pureAt_of (ex_load rfl (load1 (nagg_145 _) (St.cell (St.tells S34 hCw42) (i := 0) rfl (lanes_at (Nat.lt_of_lt_of_eq (show (((k2 % 5) + 1) % 5) < 5 by omega) (cL_len _ _).symm)))))) ?_
   simp only [pS, pN, pA, pC, pZ]
   refine gw_const rfl rfl (v := (laneV (turnL (at0 (cL Z 5) (((k2 % 5) + 1) % 5)) 1))) (fun w42 hCw42 _ => does_call (ex_fn (vs := #[(laneV (at0 (cL Z 5) (((k2 % 5) + 1) % 5))), (.int .i64 1)]) (map2 rfl rfl) rfl (ent_106 _ _)) (call_tells (turn_spec _ (at0 (cL Z 5) (((k2 % 5) + 1) % 5)) 1 (by decide) (by decide)))) ?_
   simp only [pS, pN, pA, pC, pZ]
   refine gw_pure rfl rfl (laneV ((at0 (cL Z 5) (((k2 % 5) + 4) % 5)) ^^^ (turnL (at0 (cL Z 5) (((k2 % 5) + 1) % 5)) 1))) (fun w42 hCw42 => pureAt_of (ex_xorL rfl rfl)) ?_
   simp only [pS, pN, pA, pC, pZ]
   refine gw_pure rfl rfl (laneV ((at0 (thL Z (cL Z 5) k2) k2) ^^^ ((at0 (cL Z 5) (((k2 % 5) + 4) % 5)) ^^^ (turnL (at0 (cL Z 5) (((k2 % 5) + 1) % 5)) 1)))) (fun w42 hCw42 => pureAt_of (ex_xorL rfl rfl)) ?_
   simp only [pS, pN, pA, pC, pZ]
   refine gw_pure rfl rfl (.pointer (some ⟨rb, 0, none⟩)) (fun w42 hCw42 => pureAt_of (ex_nil rfl)) ?_
   simp only [pS, pN, pA, pC, pZ]
   refine gw_nil ?_
   intro w43 hC45 hF46
   clear hF46
   have S44 := St.tells S34 hC45
   simp only [List.drop_succ_cons, List.drop_zero]
   refine do_ rfl (.pointer (some ⟨rb, k2, none⟩)) (ex_atA (i := k2) Tryd.underlying147 (sizeof_145 _) rfl rfl (by omega)) ?_
   simp only [pS, pN, pA, pC, pZ]
   refine stStore (i := 1) (v := laneV ((at0 (thL Z (cL Z 5) k2) k2) ^^^ ((at0 (cL Z 5) (((k2 % 5) + 4) % 5)) ^^^ (turnL (at0 (cL Z 5) (((k2 % 5) + 1) % 5)) 1)))) S44 rfl rfl rfl rfl (size_145) (allc1 rfl) (by rw [List.length_map, (thL_len _ _ _)]; show k2 + 1 ≤ 25; omega) (fun w47 S48 => ?_)
   simp only [pS, pN, pA, pC, pZ]
   have S48 : St w0 F0 w47 F (⟨n2, ((cL Z 5).map laneV), 162⟩ :: ⟨rb, (splice ((thL Z (cL Z 5) k2).map laneV) k2 [laneV ((at0 (thL Z (cL Z 5) k2) k2) ^^^ ((at0 (cL Z 5) (((k2 % 5) + 4) % 5)) ^^^ (turnL (at0 (cL Z 5) (((k2 % 5) + 1) % 5)) 1)))]), 147⟩ :: L0) (M0) := S48
   rw [lanes_set (Nat.lt_of_lt_of_eq (show k2 < 25 by omega) (thL_len _ _ _).symm)] at S48
   rw [thL_at (S := Z) (C := (cL Z 5)) (i := k2) (by omega)] at S48
   have S48 : St w0 F0 w47 F (⟨n2, ((cL Z 5).map laneV), 162⟩ :: ⟨rb, (((thL Z (cL Z 5) k2).set k2 (thAt Z (cL Z 5) k2)).map laneV), 147⟩ :: L0) (M0) := S48
   rw [thL_step Z _ (by omega)] at S48
   refine wl_nil (hK39 _ _ ?_)
   refine region_wl ?_
   refine do_ rfl (.int .i64 (((k2 + 1) : Nat) : Int)) (ex_add (m := ((k2 : Nat) : Int)) (n := (1 : Int)) (r := (((k2 + 1) : Nat) : Int)) rfl rfl (by omega) (by omega) (by omega)) ?_
   simp only [pS, pN, pA, pC, pZ]
   refine do_ rfl (.int .i64 (((k2 + 1) : Nat) : Int)) (ex_move _) ?_
   simp only [pS, pN, pA, pC, pZ]
   refine wl_nil ?_
   exact hK36 _ _ _ (by omega) ⟨(k2 + 1), _, rfl, rfl, rfl, S48, (by omega)⟩
  ·refine do_ rfl (.bool false) (ex_lss (m := ((k2 : Nat) : Int)) (n := (25 : Int)) (b := false) rfl rfl (decide_eq_false (by omega))) ?_
   simp only [pS, pN, pA, pC, pZ]
   refine wl_nil (hK37 _ _ ?_)
   refine wp_seq_k (fun K49 hK49 => ?_)
   refine wp_cond_false rfl ?_
   refine wp_exit ?_
   refine hK27 _ _ ?_
   refine wp_seq_k (fun K50 hK50 => ?_)
   obtain rfl : k2 = 25 := by omega
   obtain ⟨A, hA⟩ : ∃ A, A = thL Z (cL Z 5) 25 := ⟨_, rfl⟩
   have hAl : A.length = 25 := by rw [hA]; exact thL_len _ _ _
   rw [← hA] at S34
   refine region_wl ?_
   refine do_ rfl (.pointer (some ⟨rb, 0, none⟩)) (ex_move _) ?_
   simp only [pS, pN, pA, pC, pZ]
   refine do_ rfl (.pointer (some ⟨rb, 0, none⟩)) (ex_nil rfl) ?_
   simp only [pS, pN, pA, pC, pZ]
   refine do_ rfl (.pointer (some ⟨rb, 1, none⟩)) (ex_atA (i := 1) Tryd.underlying147 (sizeof_145 _) rfl rfl (by omega)) ?_
   simp only [pS, pN, pA, pC, pZ]
   refine do_ rfl (laneV (at0 A 1)) (ex_load rfl (load1 (nagg_145 _) (St.cell S34 (i := 1) rfl (lanes_at (Nat.lt_of_lt_of_eq (show 1 < 25 by omega) hAl.symm))))) ?_
   simp only [pS, pN, pA, pC, pZ]
   refine do_ rfl (laneV (at0 A 1)) (ex_assign _) ?_
   simp only [pS, pN, pA, pC, pZ]
   refine wl_nil (hK50 _ _ ?_)
   refine wp_seq_k (fun K51 hK51 => ?_)
   refine wp_seq_k (fun K52 hK52 => region_wl ?_)
   refine do_ rfl (.agg goesV) (ex_load rfl (goes_load (hT.at S34.gr.below))) ?_
   simp only [pS, pN, pA, pC, pZ]
   refine do_ rfl (.int .i64 0) (ex_move _) ?_
   simp only [pS, pN, pA, pC, pZ]
   refine wl_nil (hK52 _ _ ?_)
   refine wp_block ?_
   have S34 : St w0 F0 w33 F (⟨n2, ((cL Z 5).map laneV), 162⟩ :: ⟨rb, ((rhoL A 0).1.map laneV), 147⟩ :: L0) (M0) := S34
   refine wp_loop_g (fun mm aa w54 => ∃ (k3 : Nat) (u53 : Nat → Value), mm = 24 - k3 ∧ u53 = slots aa ∧ aa = ⟨#[(.pointer (some ⟨rb, 0, none⟩)), (.int .i64 ((r : Nat) : Int)), undef, undef, (.pointer (some ⟨n2, 0, none⟩)), (u7 5), (u29 6), (u29 7), (laneV (rhoL A k3).2), (u53 9), (u53 10), undef, undef, undef, (.int .i64 5), (.bool false), (u7 16), (u7 17), (u7 18), (u7 19), (u7 20), (u7 21), (u7 22), (u7 23), (u7 24), (u7 25), (u7 26), (u7 27), (u7 28), (u7 29), (u7 30), (u7 31), (u7 32), (u7 33), (u7 34), (u7 35), (u7 36), (u7 37), (u7 38), (u7 39), (u7 40), (u7 41), (u7 42), (u7 43), (u7 44), (u7 45), (u7 46), (u7 47), (u7 48), (u7 49), (u7 50), (u7 51), (u7 52), (.int .i64 25), (.bool false), (u29 55), (u29 56), (u29 57), (u29 58), (u29 59), (u29 60), (u29 61), (u29 62), (u29 63), (u29 64), (u29 65), (u29 66), (u29 67), (u29 68), (u29 69), (u29 70), (u29 71), (u29 72), (u29 73), (u29 74), (u29 75), (u29 76), (u29 77), (u29 78), (.pointer (some ⟨rb, 0, none⟩)), (.pointer (some ⟨rb, 0, none⟩)), (.pointer (some ⟨rb, 1, none⟩)), (laneV (at0 A 1)), (.agg goesV), (.int .i64 ((k3 : Nat) : Int)), (u53 85), (u53 86), (u53 87), (u53 88), (u53 89), (u53 90), (u53 91), (u53 92), (u53 93), (u53 94), (u53 95), (u53 96), (u53 97), (u53 98), (u53 99), (u53 100), (u53 101), (u53 102), undef, undef, undef, undef, undef, undef, undef, undef, undef, undef, undef, undef, undef, undef, undef, undef, undef, undef, undef, undef, undef, undef, undef, undef, undef, undef, undef, undef, undef, undef, undef, undef, undef, undef, undef, undef, undef, undef, undef, undef, undef, undef, undef, undef, undef, undef, undef, undef], []⟩ ∧ St w0 F0 w54 F (⟨n2, ((cL Z 5).map laneV), 162⟩ :: ⟨rb, ((rhoL A k3).1.map laneV), 147⟩ :: L0) (M0) ∧ (k3 ≤ 24)) _ ⟨0, _, rfl, rfl, rfl, S34, (by omega)⟩ ?_
   rintro m55 a56 w57 ⟨k3, u53, rfl, -, rfl, S58, hk3⟩ K60 hK60
   refine wp_seq_k (fun K61 hK61 => region_wl ?_)
   by_cases hc85 : k3 < 24
   ·refine do_ rfl (.bool true) (ex_lss (m := ((k3 : Nat) : Int)) (n := (24 : Int)) (b := true) rfl rfl (decide_eq_true (by omega))) ?_
    simp only [pS, pN, pA, pC, pZ]
    refine wl_nil (hK61 _ _ ?_)
    refine wp_seq_k (fun K62 hK62 => ?_)
    refine wp_cond_true rfl ?_
    refine wp_skip ?_
    refine hK62 _ _ ?_
    refine wp_seq_k (fun K63 hK63 => ?_)
    refine wp_block ?_
    refine wp_seq_k (fun K64 hK64 => ?_)
    have hgo := goesN_bd k3 (by omega)
    refine region_wl ?_
    refine do_ rfl (.int .i64 ((k3 : Nat) : Int)) (ex_move _) ?_
    simp only [pS, pN, pA, pC, pZ]
    refine do_ rfl (.int .i64 (((goesN k3) : Nat) : Int)) (ex_ixA (i := k3) Tryd.underlying164 (sizeof_3 _) rfl rfl (by omega) (nagg_3 _) (goes_at (by omega))) ?_
    simp only [pS, pN, pA, pC, pZ]
    refine do_ rfl (.int .i64 ((k3 : Nat) : Int)) (ex_assign _) ?_
    simp only [pS, pN, pA, pC, pZ]
    refine do_ rfl (.int .i64 (((goesN k3) : Nat) : Int)) (ex_assign _) ?_
    simp only [pS, pN, pA, pC, pZ]
    refine wl_nil (hK64 _ _ ?_)
    refine region_gw F 13 [(6, .is (laneV (turnL ((rhoL A k3).2) (turnsN k3))))] (by kernel_rfl) (by kernel_rfl) ?_
    simp only [List.take_succ_cons, List.take_zero]
    refine gw_pure rfl rfl (.pointer (some ⟨rb, 0, none⟩)) (fun w65 hCw65 => pureAt_of (ex_move _)) ?_
    simp only [pS, pN, pA, pC, pZ]
    refine gw_pure rfl rfl (.int .i64 (((goesN k3) : Nat) : Int)) (fun w65 hCw65 => pureAt_of (ex_move _)) ?_
    simp only [pS, pN, pA, pC, pZ]
    refine gw_pure rfl rfl (laneV (rhoL A k3).2) (fun w65 hCw65 => pureAt_of (ex_move _)) ?_
    simp only [pS, pN, pA, pC, pZ]
    refine gw_pure rfl rfl (.int .i64 ((k3 : Nat) : Int)) (fun w65 hCw65 => pureAt_of (ex_move _)) ?_
    simp only [pS, pN, pA, pC, pZ]
    refine gw_pure rfl rfl (.pointer (some ⟨2, k3, none⟩)) (fun w65 hCw65 => pureAt_of (ex_atA (i := k3) Tryd.underlying164 (sizeof_3 _) rfl rfl (by omega))) ?_
    simp only [pS, pN, pA, pC, pZ]
    refine gw_pure rfl rfl (.int .i64 (((turnsN k3) : Nat) : Int)) (fun w65 hCw65 => pureAt_of (ex_load rfl (load1 (nagg_3 _) (((hT.at (St.tells S58 hCw65).gr.below).2.1 k3 (by omega)))))) ?_
    simp only [pS, pN, pA, pC, pZ]
    refine gw_const rfl rfl (v := (laneV (turnL ((rhoL A k3).2) (turnsN k3)))) (fun w65 hCw65 _ => does_call (ex_fn (vs := #[(laneV (rhoL A k3).2), (.int .i64 (((turnsN k3) : Nat) : Int))]) (map2 rfl rfl) rfl (ent_106 _ _)) (call_tells (turn_spec _ ((rhoL A k3).2) (turnsN k3) (turnsN_bd _ (by omega)).1 (turnsN_bd _ (by omega)).2))) ?_
    simp only [pS, pN, pA, pC, pZ]
    refine gw_pure rfl rfl (.pointer (some ⟨rb, 0, none⟩)) (fun w65 hCw65 => pureAt_of (ex_move _)) ?_
    simp only [pS, pN, pA, pC, pZ]
    refine gw_pure rfl rfl (.int .i64 (((goesN k3) : Nat) : Int)) (fun w65 hCw65 => pureAt_of (ex_move _)) ?_
    simp only [pS, pN, pA, pC, pZ]
    refine gw_pure rfl rfl (.pointer (some ⟨rb, 0, none⟩)) (fun w65 hCw65 => pureAt_of (ex_nil rfl)) ?_
    simp only [pS, pN, pA, pC, pZ]
    refine gw_pure rfl rfl (.pointer (some ⟨rb, (goesN k3), none⟩)) (fun w65 hCw65 => pureAt_of (ex_atA (i := (goesN k3)) Tryd.underlying147 (sizeof_145 _) rfl rfl (by omega))) ?_
    simp only [pS, pN, pA, pC, pZ]
    refine gw_pure rfl rfl (laneV (at0 ((rhoL A k3).1) (goesN k3))) (fun w65 hCw65 => pureAt_of (ex_load rfl (load1 (nagg_145 _) (St.cell (St.tells S58 hCw65) (i := 1) rfl (lanes_at (Nat.lt_of_lt_of_eq (show (goesN k3) < 25 by omega) (rhoL_len hAl _).symm)))))) ?_
    simp only [pS, pN, pA, pC, pZ]
    refine gw_pure rfl rfl (.pointer (some ⟨rb, 0, none⟩)) (fun w65 hCw65 => pureAt_of (ex_nil rfl)) ?_
    simp only [pS, pN, pA, pC, pZ]
    refine gw_nil ?_
    intro w66 hC68 hF69
    clear hF69
    have S67 := St.tells S58 hC68
    simp only [List.drop_succ_cons, List.drop_zero]
    refine do_ rfl (.pointer (some ⟨rb, (goesN k3), none⟩)) (ex_atA (i := (goesN k3)) Tryd.underlying147 (sizeof_145 _) rfl rfl (by omega)) ?_
    simp only [pS, pN, pA, pC, pZ]
    refine stStore (i := 1) (v := laneV (turnL ((rhoL A k3).2) (turnsN k3))) S67 rfl rfl rfl rfl (size_145) (allc1 rfl) (by rw [List.length_map, (rhoL_len hAl _)]; show (goesN k3) + 1 ≤ 25; omega) (fun w70 S71 => ?_)
    simp only [pS, pN, pA, pC, pZ]
    have S71 : St w0 F0 w70 F (⟨n2, ((cL Z 5).map laneV), 162⟩ :: ⟨rb, (splice (((rhoL A k3).1).map laneV) (goesN k3) [laneV (turnL ((rhoL A k3).2) (turnsN k3))]), 147⟩ :: L0) (M0) := S71
    rw [lanes_set (Nat.lt_of_lt_of_eq (show (goesN k3) < 25 by omega) (rhoL_len hAl _).symm)] at S71
    rw [rho_one] at S71
    refine do_ rfl (laneV (at0 ((rhoL A k3).1) (goesN k3))) (ex_assign _) ?_
    simp only [pS, pN, pA, pC, pZ]
    refine wl_nil (hK63 _ _ ?_)
    refine region_wl ?_
    refine do_ rfl (.int .i64 (((k3 + 1) : Nat) : Int)) (ex_add (m := ((k3 : Nat) : Int)) (n := (1 : Int)) (r := (((k3 + 1) : Nat) : Int)) rfl rfl (by omega) (by omega) (by omega)) ?_
    simp only [pS, pN, pA, pC, pZ]
    refine do_ rfl (.int .i64 (((k3 + 1) : Nat) : Int)) (ex_move _) ?_
    simp only [pS, pN, pA, pC, pZ]
    refine wl_nil ?_
    exact hK60 _ _ _ (by omega) ⟨(k3 + 1), _, rfl, rfl, rfl, S71, (by omega)⟩
   ·refine do_ rfl (.bool false) (ex_lss (m := ((k3 : Nat) : Int)) (n := (24 : Int)) (b := false) rfl rfl (decide_eq_false (by omega))) ?_
    simp only [pS, pN, pA, pC, pZ]
    refine wl_nil (hK61 _ _ ?_)
    refine wp_seq_k (fun K72 hK72 => ?_)
    refine wp_cond_false rfl ?_
    refine wp_exit ?_
    refine hK51 _ _ ?_
    refine wp_seq_k (fun K73 hK73 => ?_)
    refine wp_seq_k (fun K74 hK74 => ?_)
    obtain rfl : k3 = 24 := by omega
    obtain ⟨Q, hQ⟩ : ∃ Q, Q = (rhoL A 24).1 := ⟨_, rfl⟩
    have hQl : Q.length = 25 := by rw [hQ]; exact rhoL_len hAl _
    rw [← hQ] at S58
    refine region_wl ?_
    refine do_ rfl (.int .i64 0) (ex_assign _) ?_
    simp only [pS, pN, pA, pC, pZ]
    refine wl_nil (hK74 _ _ ?_)
    refine wp_block ?_
    have S58 : St w0 F0 w57 F (⟨n2, ((cL Z 5).map laneV), 162⟩ :: ⟨rb, ((chiK Q 0).map laneV), 147⟩ :: L0) (M0) := by rw [chiK_zero hQl]; exact S58
    refine wp_loop_g (fun mm aa w76 => ∃ (y : Nat) (u75 : Nat → Value), mm = 25 - y ∧ u75 = slots aa ∧ aa = ⟨#[(.pointer (some ⟨rb, 0, none⟩)), (.int .i64 ((r : Nat) : Int)), undef, undef, (.pointer (some ⟨n2, 0, none⟩)), (u7 5), (u29 6), (u29 7), (laneV (rhoL A 24).2), (u53 9), (u53 10), (.int .i64 ((y : Nat) : Int)), (u75 12), (u75 13), (.int .i64 5), (.bool false), (u7 16), (u7 17), (u7 18), (u7 19), (u7 20), (u7 21), (u7 22), (u7 23), (u7 24), (u7 25), (u7 26), (u7 27), (u7 28), (u7 29), (u7 30), (u7 31), (u7 32), (u7 33), (u7 34), (u7 35), (u7 36), (u7 37), (u7 38), (u7 39), (u7 40), (u7 41), (u7 42), (u7 43), (u7 44), (u7 45), (u7 46), (u7 47), (u7 48), (u7 49), (u7 50), (u7 51), (u7 52), (.int .i64 25), (.bool false), (u29 55), (u29 56), (u29 57), (u29 58), (u29 59), (u29 60), (u29 61), (u29 62), (u29 63), (u29 64), (u29 65), (u29 66), (u29 67), (u29 68), (u29 69), (u29 70), (u29 71), (u29 72), (u29 73), (u29 74), (u29 75), (u29 76), (u29 77), (u29 78), (.pointer (some ⟨rb, 0, none⟩)), (.pointer (some ⟨rb, 0, none⟩)), (.pointer (some ⟨rb, 1, none⟩)), (laneV (at0 A 1)), (.agg goesV), (.int .i64 24), (.bool false), (u53 86), (u53 87), (u53 88), (u53 89), (u53 90), (u53 91), (u53 92), (u53 93), (u53 94), (u53 95), (u53 96), (u53 97), (u53 98), (u53 99), (u53 100), (u53 101), (u53 102), (u75 103), (u75 104), (u75 105), (u75 106), (u75 107), (u75 108), (u75 109), (u75 110), (u75 111), (u75 112), (u75 113), (u75 114), (u75 115), (u75 116), (u75 117), (u75 118), (u75 119), (u75 120), (u75 121), (u75 122), (u75 123), (u75 124), (u75 125), (u75 126), (u75 127), (u75 128), (u75 129), (u75 130), (u75 131), (u75 132), (u75 133), (u75 134), (u75 135), (u75 136), (u75 137), (u75 138), (u75 139), (u75 140), undef, undef, undef, undef, undef, undef, undef, undef, undef, undef], []⟩ ∧ St w0 F0 w76 F (⟨n2, ((cL Z 5).map laneV), 162⟩ :: ⟨rb, ((chiK Q y).map laneV), 147⟩ :: L0) (M0) ∧ (y % 5 = 0) ∧ (y ≤ 25)) _ ⟨0, _, rfl, rfl, rfl, S58, (by omega), (by omega)⟩ ?_
    rintro m77 a78 w79 ⟨y, u75, rfl, -, rfl, S80, hy5, hy25⟩ K82 hK82
    refine wp_seq_k (fun K83 hK83 => ?_)
    refine wp_seq_k (fun K84 hK84 => region_wl ?_)
    refine do_ rfl (.int .i64 ((y : Nat) : Int)) (ex_move _) ?_
    simp only [pS, pN, pA, pC, pZ]
    by_cases hc104 : y < 25
    ·refine do_ rfl (.bool true) (ex_lss (m := ((y : Nat) : Int)) (n := (25 : Int)) (b := true) rfl rfl (decide_eq_true (by omega))) ?_
     simp only [pS, pN, pA, pC, pZ]
     refine wl_nil (hK84 _ _ ?_)
     refine wp_cond_true rfl ?_
     refine wp_skip ?_
     refine hK83 _ _ ?_
     refine wp_seq_k (fun K85 hK85 => ?_)
     refine wp_block ?_
     refine wp_seq_k (fun K86 hK86 => region_wl ?_)
     refine do_ rfl (.pointer (some ⟨rb, 0, none⟩)) (ex_move _) ?_
     simp only [pS, pN, pA, pC, pZ]
     refine do_ rfl (.pointer (some ⟨rb, 0, none⟩)) (ex_nil rfl) ?_
     simp only [pS, pN, pA, pC, pZ]
     refine do_ rfl (.int .i64 ((y : Nat) : Int)) (ex_move _) ?_
     simp only [pS, pN, pA, pC, pZ]
     refine do_ rfl (.int .i64 ((y : Nat) : Int)) (ex_move _) ?_
     simp only [pS, pN, pA, pC, pZ]
     refine do_ rfl (.int .i64 (((y + 5) : Nat) : Int)) (ex_add (m := ((y : Nat) : Int)) (n := (5 : Int)) (r := (((y + 5) : Nat) : Int)) rfl rfl (by omega) (by omega) (by omega)) ?_
     simp only [pS, pN, pA, pC, pZ]
     refine do_ rfl (.slice (some ⟨rb, y, none⟩) ((y + 5) - y) (25 - y)) (ex_sliceA (l := y) (h := (y + 5)) Tryd.underlying147 rfl (sizeof_145 _) rfl rfl (by omega) (by omega) (by omega)) ?_
     simp only [pS, pN, pA, pC, pZ]
     refine do_ rfl (.pointer (some ⟨rb, y, none⟩)) (ex_s2a Tryd.underlying162 rfl (by omega)) ?_
     simp only [pS, pN, pA, pC, pZ]
     refine do_ rfl (.agg #[(laneV (at0 (chiK Q y) y)), (laneV (at0 (chiK Q y) (y + 1))), (laneV (at0 (chiK Q y) (y + 2))), (laneV (at0 (chiK Q y) (y + 3))), (laneV (at0 (chiK Q y) (y + 4)))]) (ex_load rfl (row_load (St.cellsAt S80 (i := 1) rfl) (show y + 5 ≤ (chiK Q y).length from by rw [(chiK_len _ _)]; omega))) ?_
     simp only [pS, pN, pA, pC, pZ]
     refine stNew S80 (v := fun n => .pointer (some ⟨n, 0, none⟩)) rfl (ex_alloc (zero_162 _)) (fun n87 w88 S89 => ?_)
     simp only [pS, pN, pA, pC, pZ]
     have S89 : St w0 F0 w88 F (⟨n87, [(laneV 0), (laneV 0), (laneV 0), (laneV 0), (laneV 0)], 162⟩ :: ⟨n2, ((cL Z 5).map laneV), 162⟩ :: ⟨rb, ((chiK Q y).map laneV), 147⟩ :: L0) (M0) := S89
     refine stStore (i := 0) (v := (.agg #[(laneV (at0 (chiK Q y) y)), (laneV (at0 (chiK Q y) (y + 1))), (laneV (at0 (chiK Q y) (y + 2))), (laneV (at0 (chiK Q y) (y + 3))), (laneV (at0 (chiK Q y) (y + 4)))])) S89 rfl rfl rfl rfl (size_162) (allc5 rfl rfl rfl rfl rfl) (Nat.le_of_ble_eq_true rfl) (fun w90 S91 => ?_)
     simp only [pS, pN, pA, pC, pZ]
     have S91 : St w0 F0 w90 F (⟨n87, [(laneV (at0 (chiK Q y) y)), (laneV (at0 (chiK Q y) (y + 1))), (laneV (at0 (chiK Q y) (y + 2))), (laneV (at0 (chiK Q y) (y + 3))), (laneV (at0 (chiK Q y) (y + 4)))], 162⟩ :: ⟨n2, ((cL Z 5).map laneV), 162⟩ :: ⟨rb, ((chiK Q y).map laneV), 147⟩ :: L0) (M0) := S91
     refine wl_nil (hK86 _ _ ?_)
     refine wp_seq_k (fun K92 hK92 => region_wl ?_)
     refine do_ rfl (.int .i64 0) (ex_move _) ?_
     simp only [pS, pN, pA, pC, pZ]
     refine wl_nil (hK92 _ _ ?_)
     refine wp_block ?_
     have S91 : St w0 F0 w90 F (⟨n87, ((rowL (chiK Q y) y).map laneV), 162⟩ :: ⟨n2, ((cL Z 5).map laneV), 162⟩ :: ⟨rb, ((chiK Q y).map laneV), 147⟩ :: L0) (M0) := S91
     rw [rowL_chi (by omega)] at S91
     have S91 : St w0 F0 w90 F (⟨n87, ((rowL Q y).map laneV), 162⟩ :: ⟨n2, ((cL Z 5).map laneV), 162⟩ :: ⟨rb, ((chiK Q (y + 0)).map laneV), 147⟩ :: L0) (M0) := S91
     refine wp_loop_g (fun mm aa w94 => ∃ (k5 : Nat) (u93 : Nat → Value), mm = 5 - k5 ∧ u93 = slots aa ∧ aa = ⟨#[(.pointer (some ⟨rb, 0, none⟩)), (.int .i64 ((r : Nat) : Int)), undef, undef, (.pointer (some ⟨n2, 0, none⟩)), (u7 5), (u29 6), (u29 7), (laneV (rhoL A 24).2), (u53 9), (u53 10), (.int .i64 ((y : Nat) : Int)), (.pointer (some ⟨n87, 0, none⟩)), (u93 13), (.int .i64 5), (.bool false), (u7 16), (u7 17), (u7 18), (u7 19), (u7 20), (u7 21), (u7 22), (u7 23), (u7 24), (u7 25), (u7 26), (u7 27), (u7 28), (u7 29), (u7 30), (u7 31), (u7 32), (u7 33), (u7 34), (u7 35), (u7 36), (u7 37), (u7 38), (u7 39), (u7 40), (u7 41), (u7 42), (u7 43), (u7 44), (u7 45), (u7 46), (u7 47), (u7 48), (u7 49), (u7 50), (u7 51), (u7 52), (.int .i64 25), (.bool false), (u29 55), (u29 56), (u29 57), (u29 58), (u29 59), (u29 60), (u29 61), (u29 62), (u29 63), (u29 64), (u29 65), (u29 66), (u29 67), (u29 68), (u29 69), (u29 70), (u29 71), (u29 72), (u29 73), (u29 74), (u29 75), (u29 76), (u29 77), (u29 78), (.pointer (some ⟨rb, 0, none⟩)), (.pointer (some ⟨rb, 0, none⟩)), (.pointer (some ⟨rb, 1, none⟩)), (laneV (at0 A 1)), (.agg goesV), (.int .i64 24), (.bool false), (u53 86), (u53 87), (u53 88), (u53 89), (u53 90), (u53 91), (u53 92), (u53 93), (u53 94), (u53 95), (u53 96), (u53 97), (u53 98), (u53 99), (u53 100), (u53 101), (u53 102), (.int .i64 ((y : Nat) : Int)), (.bool true), (u75 105), (u75 106), (.pointer (some ⟨rb, 0, none⟩)), (.pointer (some ⟨rb, 0, none⟩)), (.int .i64 ((y : Nat) : Int)), (.int .i64 ((y : Nat) : Int)), (.int .i64 (((y + 5) : Nat) : Int)), (.slice (some ⟨rb, y, none⟩) ((y + 5) - y) (25 - y)), (.pointer (some ⟨rb, y, none⟩)), (.agg #[(laneV (at0 (chiK Q y) y)), (laneV (at0 (chiK Q y) (y + 1))), (laneV (at0 (chiK Q y) (y + 2))), (laneV (at0 (chiK Q y) (y + 3))), (laneV (at0 (chiK Q y) (y + 4)))]), (.int .i64 ((k5 : Nat) : Int)), (u93 116), (u93 117), (u93 118), (u93 119), (u93 120), (u93 121), (u93 122), (u93 123), (u93 124), (u93 125), (u93 126), (u93 127), (u93 128), (u93 129), (u93 130), (u93 131), (u93 132), (u93 133), (u93 134), (u93 135), (u93 136), (u93 137), (u93 138), (u93 139), (u93 140), undef, undef, undef, undef, undef, undef, undef, undef, undef, undef], []⟩ ∧ St w0 F0 w94 F (⟨n87, ((rowL Q y).map laneV), 162⟩ :: ⟨n2, ((cL Z 5).map laneV), 162⟩ :: ⟨rb, ((chiK Q (y + k5)).map laneV), 147⟩ :: L0) (M0) ∧ (k5 ≤ 5)) _ ⟨0, _, rfl, rfl, rfl, S91, (by omega)⟩ ?_
     rintro m95 a96 w97 ⟨k5, u93, rfl, -, rfl, S98, hk5⟩ K100 hK100
     refine wp_seq_k (fun K101 hK101 => region_wl ?_)
     by_cases hc116 : k5 < 5
     ·refine do_ rfl (.bool true) (ex_lss (m := ((k5 : Nat) : Int)) (n := (5 : Int)) (b := true) rfl rfl (decide_eq_true (by omega))) ?_
      simp only [pS, pN, pA, pC, pZ]
      refine wl_nil (hK101 _ _ ?_)
      refine wp_seq_k (fun K102 hK102 => ?_)
      refine wp_cond_true rfl ?_
      refine wp_skip ?_
      refine hK102 _ _ ?_
      refine wp_seq_k (fun K103 hK103 => ?_)
      refine wp_block ?_
      refine wp_seq_k (fun K104 hK104 => region_wl ?_)
      refine do_ rfl (.int .i64 ((k5 : Nat) : Int)) (ex_move _) ?_
      simp only [pS, pN, pA, pC, pZ]
      refine do_ rfl (.int .i64 ((k5 : Nat) : Int)) (ex_assign _) ?_
      simp only [pS, pN, pA, pC, pZ]
      refine wl_nil (hK104 _ _ ?_)
      refine region_gw F 21 [] (by kernel_rfl) (by kernel_rfl) ?_
      simp only [List.take_succ_cons, List.take_zero]
      refine gw_pure rfl rfl (.pointer (some ⟨rb, 0, none⟩)) (fun w105 hCw105 => pureAt_of (ex_move _)) ?_
      simp only [pS, pN, pA, pC, pZ]
      refine gw_pure rfl rfl (.int .i64 ((y : Nat) : Int)) (fun w105 hCw105 => pureAt_of (ex_move _)) ?_
      simp only [pS, pN, pA, pC, pZ]
      refine gw_pure rfl rfl (.int .i64 ((k5 : Nat) : Int)) (fun w105 hCw105 => pureAt_of (ex_move _)) ?_
      simp only [pS, pN, pA, pC, pZ]
      refine gw_pure rfl rfl (.int .i64 (((y + k5) : Nat) : Int)) (fun w105 hCw105 => pureAt_of (ex_add (m := ((y : Nat) : Int)) (n := ((k5 : Nat) : Int)) (r := (((y + k5) : Nat) : Int)) rfl rfl (by omega) (by omega) (by omega))) ?_
      simp only [pS, pN, pA, pC, pZ]
      refine gw_pure rfl rfl (.int .i64 ((k5 : Nat) : Int)) (fun w105 hCw105 => pureAt_of (ex_move _)) ?_
      simp only [pS, pN, pA, pC, pZ]
      refine gw_pure rfl rfl (.pointer (some ⟨n87, k5, none⟩)) (fun w105 hCw105 => pureAt_of (ex_atA (i := k5) Tryd.underlying162 (sizeof_145 _) rfl rfl (by omega))) ?_
      simp only [pS, pN, pA, pC, pZ]
      refine gw_pure rfl rfl (laneV (at0 (rowL Q y) k5)) (fun w105 hCw105 => pureAt_of (ex_load rfl (load1 (nagg_145 _) (St.cell (St.tells S98 hCw105) (i := 0) rfl (lanes_at (Nat.lt_of_lt_of_eq (show k5 < 5 by omega) (rowL_len _ _).symm)))))) ?_
      simp only [pS, pN, pA, pC, pZ]
      refine gw_pure rfl rfl (.int .i64 ((k5 : Nat) : Int)) (fun w105 hCw105 => pureAt_of (ex_move _)) ?_
      simp only [pS, pN, pA, pC, pZ]
      refine gw_pure rfl rfl (.int .i64 (((k5 + 1) : Nat) : Int)) (fun w105 hCw105 => pureAt_of (ex_add (m := ((k5 : Nat) : Int)) (n := (1 : Int)) (r := (((k5 + 1) : Nat) : Int)) rfl rfl (by omega) (by omega) (by omega))) ?_
      simp only [pS, pN, pA, pC, pZ]
      refine gw_pure rfl rfl (.int .i64 ((((k5 + 1) % 5) : Nat) : Int)) (fun w105 hCw105 => pureAt_of (ex_remA (m := (k5 + 1)) (n := 5) rfl rfl (by decide) (by omega))) ?_
      simp only [pS, pN, pA, pC, pZ]
      refine gw_pure rfl rfl (.pointer (some ⟨n87, ((k5 + 1) % 5), none⟩)) (fun w105 hCw105 => pureAt_of (ex_atA (i := ((k5 + 1) % 5)) Tryd.underlying162 (sizeof_145 _) rfl rfl (by omega))) ?_
      simp only [pS, pN, pA, pC, pZ]
      refine gw_pure rfl rfl (laneV (at0 (rowL Q y) ((k5 + 1) % 5))) (fun w105 hCw105 => pureAt_of (ex_load rfl (load1 (nagg_145 _) (St.cell (St.tells S98 hCw105) (i := 0) rfl (lanes_at (Nat.lt_of_lt_of_eq (show ((k5 + 1) % 5) < 5 by omega) (rowL_len _ _).symm)))))) ?_
      simp only [pS, pN, pA, pC, pZ]
      refine gw_pure rfl rfl (laneV (~~~ (at0 (rowL Q y) ((k5 + 1) % 5)))) (fun w105 hCw105 => pureAt_of (ex_notL rfl)) ?_
      simp only [pS, pN, pA, pC, pZ]
      refine gw_pure rfl rfl (.int .i64 ((k5 : Nat) : Int)) (fun w105 hCw105 => pureAt_of (ex_move _)) ?_
      simp only [pS, pN, pA, pC, pZ]
      refine gw_pure rfl rfl (.int .i64 (((k5 + 2) : Nat) : Int)) (fun w105 hCw105 => pureAt_of (ex_add (m := ((k5 : Nat) : Int)) (n := (2 : Int)) (r := (((k5 + 2) : Nat) : Int)) rfl rfl (by omega) (by omega) (by omega))) ?_
      simp only [pS, pN, pA, pC, pZ]
      refine gw_pure rfl rfl (.int .i64 ((((k5 + 2) % 5) : Nat) : Int)) (fun w105 hCw105 => pureAt_of (ex_remA (m := (k5 + 2)) (n := 5) rfl rfl (by decide) (by omega))) ?_
      simp only [pS, pN, pA, pC, pZ]
      refine gw_pure rfl rfl (.pointer (some ⟨n87, ((k5 + 2) % 5), none⟩)) (fun w105 hCw105 => pureAt_of (ex_atA (i := ((k5 + 2) % 5)) Tryd.underlying162 (sizeof_145 _) rfl rfl (by omega))) ?_
      simp only [pS, pN, pA, pC, pZ]
      refine gw_pure rfl rfl (laneV (at0 (rowL Q y) ((k5 + 2) % 5))) (fun w105 hCw105 => pureAt_of (ex_load rfl (load1 (nagg_145 _) (St.cell (St.tells S98 hCw105) (i := 0) rfl (lanes_at (Nat.lt_of_lt_of_eq (show ((k5 + 2) % 5) < 5 by omega) (rowL_len _ _).symm)))))) ?_
      simp only [pS, pN, pA, pC, pZ]
      refine gw_pure rfl rfl (laneV ((~~~ (at0 (rowL Q y) ((k5 + 1) % 5))) &&& (at0 (rowL Q y) ((k5 + 2) % 5)))) (fun w105 hCw105 => pureAt_of (ex_andL rfl rfl)) ?_
      simp only [pS, pN, pA, pC, pZ]
      refine gw_pure rfl rfl (laneV ((at0 (rowL Q y) k5) ^^^ ((~~~ (at0 (rowL Q y) ((k5 + 1) % 5))) &&& (at0 (rowL Q y) ((k5 + 2) % 5))))) (fun w105 hCw105 => pureAt_of (ex_xorL rfl rfl)) ?_
      simp only [pS, pN, pA, pC, pZ]
      refine gw_pure rfl rfl (.pointer (some ⟨rb, 0, none⟩)) (fun w105 hCw105 => pureAt_of (ex_nil rfl)) ?_
      simp only [pS, pN, pA, pC, pZ]
      refine gw_nil ?_
      intro w106 hC108 hF109
      clear hF109
      have S107 := St.tells S98 hC108
      simp only [List.drop_succ_cons, List.drop_zero]
      refine do_ rfl (.pointer (some ⟨rb, (y + k5), none⟩)) (ex_atA (i := (y + k5)) Tryd.underlying147 (sizeof_145 _) rfl rfl (by omega)) ?_
      simp only [pS, pN, pA, pC, pZ]
      refine stStore (i := 2) (v := laneV ((at0 (rowL Q y) k5) ^^^ ((~~~ (at0 (rowL Q y) ((k5 + 1) % 5))) &&& (at0 (rowL Q y) ((k5 + 2) % 5))))) S107 rfl rfl rfl rfl (size_145) (allc1 rfl) (by rw [List.length_map, (chiK_len _ _)]; show (y + k5) + 1 ≤ 25; omega) (fun w110 S111 => ?_)
      simp only [pS, pN, pA, pC, pZ]
      have S111 : St w0 F0 w110 F (⟨n87, ((rowL Q y).map laneV), 162⟩ :: ⟨n2, ((cL Z 5).map laneV), 162⟩ :: ⟨rb, (splice ((chiK Q (y + k5)).map laneV) (y + k5) [laneV ((at0 (rowL Q y) k5) ^^^ ((~~~ (at0 (rowL Q y) ((k5 + 1) % 5))) &&& (at0 (rowL Q y) ((k5 + 2) % 5))))]), 147⟩ :: L0) (M0) := S111
      rw [lanes_set (Nat.lt_of_lt_of_eq (show (y + k5) < 25 by omega) (chiK_len _ _).symm)] at S111
      rw [chi_row hy5 (by omega), chiK_step Q (by omega)] at S111
      have S111 : St w0 F0 w110 F (⟨n87, ((rowL Q y).map laneV), 162⟩ :: ⟨n2, ((cL Z 5).map laneV), 162⟩ :: ⟨rb, ((chiK Q (y + (k5 + 1))).map laneV), 147⟩ :: L0) (M0) := S111
      refine wl_nil (hK103 _ _ ?_)
      refine region_wl ?_
      refine do_ rfl (.int .i64 (((k5 + 1) : Nat) : Int)) (ex_add (m := ((k5 : Nat) : Int)) (n := (1 : Int)) (r := (((k5 + 1) : Nat) : Int)) rfl rfl (by omega) (by omega) (by omega)) ?_
      simp only [pS, pN, pA, pC, pZ]
      refine do_ rfl (.int .i64 (((k5 + 1) : Nat) : Int)) (ex_move _) ?_
      simp only [pS, pN, pA, pC, pZ]
      refine wl_nil ?_
      exact hK100 _ _ _ (by omega) ⟨(k5 + 1), _, rfl, rfl, rfl, S111, (by omega)⟩
     ·refine do_ rfl (.bool false) (ex_lss (m := ((k5 : Nat) : Int)) (n := (5 : Int)) (b := false) rfl rfl (decide_eq_false (by omega))) ?_
      simp only [pS, pN, pA, pC, pZ]
      refine wl_nil (hK101 _ _ ?_)
      refine wp_seq_k (fun K112 hK112 => ?_)
      refine wp_cond_false rfl ?_
      refine wp_exit ?_
      refine hK85 _ _ ?_
      obtain rfl : k5 = 5 := by omega
      refine region_wl ?_
      refine do_ rfl (.int .i64 ((y : Nat) : Int)) (ex_move _) ?_
      simp only [pS, pN, pA, pC, pZ]
      refine do_ rfl (.int .i64 (((y + 5) : Nat) : Int)) (ex_add (m := ((y : Nat) : Int)) (n := (5 : Int)) (r := (((y + 5) : Nat) : Int)) rfl rfl (by omega) (by omega) (by omega)) ?_
      simp only [pS, pN, pA, pC, pZ]
      refine do_ rfl (.int .i64 (((y + 5) : Nat) : Int)) (ex_assign _) ?_
      simp only [pS, pN, pA, pC, pZ]
      refine wl_nil ?_
      have S98 := St.drop S98 (L' := (⟨n2, ((cL Z 5).map laneV), 162⟩ :: ⟨rb, ((chiK Q (y + 5)).map laneV), 147⟩ :: L0)) (.cons _ (List.Sublist.refl _))
      exact hK82 _ _ _ (by omega) ⟨(y + 5), _, rfl, rfl, rfl, S98, (by omega), (by omega)⟩
    ·refine do_ rfl (.bool false) (ex_lss (m := ((y : Nat) : Int)) (n := (25 : Int)) (b := false) rfl rfl (decide_eq_false (by omega))) ?_
     simp only [pS, pN, pA, pC, pZ]
     refine wl_nil (hK84 _ _ ?_)
     refine wp_cond_false rfl ?_
     refine wp_exit ?_
     refine hK73 _ _ ?_
     obtain rfl : y = 25 := by omega
     refine region_gw F 9 [] (by kernel_rfl) (by kernel_rfl) ?_
     simp only [List.take_succ_cons, List.take_zero]
     refine gw_pure rfl rfl (.pointer (some ⟨rb, 0, none⟩)) (fun w113 hCw113 => pureAt_of (ex_move _)) ?_
     simp only [pS, pN, pA, pC, pZ]
     refine gw_pure rfl rfl (.pointer (some ⟨rb, 0, none⟩)) (fun w113 hCw113 => pureAt_of (ex_nil rfl)) ?_
     simp only [pS, pN, pA, pC, pZ]
     refine gw_pure rfl rfl (.pointer (some ⟨rb, 0, none⟩)) (fun w113 hCw113 => pureAt_of (ex_atA (i := 0) Tryd.underlying147 (sizeof_145 _) rfl rfl (by omega))) ?_
     simp only [pS, pN, pA, pC, pZ]
     refine gw_pure rfl rfl (laneV (at0 (chiK Q 25) 0)) (fun w113 hCw113 => pureAt_of (ex_load rfl (load1 (nagg_145 _) (St.cell (St.tells S80 hCw113) (i := 1) rfl (lanes_at (Nat.lt_of_lt_of_eq (show 0 < 25 by omega) (chiK_len _ _).symm)))))) ?_
     simp only [pS, pN, pA, pC, pZ]
     refine gw_pure rfl rfl (.int .i64 ((r : Nat) : Int)) (fun w113 hCw113 => pureAt_of (ex_move _)) ?_
     simp only [pS, pN, pA, pC, pZ]
     refine gw_pure rfl rfl (.pointer (some ⟨3, r, none⟩)) (fun w113 hCw113 => pureAt_of (ex_atA (i := r) Tryd.underlying148 (sizeof_145 _) rfl rfl (by omega))) ?_
     simp only [pS, pN, pA, pC, pZ]
     refine gw_pure rfl rfl (laneV (roundB r)) (fun w113 hCw113 => pureAt_of (ex_load rfl (load1 (nagg_145 _) (((hT.at (St.tells S80 hCw113).gr.below).2.2 r hr))))) ?_
     simp only [pS, pN, pA, pC, pZ]
     refine gw_pure rfl rfl (laneV ((at0 (chiK Q 25) 0) ^^^ (roundB r))) (fun w113 hCw113 => pureAt_of (ex_xorL rfl rfl)) ?_
     simp only [pS, pN, pA, pC, pZ]
     refine gw_pure rfl rfl (.pointer (some ⟨rb, 0, none⟩)) (fun w113 hCw113 => pureAt_of (ex_nil rfl)) ?_
     simp only [pS, pN, pA, pC, pZ]
     refine gw_nil ?_
     intro w114 hC116 hF117
     clear hF117
     have S115 := St.tells S80 hC116
     simp only [List.drop_succ_cons, List.drop_zero]
     refine do_ rfl (.pointer (some ⟨rb, 0, none⟩)) (ex_atA (i := 0) Tryd.underlying147 (sizeof_145 _) rfl rfl (by omega)) ?_
     simp only [pS, pN, pA, pC, pZ]
     refine stStore (i := 1) (v := laneV ((at0 (chiK Q 25) 0) ^^^ (roundB r))) S115 rfl rfl rfl rfl (size_145) (allc1 rfl) (by rw [List.length_map, (chiK_len _ _)]; show 0 + 1 ≤ 25; omega) (fun w118 S119 => ?_)
     simp only [pS, pN, pA, pC, pZ]
     have S119 : St w0 F0 w118 F (⟨n2, ((cL Z 5).map laneV), 162⟩ :: ⟨rb, (splice ((chiK Q 25).map laneV) 0 [laneV ((at0 (chiK Q 25) 0) ^^^ (roundB r))]), 147⟩ :: L0) (M0) := S119
     rw [lanes_set (Nat.lt_of_lt_of_eq (show 0 < 25 by omega) (chiK_len _ _).symm)] at S119
     refine wl_nil ?_
     (try simp only [Exit.then, Exit.inBlock, ↓reduceIte, Nat.reduceEqDiff])
     refine bodyPost_end (v := .tuple #[]) ?_ rfl ?_
     ·exact res_0 rfl
     ·rw [chiK_all] at S119
      have S119 := St.drop S119 (L' := ⟨rb, ((chiL Q).set 0 (at0 (chiL Q) 0 ^^^ roundB r)).map laneV, 147⟩ :: L0) (.cons _ (List.Sublist.refl _))
      rw [hQ, hA, cL_all] at S119
      exact ⟨rfl, S119⟩
end Go.Proofs.YtikklmjengkliaaDoor
namespace Go.Proofs.YtikklmjengkliaaDoor
open Go.RowKit
set_option maxRecDepth 100000
set_option linter.unusedVariables false
set_option linter.unusedSimpArgs false
theorem by_at {E base : Nat} {w : World} {F : Fz} {l : By} {a : Option Addr} {n c : Nat} (h : Own 1 ByC E base w F (.slice a n c) l) {i : Nat} {b : UInt8} (hp : l[i]? = some b) : ∃ g, a = some ⟨g, 0, none⟩ ∧ w.cell? ⟨g, 0 + i * 1, none⟩ = some (bv b) := by
  obtain ⟨g, cs, e, _, r, hr⟩ := h.at hp
  have r : cs = [bv b] := r
  subst r
  refine ⟨g, e, ?_⟩
  have := hr 0 _ rfl
  rw [Nat.zero_add]
  simpa using this
section
variable {P : Program} {ρ : Operand → Value} {w : World} {d : Option Tmp} {t X Y E : TypeId} {pos : String} {after : Array Edge} {guard : Option (Nat × Bool)} {x y : Operand}
theorem or128 (b : UInt8) : bits .or .u8 (b.toNat : Int) 128 = ((b ||| 128).toNat : Int) := by
  have e1 : BitVec.ofInt 8 (b.toNat : Int) = b.toBitVec := by rw [BitVec.ofInt_natCast]; simp
  have e2 : BitVec.ofInt 8 (128 : Int) = (128 : UInt8).toBitVec := by decide
  have e3 : (b ||| 128).toNat = (b.toBitVec ||| (128 : UInt8).toBitVec).toNat := by rw [← UInt8.toBitVec_or]; rfl
  have hlt := (b ||| 128).toNat_lt
  unfold bits
  show IntKind.u8.wrap (((BitVec.ofInt 8 (b.toNat : Int) ||| BitVec.ofInt 8 (128 : Int)).toNat : Nat) : Int) = _
  rw [e1, e2, ← e3, show IntKind.u8.wrap (((b ||| 128).toNat : Nat) : Int) = (((b ||| 128).toNat : Nat) : Int) % 256 from rfl]
  omega
theorem ex_orB {b : UInt8} (hx : ρ x = bv b) (hy : ρ y = .int .u8 128) : (execOp ρ ⟨d, .binOp .or X x y Y, t, pos, after, guard⟩).run P w = .ok (.value (bv (b ||| 128))) w := by
  refine ex_bin hx hy ?_
  rw [run_binInt _ (by simp)]
  show Result.ok (Value.int .u8 (bits .or .u8 (b.toNat : Int) 128)) w = _
  rw [or128]; rfl
theorem ex_quoA {m n : Nat} (hx : ρ x = .int .i64 (m : Int)) (hy : ρ y = .int .i64 (n : Int)) (hn : 0 < n) (hm : m ≤ 9223372036854775807) : (execOp ρ ⟨d, .binOp .quo X x y Y, t, pos, after, guard⟩).run P w = .ok (.value (.int .i64 ((m / n : Nat) : Int))) w := by
  refine ex_bin hx hy ?_
  rw [run_binInt _ (by simp)]
  show (Op.intDiv .quo .i64 m n).run P w = _
  unfold Op.intDiv
  rw [if_neg (by omega)]
  show Result.ok (Value.int .i64 (IntKind.i64.wrap (Int.tdiv (m : Int) (n : Int)))) w = _
  have hle : m / n ≤ m := Nat.div_le_self m n
  rw [Int.tdiv_eq_ediv_of_nonneg (by omega), ← Int.natCast_ediv]
  generalize m / n = q at *
  rw [wrap64_in (by omega) (by omega)]
theorem ex_shlL {a : BitVec 64} {n : Nat} (hx : ρ x = laneV a) (hy : ρ y = .int .i64 (n : Int)) (hn : n ≤ 64) : (execOp ρ ⟨d, .binOp .shl X x y Y, t, pos, after, guard⟩).run P w = .ok (.value (laneV (a <<< n))) w := by
  have e : (eqGuard .shl X x y (.int .u64 (lane a)) (.int .i64 (n : Int))).run P w = .ok () w := rfl
  have h : (binOp .shl X (.int .u64 (lane a)) (.int .i64 (n : Int))).run P w = .ok (laneV (a <<< n)) w := by
    show (Op.shift .shl .u64 (lane a) .i64 (n : Int)).run P w = _
    unfold Op.shift
    rw [if_neg (by omega)]
    show Result.ok (Value.int .u64 (IntKind.u64.wrap (lane a * 2 ^ (min (n : Int).toNat 64)))) w = _
    rw [Int.toNat_natCast, Nat.min_eq_left hn, lane_shl]
  simp only [execOp, hx, hy, Sem.run_bind, e, Result.andThen_ok, h, Sem.run_pure]
theorem ex_shrL {a : BitVec 64} {n : Nat} (hx : ρ x = laneV a) (hy : ρ y = .int .i64 (n : Int)) (hn : n ≤ 64) : (execOp ρ ⟨d, .binOp .shr X x y Y, t, pos, after, guard⟩).run P w = .ok (.value (laneV (a >>> n))) w := by
  have e : (eqGuard .shr X x y (.int .u64 (lane a)) (.int .i64 (n : Int))).run P w = .ok () w := rfl
  have h : (binOp .shr X (.int .u64 (lane a)) (.int .i64 (n : Int))).run P w = .ok (laneV (a >>> n)) w := by
    show (Op.shift .shr .u64 (lane a) .i64 (n : Int)).run P w = _
    unfold Op.shift
    rw [if_neg (by omega)]
    show Result.ok (Value.int .u64 (Int.fdiv (lane a) (2 ^ (min (n : Int).toNat 64)))) w = _
    rw [Int.toNat_natCast, Nat.min_eq_left hn, Int.fdiv_eq_ediv_of_nonneg _ (show (0 : Int) ≤ 2 ^ n from Int.le_of_lt (Int.pow_pos (by decide))), lane_shr]
  simp only [execOp, hx, hy, Sem.run_bind, e, Result.andThen_ok, h, Sem.run_pure]
theorem conv_u64 (b : UInt8) (w : World) : (convert 5 145 (bv b)).run Tryd.prog w = .ok (laneV (BitVec.ofNat 64 b.toNat)) w := by
  have : (convert 5 145 (bv b)).run Tryd.prog w = .ok (.int .u64 (IntKind.u64.wrap (b.toNat : Int))) w := by kernel_rfl
  have hb := b.toNat_lt
  have e : IntKind.u64.wrap (b.toNat : Int) = lane (BitVec.ofNat 64 b.toNat) := by
    rw [wrap_u64]; unfold lane; simp; omega
  rw [this, e]
theorem conv_low (a : BitVec 64) (w : World) : (convert 145 5 (laneV a)).run Tryd.prog w = .ok (bv (UInt8.ofNat (a.toNat % 256))) w := by
  have : (convert 145 5 (laneV a)).run Tryd.prog w = .ok (.int .u8 (IntKind.u8.wrap (lane a))) w := by kernel_rfl
  have e : IntKind.u8.wrap (lane a) = ((UInt8.ofNat (a.toNat % 256)).toNat : Int) := by
    rw [show IntKind.u8.wrap (lane a) = lane a % 256 from rfl]; unfold lane; simp
  rw [this, e]; rfl
end
def padK (b : By) (k : Nat) : By := (b ++ [6]) ++ List.replicate k 0
def padN (b : By) : Nat := (136 - (b.length + 1) % 136) % 136
theorem padK_len (b : By) (k : Nat) : (padK b k).length = b.length + 1 + k := by simp [padK]; omega
theorem padK_step (b : By) (k : Nat) : padK b k ++ [0] = padK b (k + 1) := by
  unfold padK
  rw [List.append_assoc, List.replicate_succ']
theorem padK_zero (b : By) : b ++ [6] = padK b 0 := by simp [padK]
theorem padL_of {b : By} {x : UInt8} (h : (padK b (padN b))[(padK b (padN b)).length - 1]? = some x) : (padK b (padN b)).set ((padK b (padN b)).length - 1) (x ||| 128) = padL b := by
  have e : (padK b (padN b)).getD ((padK b (padN b)).length - 1) 0 = x := by rw [List.getD_eq_getElem?_getD, h]; rfl
  rw [← e]
  unfold padL padK padN
  simp only [List.length_append, List.length_singleton]
theorem padL_len (b : By) : (padL b).length = b.length + 1 + padN b := by
  unfold padL padN
  simp only [List.length_set, List.length_append, List.length_singleton, List.length_replicate]
theorem mix_len (S : List (BitVec 64)) (p : By) : ∀ n, (mixL S p n).length = S.length := by
  intro n
  induction n with
  | zero => rfl
  | succ n ih => unfold mixL at *; rw [List.range_succ, List.foldl_append]; simpa using ih
theorem mix_step (S : List (BitVec 64)) {p : By} {n : Nat} {x : UInt8} (h : p[n]? = some x) : (mixL S p n).set (n / 8) (at0 (mixL S p n) (n / 8) ^^^ (BitVec.ofNat 64 x.toNat <<< (n % 8 * 8))) = mixL S p (n + 1) := by
  have e : p.getD n 0 = x := by rw [List.getD_eq_getElem?_getD, h]; rfl
  rw [← e]
  unfold mixL
  rw [List.range_succ, List.foldl_append]
  rfl
theorem stirL_len (S : List (BitVec 64)) (r : Nat) : (stirL S r).length = 25 := by
  unfold stirL
  simp [chiL, mapL]
theorem stirs_step (S : List (BitVec 64)) (n : Nat) : stirL (stirsL S n) n = stirsL S (n + 1) := by
  unfold stirsL
  rw [List.range_succ, List.foldl_append]
  rfl
theorem stirs_len {S : List (BitVec 64)} (h : S.length = 25) : ∀ n, (stirsL S n).length = 25
  | 0 => h
  | n + 1 => by rw [← stirs_step]; exact stirL_len _ _
theorem absorb_step {Z : List (BitVec 64)} {p : By} (h : 136 ≤ p.length) : absorbL Z p (p.length / 136) = absorbL (stirsL (mixL Z p 136) 24) (p.drop 136) ((p.drop 136).length / 136) := by
  rw [List.length_drop, show p.length / 136 = (p.length - 136) / 136 + 1 from by omega]
  rfl
def outAt (Z : List (BitVec 64)) (i : Nat) : UInt8 := UInt8.ofNat ((at0 Z (i / 8) >>> (i % 8 * 8)).toNat % 256)
def outK (Z : List (BitVec 64)) (k : Nat) : By := (List.range 32).map fun i => if i < k then outAt Z i else 0
theorem outK_len (Z : List (BitVec 64)) (k : Nat) : (outK Z k).length = 32 := by simp [outK]
theorem outK_zero (Z : List (BitVec 64)) : outK Z 0 = List.replicate 32 0 := by unfold outK; rfl
theorem outK_all (Z : List (BitVec 64)) : outK Z 32 = outL Z := by
  unfold outK outL
  exact List.map_congr_left fun i hi => by rw [if_pos (List.mem_range.1 hi)]; rfl
theorem outK_step (Z : List (BitVec 64)) {k : Nat} (h : k < 32) : (outK Z k).set k (outAt Z k) = outK Z (k + 1) := by
  apply List.ext_getElem (by simp [outK])
  intro i h1 h2
  simp only [outK, List.getElem_set, List.getElem_map, List.getElem_range]
  by_cases e : k = i
  · subst e; simp
  · rw [if_neg e]
    by_cases e2 : i < k
    · rw [if_pos e2, if_pos (by omega)]
    · rw [if_neg e2, if_neg (by omega)]
theorem bytes_set {l : By} {j : Nat} {x : UInt8} (h : j < l.length) : splice (l.map bv) j [bv x] = (l.set j x).map bv := by
  unfold splice
  rw [List.map_set, List.set_eq_take_append_cons_drop, if_pos (by simpa using h)]
  simp
theorem zero_147 (w : World) : (zeroValue 147).run Tryd.prog w = .ok (.agg ((List.replicate 25 (0 : BitVec 64)).map laneV).toArray) w := by kernel_rfl
theorem stStir {P : Program} {w0 w : World} {F0 F : Fz} {rb : Nat} {T : TypeId} {L0 : List Blk} {M0 : List RowP} {Z : List (BitVec 64)} {ops : Array Oper} {Q : Exit → Act → World → Prop} {a : Act} {rest : List Oper} {o : Oper} {k : FuncId} {vs : Array Value} (hw : Region.wanted o (yielded ops a.tmps) = true)
    (hr : (execOp a.eval o).run P w = .ok (.enter k vs) w) (hc : Calls P k vs w fun e w' => e = .returned (.tuple #[]) ∧ St w0 F0 w' F (⟨rb, Z.map laneV, T⟩ :: L0) M0)
    (h : ∀ w', St w0 F0 w' F (⟨rb, Z.map laneV, T⟩ :: L0) M0 → WL P ops Q rest (a.put o.dst (.tuple #[])) w') : WL P ops Q (o :: rest) a w :=
  doC hw hr hc fun e w' ⟨he, hS⟩ => ⟨_, he, h w' hS⟩
end Go.Proofs.YtikklmjengkliaaDoor
namespace Go.Proofs.YtikklmjengkliaaDoor
open Go.RowKit
set_option maxRecDepth 100000
set_option linter.unusedVariables false
set_option linter.unusedSimpArgs false
theorem Sl.dropD {α : Type} {k : Nat} {R : Fz → List Value → α → Prop} {F : Fz} {a : Option Addr} {n c m : Nat} {l : List α} (hk : 0 < k) (h : Sl k R F (.slice a n c) l) (hm : m ≤ n) : Sl k R F (.slice (if c = m then a else a.map (·.add (m * k))) (n - m) (c - m)) (l.drop m) := by
  have hn := Sl.len h
  obtain ⟨el, h1, h2, h3⟩ := h
  obtain ⟨a0, c0, e1, q1, q2, q3, q4⟩ := h1
  injection e1 with e1 e2 e3
  subst e1; subst e3
  have hll := h2.len
  by_cases hmn : m = l.length
  · have e : l.drop m = [] := List.drop_of_length_le (by omega)
    have e0 : n - m = 0 := by omega
    rw [e, e0]
    refine ⟨[], ⟨_, c - m, rfl, by simp, by omega, fun e => ?_, .inl rfl⟩, trivial, by simp⟩
    cases a with
    | none => have := q3 rfl; exact ⟨rfl, by omega⟩
    | some ad => split at e <;> cases e
  · have hpos : el.flatten ≠ [] := by
      intro e
      have := congrArg List.length e
      rw [flatten_len h3, hll] at this
      have := Nat.mul_pos (show 0 < l.length by omega) hk
      simp at *
      omega
    obtain ⟨b, o, e, hc⟩ := q4.resolve_left hpos
    subst e
    rw [if_neg (by omega)]
    have hs : Sl k R F (.slice (some ⟨b, o, none⟩) n c) l := ⟨el, ⟨_, _, by rw [hn], q1, q2, q3, .inr ⟨b, o, rfl, hc⟩⟩, h2, h3⟩
    have := Sl.dropN (m := m) hs hm rfl rfl
    show Sl k R F (.slice (some (Addr.add ⟨b, o, none⟩ (m * k))) _ _) _
    rw [Addr.add_mid]
    exact this
theorem Bs.restD {F : Fz} {a : Option Addr} {m c n : Nat} {l : By} (h : Bs F (.slice a m c) l) (hn : n ≤ m) : Bs F (.slice (if c = n then a else a.map (·.add (n * 1))) (m - n) (c - n)) (l.drop n) := bs_of_sl (Sl.dropD (by decide) h.sl hn)
theorem made_bytes (n : Nat) : (madeCells (Value.int .u8 0).cells (n * 1)).toList = (List.replicate n (0 : UInt8)).map bv := by
  rw [show (Value.int .u8 0).cells = #[.int .u8 0] from rfl, toList_madeCells_one]; simp [bv]
theorem stirs_zero (S : List (BitVec 64)) : stirsL S 0 = S := rfl
theorem mix_zero (S : List (BitVec 64)) (p : By) : mixL S p 0 = S := rfl
theorem absorb_at {Z X R : List (BitVec 64)} {p : By} (hX : X = mixL Z p 136) (h : 136 ≤ p.length) (e : absorbL Z p (p.length / 136) = R) : absorbL (stirsL X 24) (p.drop 136) ((p.drop 136).length / 136) = R := by
  rw [hX, ← absorb_step h]; exact e
theorem absorb_end {Z R : List (BitVec 64)} {p : By} (h : p.length / 136 = 0) (e : absorbL Z p (p.length / 136) = R) : Z = R := by
  rw [h] at e; rw [← e]; cases p <;> rfl
theorem outL_len (Z : List (BitVec 64)) : (outL Z).length = 32 := by simp [outL]
set_option maxHeartbeats 8000000 in
theorem sum_own (F : Fz) (w : World) (v : Value) (b : By) (hs : Sat w F) (hT : Tabs w) (hb : Bs F v b) (hn : b.length ≤ 100000) :
    Calls Tryd.prog 72 #[v] w (GivesO w F 1 ByC 5 (sumL b)) := by
 obtain ⟨x, y, rfl, hc1', hc2'⟩ := hb.shape
 unfold maxLen at hc2'
 obtain ⟨i5, hi5, hz5, hs5, hb5⟩ := info_parts infoU8
 have S := St.start hs
 go_enter Tryd.func72, Tryd.ntmps72
 refine wp_seq_k (fun K1 hK1 => region_wl ?_)
 refine do_ rfl (.slice none 0 0) (ex_assign _) ?_
 simp only [pS, pN, pA, pC, pZ]
 refine wl_nil (hK1 _ _ ?_)
 refine wp_seq_k (fun K2 hK2 => region_wl ?_)
 refine do_ rfl (.slice x b.length y) (ex_move _) ?_
 simp only [pS, pN, pA, pC, pZ]
 have S3 := St.addNil S 1 ByC ByC.mono 5 w.heap.size
 refine stAppendS (r := 0) (u := (.slice x b.length y)) S3 rfl i5 (.int .u8 0) 1 Tryd.underlying23 hi5 hz5 hs5 hb5 rfl (by decide) rfl rfl rfl (Sl.toW (Bs.sl hb) (S3).sat) ByC.one (Nat.le_refl _) S3.gr.below.size (by unfold maxLen; simp only [List.length_nil]; omega) (by simp only [List.length_nil]; omega) ?_
 intro v4 w5 S6 hn7
 simp only [pS, pN, pA, pC, pZ]
 have S6 : St w F w5 F [] [ownP 1 ByC ByC.mono 5 w.heap.size v4 ([] ++ b)] := S6
 refine stNew S6 (v := fun n => .slice (some ⟨n, 0, none⟩) 1 1) rfl (ex_lit (ps := #[(0, (.int .u8 6))]) (cells := #[(.int .u8 6)]) (E := 5) (bmap1 rfl) (fun w => by kernel_rfl)) (fun n8 w9 S10 => ?_)
 simp only [pS, pN, pA, pC, pZ]
 have S10 : St w F w9 F [⟨n8, [(.int .u8 6)], 5⟩] [ownP 1 ByC ByC.mono 5 w.heap.size v4 ([] ++ b)] := S10
 rw [List.nil_append] at S10
 refine stPush (i := 0) (r := 0) (p := (6 : UInt8)) (cs := [(.int .u8 6)]) S10 rfl i5 (.int .u8 0) 1 Tryd.underlying23 hi5 hz5 hs5 hb5 rfl (by decide) rfl rfl rfl rfl rfl (bv_one 6) (rfl) (Nat.le_refl _) S10.gr.below.size (by unfold maxLen; omega) (by omega) ?_
 intro v11 w12 S13 hn14
 simp only [pS, pN, pA, pC, pZ]
 have S13 := St.drop S13 (L' := []) (.cons _ (List.Sublist.refl _))
 have S13 : St w F w12 F [] [ownP 1 ByC ByC.mono 5 w.heap.size v11 (b ++ [(6 : UInt8)])] := S13
 refine do_ rfl v11 (ex_assign _) ?_
 simp only [pS, pN, pA, pC, pZ]
 refine wl_nil (hK2 _ _ ?_)
 refine wp_seq_k (fun K15 hK15 => ?_)
 refine wp_block ?_
 rw [padK_zero] at S13
 refine wp_loop_g (fun mm aa w17 => ∃ (k : Nat) (v : Value) (u16 : Nat → Value), mm = padN b - k ∧ u16 = slots aa ∧ aa = ⟨#[(.slice x b.length y), undef, (.slice none 0 0), v, undef, undef, undef, undef, undef, (.slice x b.length y), v4, (.slice (some ⟨n8, 0, none⟩) 1 1), v11, (u16 13), (u16 14), (u16 15), (u16 16), (u16 17), (u16 18), (u16 19), undef, undef, undef, undef, undef, undef, undef, undef, undef, undef, undef, undef, undef, undef, undef, undef, undef, undef, undef, undef, undef, undef, undef, undef, undef, undef, undef, undef, undef, undef, undef, undef, undef, undef, undef, undef, undef, undef, undef, undef, undef, undef, undef, undef, undef, undef, undef, undef, undef, undef, undef, undef, undef, undef, undef, undef, undef, undef], []⟩ ∧ St w F w17 F [] [ownP 1 ByC ByC.mono 5 w.heap.size v (padK b k)] ∧ (k ≤ padN b)) _ ⟨0, v11, _, rfl, rfl, rfl, S13, (Nat.zero_le _)⟩ ?_
 rintro m18 a19 w20 ⟨k, v, u16, rfl, -, rfl, S21, hk⟩ K23 hK23
 refine wp_seq_k (fun K24 hK24 => ?_)
 refine wp_seq_k (fun K25 hK25 => ?_)
 have hpl := padK_len b k
 have hpn : padN b < 136 := by unfold padN; omega
 obtain ⟨a26, cap27, rfl, h28, h29⟩ := (S21.own (i := 0) rfl).shape
 unfold maxLen at h29
 refine region_wl ?_
 refine do_ rfl (.slice a26 (padK b k).length cap27) (ex_move _) ?_
 simp only [pS, pN, pA, pC, pZ]
 refine do_ rfl (.int .i64 (((padK b k).length : Nat) : Int)) (ex_len Tryd.underlying23 rfl) ?_
 simp only [pS, pN, pA, pC, pZ]
 refine do_ rfl (.int .i64 ((((padK b k).length % 136) : Nat) : Int)) (ex_remA (m := ((padK b k).length)) (n := 136) rfl rfl (by decide) (by omega)) ?_
 simp only [pS, pN, pA, pC, pZ]
 by_cases hc16 : ((padK b k).length % 136) = 0
 ·refine do_ rfl (.bool false) (ex_neq (m := ((((padK b k).length % 136) : Nat) : Int)) (n := (0 : Int)) (b := false) rfl rfl (bne_eq_false_iff_eq.2 (by omega))) ?_
  simp only [pS, pN, pA, pC, pZ]
  refine wl_nil (hK25 _ _ ?_)
  refine wp_cond_false rfl ?_
  refine wp_exit ?_
  refine hK15 _ _ ?_
  refine wp_seq_k (fun K30 hK30 => ?_)
  have hkk : k = padN b := by unfold padN at *; omega
  subst hkk
  obtain ⟨xb, hxb⟩ : ∃ x, (padK b (padN b))[(padK b (padN b)).length - 1]? = some x := ⟨_, List.getElem?_eq_getElem (by omega)⟩
  obtain ⟨g31, ha32, c33⟩ := by_at (St.own S21 (i := 0) rfl) hxb
  subst ha32
  refine region_wl ?_
  refine do_ rfl (.slice (some ⟨g31, 0, none⟩) (padK b (padN b)).length cap27) (ex_move _) ?_
  simp only [pS, pN, pA, pC, pZ]
  refine do_ rfl (.slice (some ⟨g31, 0, none⟩) (padK b (padN b)).length cap27) (ex_move _) ?_
  simp only [pS, pN, pA, pC, pZ]
  refine do_ rfl (.int .i64 (((padK b (padN b)).length : Nat) : Int)) (ex_len Tryd.underlying23 rfl) ?_
  simp only [pS, pN, pA, pC, pZ]
  refine do_ rfl (.int .i64 ((((padK b (padN b)).length - 1) : Nat) : Int)) (ex_sub (m := (((padK b (padN b)).length : Nat) : Int)) (n := (1 : Int)) (r := ((((padK b (padN b)).length - 1) : Nat) : Int)) rfl rfl (by omega) (by omega) (by omega)) ?_
  simp only [pS, pN, pA, pC, pZ]
  refine do_ rfl (.pointer (some ⟨g31, 0 + ((padK b (padN b)).length - 1) * 1, none⟩)) (ex_at (i := ((padK b (padN b)).length - 1)) (sz := 1) Tryd.underlying23 (sizeof_5 _) rfl rfl rfl (by omega) rfl) ?_
  simp only [pS, pN, pA, pC, pZ]
  refine do_ rfl (bv xb) (ex_load rfl (load1 (nagg_5 _) c33)) ?_
  simp only [pS, pN, pA, pC, pZ]
  refine do_ rfl (bv (xb ||| 128)) (ex_orB rfl rfl) ?_
  simp only [pS, pN, pA, pC, pZ]
  refine do_ rfl (.pointer (some ⟨g31, 0 + ((padK b (padN b)).length - 1) * 1, none⟩)) (ex_at (i := ((padK b (padN b)).length - 1)) (sz := 1) Tryd.underlying23 (sizeof_5 _) rfl rfl rfl (by omega) rfl) ?_
  simp only [pS, pN, pA, pC, pZ]
  refine stSetRow (r := 0) (i := ((padK b (padN b)).length - 1)) (p := (xb ||| 128)) (u := (bv (xb ||| 128))) S21 rfl rfl (by omega) rfl rfl (by omega) (size_5) (allc1 rfl) rfl rfl (Nat.le_refl _) (fun w34 S35 => ?_)
  simp only [pS, pN, pA, pC, pZ]
  have S35 : St w F w34 F [] [ownP 1 ByC ByC.mono 5 w.heap.size (.slice (some ⟨g31, 0, none⟩) (padK b (padN b)).length cap27) ((padK b (padN b)).set ((padK b (padN b)).length - 1) (xb ||| 128))] := S35
  rw [padL_of hxb] at S35
  refine wl_nil (hK30 _ _ ?_)
  refine wp_seq_k (fun K36 hK36 => ?_)
  obtain ⟨F37, S38, le39, hv40⟩ := St.freeze S35 (i := 0) rfl (Nat.le_refl _)
  have S38 : St w F w34 F37 [] [] := S38
  have hv40 : Bys _ (.slice (some ⟨g31, 0, none⟩) (padK b (padN b)).length cap27) (padL b) := hv40
  have r41 := bs_of_sl hv40
  refine region_wl ?_
  refine stNew S38 (v := fun n => .pointer (some ⟨n, 0, none⟩)) rfl (ex_alloc (zero_147 _)) (fun n42 w43 S44 => ?_)
  simp only [pS, pN, pA, pC, pZ]
  have S44 : St w F w43 F37 [⟨n42, ((List.replicate 25 (0 : BitVec 64)).map laneV), 147⟩] [] := S44
  refine wl_nil (hK36 _ _ ?_)
  refine wp_seq_k (fun K45 hK45 => ?_)
  refine wp_block ?_
  refine wp_loop_g (fun mm aa w47 => ∃ (Z : List (BitVec 64)) (ra : Option Addr) (rn : Nat) (rc : Nat) (rest : By) (u46 : Nat → Value), mm = rest.length ∧ u46 = slots aa ∧ aa = ⟨#[(.slice x b.length y), undef, (.slice none 0 0), (.slice ra rn rc), (.pointer (some ⟨n42, 0, none⟩)), (u46 5), (u46 6), undef, undef, (.slice x b.length y), v4, (.slice (some ⟨n8, 0, none⟩) 1 1), v11, (.slice (some ⟨g31, 0, none⟩) (padK b (padN b)).length cap27), (.int .i64 (((padK b (padN b)).length : Nat) : Int)), (.int .i64 ((((padK b (padN b)).length % 136) : Nat) : Int)), (.bool false), (u16 17), (u16 18), (u16 19), (.slice (some ⟨g31, 0, none⟩) (padK b (padN b)).length cap27), (.slice (some ⟨g31, 0, none⟩) (padK b (padN b)).length cap27), (.int .i64 (((padK b (padN b)).length : Nat) : Int)), (.int .i64 ((((padK b (padN b)).length - 1) : Nat) : Int)), (.pointer (some ⟨g31, 0 + ((padK b (padN b)).length - 1) * 1, none⟩)), (bv xb), (bv (xb ||| 128)), (.pointer (some ⟨g31, 0 + ((padK b (padN b)).length - 1) * 1, none⟩)), (u46 28), (u46 29), (u46 30), (u46 31), (u46 32), (u46 33), (u46 34), (u46 35), (u46 36), (u46 37), (u46 38), (u46 39), (u46 40), (u46 41), (u46 42), (u46 43), (u46 44), (u46 45), (u46 46), (u46 47), (u46 48), (u46 49), (u46 50), (u46 51), (u46 52), (u46 53), (u46 54), (u46 55), (u46 56), (u46 57), undef, undef, undef, undef, undef, undef, undef, undef, undef, undef, undef, undef, undef, undef, undef, undef, undef, undef, undef, undef], []⟩ ∧ St w F w47 F37 [⟨n42, (Z.map laneV), 147⟩] [] ∧ (Z.length = 25) ∧ (Bs F37 (.slice ra rn rc) rest) ∧ (rest.length % 136 = 0) ∧ (rest.length ≤ 200000) ∧ (absorbL Z rest (rest.length / 136) = absorbL (List.replicate 25 0) (padL b) ((padL b).length / 136))) _ ⟨(List.replicate 25 0), (some ⟨g31, 0, none⟩), (padK b (padN b)).length, cap27, (padL b), _, rfl, rfl, rfl, S44, (by simp), r41, (by rw [padL_len]; unfold padN; omega), (by rw [padL_len]; unfold padN; omega), rfl⟩ ?_
  rintro m48 a49 w50 ⟨Z, ra, rn, rc, rest, u46, rfl, -, rfl, S51, hZ, hrest, hrm, hrl, hab⟩ K53 hK53
  refine wp_seq_k (fun K54 hK54 => ?_)
  refine wp_seq_k (fun K55 hK55 => ?_)
  have hrn := hrest.len
  refine region_wl ?_
  refine do_ rfl (.slice ra rn rc) (ex_move _) ?_
  simp only [pS, pN, pA, pC, pZ]
  refine do_ rfl (.int .i64 ((rn : Nat) : Int)) (ex_len Tryd.underlying23 rfl) ?_
  simp only [pS, pN, pA, pC, pZ]
  by_cases hc30 : 0 < rn
  ·refine do_ rfl (.bool true) (ex_gtr (m := ((rn : Nat) : Int)) (n := (0 : Int)) (b := true) rfl rfl (decide_eq_true (by omega))) ?_
   simp only [pS, pN, pA, pC, pZ]
   refine wl_nil (hK55 _ _ ?_)
   refine wp_cond_true rfl ?_
   refine wp_skip ?_
   refine hK54 _ _ ?_
   refine wp_seq_k (fun K56 hK56 => ?_)
   refine wp_block ?_
   refine wp_seq_k (fun K57 hK57 => ?_)
   refine wp_seq_k (fun K58 hK58 => region_wl ?_)
   refine do_ rfl (.int .i64 0) (ex_move _) ?_
   simp only [pS, pN, pA, pC, pZ]
   refine wl_nil (hK58 _ _ ?_)
   refine wp_block ?_
   have S51 : St w F w50 F37 [⟨n42, ((mixL Z rest 0).map laneV), 147⟩] [] := by rw [mix_zero]; exact S51
   refine wp_loop_g (fun mm aa w60 => ∃ (i : Nat) (u59 : Nat → Value), mm = 136 - i ∧ u59 = slots aa ∧ aa = ⟨#[(.slice x b.length y), undef, (.slice none 0 0), (.slice ra rn rc), (.pointer (some ⟨n42, 0, none⟩)), (u59 5), (u46 6), undef, undef, (.slice x b.length y), v4, (.slice (some ⟨n8, 0, none⟩) 1 1), v11, (.slice (some ⟨g31, 0, none⟩) (padK b (padN b)).length cap27), (.int .i64 (((padK b (padN b)).length : Nat) : Int)), (.int .i64 ((((padK b (padN b)).length % 136) : Nat) : Int)), (.bool false), (u16 17), (u16 18), (u16 19), (.slice (some ⟨g31, 0, none⟩) (padK b (padN b)).length cap27), (.slice (some ⟨g31, 0, none⟩) (padK b (padN b)).length cap27), (.int .i64 (((padK b (padN b)).length : Nat) : Int)), (.int .i64 ((((padK b (padN b)).length - 1) : Nat) : Int)), (.pointer (some ⟨g31, 0 + ((padK b (padN b)).length - 1) * 1, none⟩)), (bv xb), (bv (xb ||| 128)), (.pointer (some ⟨g31, 0 + ((padK b (padN b)).length - 1) * 1, none⟩)), (.slice ra rn rc), (.int .i64 ((rn : Nat) : Int)), (.bool true), (u46 31), (u46 32), (.int .i64 ((i : Nat) : Int)), (u59 34), (u59 35), (u59 36), (u59 37), (u59 38), (u59 39), (u59 40), (u59 41), (u59 42), (u59 43), (u59 44), (u59 45), (u59 46), (u59 47), (u59 48), (u59 49), (u59 50), (u59 51), (u46 52), (u46 53), (u46 54), (u46 55), (u46 56), (u46 57), undef, undef, undef, undef, undef, undef, undef, undef, undef, undef, undef, undef, undef, undef, undef, undef, undef, undef, undef, undef], []⟩ ∧ St w F w60 F37 [⟨n42, ((mixL Z rest i).map laneV), 147⟩] [] ∧ (i ≤ 136)) _ ⟨0, _, rfl, rfl, rfl, S51, (by omega)⟩ ?_
   rintro m61 a62 w63 ⟨i, u59, rfl, -, rfl, S64, hi⟩ K66 hK66
   refine wp_seq_k (fun K67 hK67 => region_wl ?_)
   by_cases hc34 : i < 136
   ·refine do_ rfl (.bool true) (ex_lss (m := ((i : Nat) : Int)) (n := (136 : Int)) (b := true) rfl rfl (decide_eq_true (by omega))) ?_
    simp only [pS, pN, pA, pC, pZ]
    refine wl_nil (hK67 _ _ ?_)
    refine wp_seq_k (fun K68 hK68 => ?_)
    refine wp_cond_true rfl ?_
    refine wp_skip ?_
    refine hK68 _ _ ?_
    refine wp_seq_k (fun K69 hK69 => ?_)
    refine wp_block ?_
    refine wp_seq_k (fun K70 hK70 => region_wl ?_)
    refine do_ rfl (.int .i64 ((i : Nat) : Int)) (ex_move _) ?_
    simp only [pS, pN, pA, pC, pZ]
    refine do_ rfl (.int .i64 ((i : Nat) : Int)) (ex_assign _) ?_
    simp only [pS, pN, pA, pC, pZ]
    refine wl_nil (hK70 _ _ ?_)
    obtain ⟨xi, hxi⟩ : ∃ x, rest[i]? = some x := ⟨_, List.getElem?_eq_getElem (by omega)⟩
    obtain ⟨b71, o72, ha73, c74⟩ := Bs.get hrest hxi
    refine region_gw F37 13 [] (by kernel_rfl) (by kernel_rfl) ?_
    simp only [List.take_succ_cons, List.take_zero]
    refine gw_pure rfl rfl (.int .i64 ((i : Nat) : Int)) (fun w75 hCw75 => pureAt_of (ex_move _)) ?_
    simp only [pS, pN, pA, pC, pZ]
    refine gw_pure rfl rfl (.int .i64 (((i / 8) : Nat) : Int)) (fun w75 hCw75 => pureAt_of (ex_quoA (m := i) (n := 8) rfl rfl (by decide) (by omega))) ?_
    simp only [pS, pN, pA, pC, pZ]
    refine gw_pure rfl rfl (.pointer (some ⟨n42, (i / 8), none⟩)) (fun w75 hCw75 => pureAt_of (ex_atA (i := (i / 8)) Tryd.underlying147 (sizeof_145 _) rfl rfl (by omega))) ?_
    simp only [pS, pN, pA, pC, pZ]
    refine gw_pure rfl rfl (laneV (at0 (mixL Z rest i) (i / 8))) (fun w75 hCw75 => pureAt_of (ex_load rfl (load1 (nagg_145 _) (St.cell (St.tells S64 hCw75) (i := 0) rfl (lanes_at (Nat.lt_of_lt_of_eq (show (i / 8) < 25 by omega) ((mix_len _ _ _).trans hZ).symm)))))) ?_
    simp only [pS, pN, pA, pC, pZ]
    refine gw_pure rfl rfl (.slice ra rn rc) (fun w75 hCw75 => pureAt_of (ex_move _)) ?_
    simp only [pS, pN, pA, pC, pZ]
    refine gw_pure rfl rfl (.int .i64 ((i : Nat) : Int)) (fun w75 hCw75 => pureAt_of (ex_move _)) ?_
    simp only [pS, pN, pA, pC, pZ]
    refine gw_pure rfl rfl (.pointer (some ⟨b71, o72 + i * 1, none⟩)) (fun w75 hCw75 => pureAt_of (ex_at (i := i) (sz := 1) Tryd.underlying23 (sizeof_5 _) rfl ha73 rfl (by omega) rfl)) ?_
    simp only [pS, pN, pA, pC, pZ]
    refine gw_pure rfl rfl (bv xi) (fun w75 hCw75 => pureAt_of (ex_load rfl (load1 (nagg_5 _) (St.fz (St.tells S64 hCw75) c74)))) ?_
    simp only [pS, pN, pA, pC, pZ]
    refine gw_pure rfl rfl (laneV (BitVec.ofNat 64 xi.toNat)) (fun w75 hCw75 => pureAt_of (ex_convert (v := (bv xi)) rfl (conv_u64 xi _))) ?_
    simp only [pS, pN, pA, pC, pZ]
    refine gw_pure rfl rfl (.int .i64 ((i : Nat) : Int)) (fun w75 hCw75 => pureAt_of (ex_move _)) ?_
    simp only [pS, pN, pA, pC, pZ]
    refine gw_pure rfl rfl (.int .i64 (((i % 8) : Nat) : Int)) (fun w75 hCw75 => pureAt_of (ex_remA (m := i) (n := 8) rfl rfl (by decide) (by omega))) ?_
    simp only [pS, pN, pA, pC, pZ]
    refine gw_pure rfl rfl (.int .i64 ((((i % 8) * 8) : Nat) : Int)) (fun w75 hCw75 => pureAt_of (ex_mul (m := (((i % 8) : Nat) : Int)) (n := (8 : Int)) (r := ((((i % 8) * 8) : Nat) : Int)) rfl rfl (by omega) (by omega) (by omega))) ?_
    simp only [pS, pN, pA, pC, pZ]
    refine gw_pure rfl rfl (laneV ((BitVec.ofNat 64 xi.toNat) <<< ((i % 8) * 8))) (fun w75 hCw75 => pureAt_of (ex_shlL (n := ((i % 8) * 8)) rfl rfl (by omega))) ?_
    simp only [pS, pN, pA, pC, pZ]
    refine gw_nil ?_
    intro w76 hC78 hF79
    clear hF79
    have S77 := St.tells S64 hC78
    simp only [List.drop_succ_cons, List.drop_zero]
    refine do_ rfl (laneV ((at0 (mixL Z rest i) (i / 8)) ^^^ ((BitVec.ofNat 64 xi.toNat) <<< ((i % 8) * 8)))) (ex_xorL rfl rfl) ?_
    simp only [pS, pN, pA, pC, pZ]
    refine do_ rfl (.pointer (some ⟨n42, (i / 8), none⟩)) (ex_atA (i := (i / 8)) Tryd.underlying147 (sizeof_145 _) rfl rfl (by omega)) ?_
    simp only [pS, pN, pA, pC, pZ]
    refine stStore (i := 0) (v := laneV ((at0 (mixL Z rest i) (i / 8)) ^^^ ((BitVec.ofNat 64 xi.toNat) <<< ((i % 8) * 8)))) S77 rfl rfl rfl rfl (size_145) (allc1 rfl) (by rw [List.length_map, ((mix_len _ _ _).trans hZ)]; show (i / 8) + 1 ≤ 25; omega) (fun w80 S81 => ?_)
    simp only [pS, pN, pA, pC, pZ]
    have S81 : St w F w80 F37 [⟨n42, (splice ((mixL Z rest i).map laneV) (i / 8) [laneV ((at0 (mixL Z rest i) (i / 8)) ^^^ ((BitVec.ofNat 64 xi.toNat) <<< ((i % 8) * 8)))]), 147⟩] [] := S81
    rw [lanes_set (Nat.lt_of_lt_of_eq (show (i / 8) < 25 by omega) ((mix_len _ _ _).trans hZ).symm)] at S81
    rw [mix_step Z hxi] at S81
    refine wl_nil (hK69 _ _ ?_)
    refine region_wl ?_
    refine do_ rfl (.int .i64 (((i + 1) : Nat) : Int)) (ex_add (m := ((i : Nat) : Int)) (n := (1 : Int)) (r := (((i + 1) : Nat) : Int)) rfl rfl (by omega) (by omega) (by omega)) ?_
    simp only [pS, pN, pA, pC, pZ]
    refine do_ rfl (.int .i64 (((i + 1) : Nat) : Int)) (ex_move _) ?_
    simp only [pS, pN, pA, pC, pZ]
    refine wl_nil ?_
    exact hK66 _ _ _ (by omega) ⟨(i + 1), _, rfl, rfl, rfl, S81, (by omega)⟩
   ·refine do_ rfl (.bool false) (ex_lss (m := ((i : Nat) : Int)) (n := (136 : Int)) (b := false) rfl rfl (decide_eq_false (by omega))) ?_
    simp only [pS, pN, pA, pC, pZ]
    refine wl_nil (hK67 _ _ ?_)
    refine wp_seq_k (fun K82 hK82 => ?_)
    refine wp_cond_false rfl ?_
    refine wp_exit ?_
    refine hK57 _ _ ?_
    refine wp_seq_k (fun K83 hK83 => ?_)
    obtain rfl : i = 136 := by omega
    obtain ⟨Xm, hXm⟩ : ∃ X, X = mixL Z rest 136 := ⟨_, rfl⟩
    have hXl : Xm.length = 25 := by rw [hXm]; exact (mix_len _ _ _).trans hZ
    rw [← hXm] at S64
    refine region_wl ?_
    refine do_ rfl (.int .i64 0) (ex_move _) ?_
    simp only [pS, pN, pA, pC, pZ]
    refine wl_nil (hK83 _ _ ?_)
    refine wp_block ?_
    have S64 : St w F w63 F37 [⟨n42, ((stirsL Xm 0).map laneV), 147⟩] [] := by rw [stirs_zero]; exact S64
    refine wp_loop_g (fun mm aa w85 => ∃ (q : Nat) (u84 : Nat → Value), mm = 24 - q ∧ u84 = slots aa ∧ aa = ⟨#[(.slice x b.length y), undef, (.slice none 0 0), (.slice ra rn rc), (.pointer (some ⟨n42, 0, none⟩)), (u59 5), (u84 6), undef, undef, (.slice x b.length y), v4, (.slice (some ⟨n8, 0, none⟩) 1 1), v11, (.slice (some ⟨g31, 0, none⟩) (padK b (padN b)).length cap27), (.int .i64 (((padK b (padN b)).length : Nat) : Int)), (.int .i64 ((((padK b (padN b)).length % 136) : Nat) : Int)), (.bool false), (u16 17), (u16 18), (u16 19), (.slice (some ⟨g31, 0, none⟩) (padK b (padN b)).length cap27), (.slice (some ⟨g31, 0, none⟩) (padK b (padN b)).length cap27), (.int .i64 (((padK b (padN b)).length : Nat) : Int)), (.int .i64 ((((padK b (padN b)).length - 1) : Nat) : Int)), (.pointer (some ⟨g31, 0 + ((padK b (padN b)).length - 1) * 1, none⟩)), (bv xb), (bv (xb ||| 128)), (.pointer (some ⟨g31, 0 + ((padK b (padN b)).length - 1) * 1, none⟩)), (.slice ra rn rc), (.int .i64 ((rn : Nat) : Int)), (.bool true), (u46 31), (u46 32), (.int .i64 136), (.bool false), (u59 35), (u59 36), (u59 37), (u59 38), (u59 39), (u59 40), (u59 41), (u59 42), (u59 43), (u59 44), (u59 45), (u59 46), (u59 47), (u59 48), (u59 49), (u59 50), (u59 51), (.int .i64 ((q : Nat) : Int)), (u84 53), (u84 54), (u84 55), (u84 56), (u84 57), undef, undef, undef, undef, undef, undef, undef, undef, undef, undef, undef, undef, undef, undef, undef, undef, undef, undef, undef, undef], []⟩ ∧ St w F w85 F37 [⟨n42, ((stirsL Xm q).map laneV), 147⟩] [] ∧ (q ≤ 24)) _ ⟨0, _, rfl, rfl, rfl, S64, (by omega)⟩ ?_
    rintro m86 a87 w88 ⟨q, u84, rfl, -, rfl, S89, hq⟩ K91 hK91
    refine wp_seq_k (fun K92 hK92 => region_wl ?_)
    by_cases hc53 : q < 24
    ·refine do_ rfl (.bool true) (ex_lss (m := ((q : Nat) : Int)) (n := (24 : Int)) (b := true) rfl rfl (decide_eq_true (by omega))) ?_
     simp only [pS, pN, pA, pC, pZ]
     refine wl_nil (hK92 _ _ ?_)
     refine wp_seq_k (fun K93 hK93 => ?_)
     refine wp_cond_true rfl ?_
     refine wp_skip ?_
     refine hK93 _ _ ?_
     refine wp_seq_k (fun K94 hK94 => ?_)
     refine wp_block ?_
     refine wp_seq_k (fun K95 hK95 => region_wl ?_)
     refine do_ rfl (.int .i64 ((q : Nat) : Int)) (ex_move _) ?_
     simp only [pS, pN, pA, pC, pZ]
     refine do_ rfl (.int .i64 ((q : Nat) : Int)) (ex_assign _) ?_
     simp only [pS, pN, pA, pC, pZ]
     refine wl_nil (hK95 _ _ ?_)
     refine region_wl ?_
     refine do_ rfl (.int .i64 ((q : Nat) : Int)) (ex_move _) ?_
     simp only [pS, pN, pA, pC, pZ]
     refine stStir rfl (ex_fn (vs := #[(.pointer (some ⟨n42, 0, none⟩)), (.int .i64 ((q : Nat) : Int))]) (map2 rfl rfl) rfl (ent_95 _ _)) (stir_spec S89 (stirs_len hXl _) hT (by omega)) (fun w96 S97 => ?_)
     simp only [pS, pN, pA, pC, pZ]
     have S97 : St w F w96 F37 [⟨n42, ((stirL (stirsL Xm q) q).map laneV), 147⟩] [] := S97
     rw [stirs_step] at S97
     refine wl_nil (hK94 _ _ ?_)
     refine region_wl ?_
     refine do_ rfl (.int .i64 (((q + 1) : Nat) : Int)) (ex_add (m := ((q : Nat) : Int)) (n := (1 : Int)) (r := (((q + 1) : Nat) : Int)) rfl rfl (by omega) (by omega) (by omega)) ?_
     simp only [pS, pN, pA, pC, pZ]
     refine do_ rfl (.int .i64 (((q + 1) : Nat) : Int)) (ex_move _) ?_
     simp only [pS, pN, pA, pC, pZ]
     refine wl_nil ?_
     exact hK91 _ _ _ (by omega) ⟨(q + 1), _, rfl, rfl, rfl, S97, (by omega)⟩
    ·refine do_ rfl (.bool false) (ex_lss (m := ((q : Nat) : Int)) (n := (24 : Int)) (b := false) rfl rfl (decide_eq_false (by omega))) ?_
     simp only [pS, pN, pA, pC, pZ]
     refine wl_nil (hK92 _ _ ?_)
     refine wp_seq_k (fun K98 hK98 => ?_)
     refine wp_cond_false rfl ?_
     refine wp_exit ?_
     refine hK56 _ _ ?_
     obtain rfl : q = 24 := by omega
     refine region_wl ?_
     refine do_ rfl (.slice ra rn rc) (ex_move _) ?_
     simp only [pS, pN, pA, pC, pZ]
     have hcap : rest.length ≤ rc := by obtain ⟨_, _, e, q, _⟩ := hrest.shape; injection e with _ _ e; rw [e]; exact q
     have r99 : Bs _ (.slice (if rc = 136 then ra else ra.map (·.add (136 * 1))) (rn - 136) (rc - 136)) (rest.drop 136) := Bs.restD hrest (by omega)
     refine do_ rfl (.slice (if rc = 136 then ra else ra.map (·.add (136 * 1))) (rn - 136) (rc - 136)) (ex_slice (l := 136) (h := rn) (sz := 1) Tryd.underlying23 rfl (sizeof_5 _) (.inr ⟨_, rfl, rfl⟩) (.inl ⟨rfl, rfl⟩) (by omega) (by omega) (rfl)) ?_
     simp only [pS, pN, pA, pC, pZ]
     refine do_ rfl (.slice (if rc = 136 then ra else ra.map (·.add (136 * 1))) (rn - 136) (rc - 136)) (ex_assign _) ?_
     simp only [pS, pN, pA, pC, pZ]
     refine wl_nil ?_
     have hdl : (rest.drop 136).length = rest.length - 136 := by simp
     exact hK53 _ _ _ (by omega) ⟨(stirsL Xm 24), (if rc = 136 then ra else ra.map (·.add (136 * 1))), (rn - 136), (rc - 136), (rest.drop 136), _, rfl, rfl, rfl, S89, (stirs_len hXl 24), r99, (by omega), (by omega), (absorb_at hXm (by omega) hab)⟩
  ·refine do_ rfl (.bool false) (ex_gtr (m := ((rn : Nat) : Int)) (n := (0 : Int)) (b := false) rfl rfl (decide_eq_false (by omega))) ?_
   simp only [pS, pN, pA, pC, pZ]
   refine wl_nil (hK55 _ _ ?_)
   refine wp_cond_false rfl ?_
   refine wp_exit ?_
   refine hK45 _ _ ?_
   refine wp_seq_k (fun K100 hK100 => ?_)
   have hZa := absorb_end (by omega) hab
   refine region_wl ?_
   refine stMake (k := 1) (n := 32) (m := 32) S51 rfl i5 (.int .u8 0) 1 Tryd.underlying23 hi5 hz5 hs5 hb5 rfl rfl (by omega) (by omega) (by omega) ?_
   intro g101 w102 S103
   rw [made_bytes] at S103
   simp only [pS, pN, pA, pC, pZ]
   have S103 : St w F w102 F37 [⟨g101, ((List.replicate 32 (0 : UInt8)).map bv), 5⟩, ⟨n42, (Z.map laneV), 147⟩] [] := S103
   have S103 : St w F w102 F37 [⟨g101, ((outK Z 0).map bv), 5⟩, ⟨n42, (Z.map laneV), 147⟩] [] := by rw [outK_zero]; exact S103
   refine do_ rfl (.slice (some ⟨g101, 0, none⟩) 32 32) (ex_assign _) ?_
   simp only [pS, pN, pA, pC, pZ]
   refine wl_nil (hK100 _ _ ?_)
   refine wp_seq_k (fun K104 hK104 => ?_)
   refine wp_seq_k (fun K105 hK105 => region_wl ?_)
   refine do_ rfl (.slice (some ⟨g101, 0, none⟩) 32 32) (ex_move _) ?_
   simp only [pS, pN, pA, pC, pZ]
   refine do_ rfl (.int .i64 32) (ex_len Tryd.underlying23 rfl) ?_
   simp only [pS, pN, pA, pC, pZ]
   refine do_ rfl (.int .i64 0) (ex_move _) ?_
   simp only [pS, pN, pA, pC, pZ]
   refine wl_nil (hK105 _ _ ?_)
   refine wp_block ?_
   refine wp_loop_g (fun mm aa w107 => ∃ (j : Nat) (u106 : Nat → Value), mm = 32 - j ∧ u106 = slots aa ∧ aa = ⟨#[(.slice x b.length y), undef, (.slice none 0 0), (.slice ra rn rc), (.pointer (some ⟨n42, 0, none⟩)), (u46 5), (u46 6), (.slice (some ⟨g101, 0, none⟩) 32 32), (u106 8), (.slice x b.length y), v4, (.slice (some ⟨n8, 0, none⟩) 1 1), v11, (.slice (some ⟨g31, 0, none⟩) (padK b (padN b)).length cap27), (.int .i64 (((padK b (padN b)).length : Nat) : Int)), (.int .i64 ((((padK b (padN b)).length % 136) : Nat) : Int)), (.bool false), (u16 17), (u16 18), (u16 19), (.slice (some ⟨g31, 0, none⟩) (padK b (padN b)).length cap27), (.slice (some ⟨g31, 0, none⟩) (padK b (padN b)).length cap27), (.int .i64 (((padK b (padN b)).length : Nat) : Int)), (.int .i64 ((((padK b (padN b)).length - 1) : Nat) : Int)), (.pointer (some ⟨g31, 0 + ((padK b (padN b)).length - 1) * 1, none⟩)), (bv xb), (bv (xb ||| 128)), (.pointer (some ⟨g31, 0 + ((padK b (padN b)).length - 1) * 1, none⟩)), (.slice ra rn rc), (.int .i64 ((rn : Nat) : Int)), (.bool false), (u46 31), (u46 32), (u46 33), (u46 34), (u46 35), (u46 36), (u46 37), (u46 38), (u46 39), (u46 40), (u46 41), (u46 42), (u46 43), (u46 44), (u46 45), (u46 46), (u46 47), (u46 48), (u46 49), (u46 50), (u46 51), (u46 52), (u46 53), (u46 54), (u46 55), (u46 56), (u46 57), (.slice (some ⟨g101, 0, none⟩) 32 32), (.slice (some ⟨g101, 0, none⟩) 32 32), (.int .i64 32), (.int .i64 ((j : Nat) : Int)), (u106 62), (u106 63), (u106 64), (u106 65), (u106 66), (u106 67), (u106 68), (u106 69), (u106 70), (u106 71), (u106 72), (u106 73), (u106 74), (u106 75), (u106 76), undef], []⟩ ∧ St w F w107 F37 [⟨g101, ((outK Z j).map bv), 5⟩, ⟨n42, (Z.map laneV), 147⟩] [] ∧ (j ≤ 32)) _ ⟨0, _, rfl, rfl, rfl, S103, (by omega)⟩ ?_
   rintro m108 a109 w110 ⟨j, u106, rfl, -, rfl, S111, hj⟩ K113 hK113
   refine wp_seq_k (fun K114 hK114 => region_wl ?_)
   by_cases hc62 : j < 32
   ·refine do_ rfl (.bool true) (ex_lss (m := ((j : Nat) : Int)) (n := (32 : Int)) (b := true) rfl rfl (decide_eq_true (by omega))) ?_
    simp only [pS, pN, pA, pC, pZ]
    refine wl_nil (hK114 _ _ ?_)
    refine wp_seq_k (fun K115 hK115 => ?_)
    refine wp_cond_true rfl ?_
    refine wp_skip ?_
    refine hK115 _ _ ?_
    refine wp_seq_k (fun K116 hK116 => ?_)
    refine wp_block ?_
    refine wp_seq_k (fun K117 hK117 => region_wl ?_)
    refine do_ rfl (.int .i64 ((j : Nat) : Int)) (ex_move _) ?_
    simp only [pS, pN, pA, pC, pZ]
    refine do_ rfl (.int .i64 ((j : Nat) : Int)) (ex_assign _) ?_
    simp only [pS, pN, pA, pC, pZ]
    refine wl_nil (hK117 _ _ ?_)
    refine region_wl ?_
    refine do_ rfl (.slice (some ⟨g101, 0, none⟩) 32 32) (ex_move _) ?_
    simp only [pS, pN, pA, pC, pZ]
    refine do_ rfl (.int .i64 ((j : Nat) : Int)) (ex_move _) ?_
    simp only [pS, pN, pA, pC, pZ]
    refine do_ rfl (.int .i64 ((j : Nat) : Int)) (ex_move _) ?_
    simp only [pS, pN, pA, pC, pZ]
    refine do_ rfl (.int .i64 (((j / 8) : Nat) : Int)) (ex_quoA (m := j) (n := 8) rfl rfl (by decide) (by omega)) ?_
    simp only [pS, pN, pA, pC, pZ]
    refine do_ rfl (.pointer (some ⟨n42, (j / 8), none⟩)) (ex_atA (i := (j / 8)) Tryd.underlying147 (sizeof_145 _) rfl rfl (by omega)) ?_
    simp only [pS, pN, pA, pC, pZ]
    refine do_ rfl (laneV (at0 Z (j / 8))) (ex_load rfl (load1 (nagg_145 _) (St.cell S111 (i := 1) rfl (lanes_at (Nat.lt_of_lt_of_eq (show (j / 8) < 25 by omega) hZ.symm))))) ?_
    simp only [pS, pN, pA, pC, pZ]
    refine do_ rfl (.int .i64 ((j : Nat) : Int)) (ex_move _) ?_
    simp only [pS, pN, pA, pC, pZ]
    refine do_ rfl (.int .i64 (((j % 8) : Nat) : Int)) (ex_remA (m := j) (n := 8) rfl rfl (by decide) (by omega)) ?_
    simp only [pS, pN, pA, pC, pZ]
    refine do_ rfl (.int .i64 ((((j % 8) * 8) : Nat) : Int)) (ex_mul (m := (((j % 8) : Nat) : Int)) (n := (8 : Int)) (r := ((((j % 8) * 8) : Nat) : Int)) rfl rfl (by omega) (by omega) (by omega)) ?_
    simp only [pS, pN, pA, pC, pZ]
    refine do_ rfl (laneV ((at0 Z (j / 8)) >>> ((j % 8) * 8))) (ex_shrL (n := ((j % 8) * 8)) rfl rfl (by omega)) ?_
    simp only [pS, pN, pA, pC, pZ]
    refine do_ rfl (bv (UInt8.ofNat (((at0 Z (j / 8)) >>> ((j % 8) * 8)).toNat % 256))) (ex_convert (v := (laneV ((at0 Z (j / 8)) >>> ((j % 8) * 8)))) rfl (conv_low ((at0 Z (j / 8)) >>> ((j % 8) * 8)) _)) ?_
    simp only [pS, pN, pA, pC, pZ]
    refine do_ rfl (.pointer (some ⟨g101, 0 + j * 1, none⟩)) (ex_at (i := j) (sz := 1) Tryd.underlying23 (sizeof_5 _) rfl rfl rfl (by omega) rfl) ?_
    simp only [pS, pN, pA, pC, pZ]
    refine stStore (i := 0) (v := bv (UInt8.ofNat (((at0 Z (j / 8)) >>> ((j % 8) * 8)).toNat % 256))) S111 rfl rfl rfl rfl (size_5) (allc1 rfl) (by rw [List.length_map, outK_len]; show 0 + j * 1 + 1 ≤ 32; omega) (fun w118 S119 => ?_)
    simp only [pS, pN, pA, pC, pZ]
    have S119 : St w F w118 F37 [⟨g101, (splice ((outK Z j).map bv) (0 + j * 1) [bv (UInt8.ofNat (((at0 Z (j / 8)) >>> ((j % 8) * 8)).toNat % 256))]), 5⟩, ⟨n42, (Z.map laneV), 147⟩] [] := S119
    rw [Nat.zero_add, Nat.mul_one, bytes_set (by rw [outK_len]; omega)] at S119
    have S119 : St w F w118 F37 [⟨g101, (((outK Z j).set j (outAt Z j)).map bv), 5⟩, ⟨n42, (Z.map laneV), 147⟩] [] := S119
    rw [outK_step Z (by omega)] at S119
    refine wl_nil (hK116 _ _ ?_)
    refine region_wl ?_
    refine do_ rfl (.int .i64 (((j + 1) : Nat) : Int)) (ex_add (m := ((j : Nat) : Int)) (n := (1 : Int)) (r := (((j + 1) : Nat) : Int)) rfl rfl (by omega) (by omega) (by omega)) ?_
    simp only [pS, pN, pA, pC, pZ]
    refine do_ rfl (.int .i64 (((j + 1) : Nat) : Int)) (ex_move _) ?_
    simp only [pS, pN, pA, pC, pZ]
    refine wl_nil ?_
    exact hK113 _ _ _ (by omega) ⟨(j + 1), _, rfl, rfl, rfl, S119, (by omega)⟩
   ·refine do_ rfl (.bool false) (ex_lss (m := ((j : Nat) : Int)) (n := (32 : Int)) (b := false) rfl rfl (decide_eq_false (by omega))) ?_
    simp only [pS, pN, pA, pC, pZ]
    refine wl_nil (hK114 _ _ ?_)
    refine wp_seq_k (fun K120 hK120 => ?_)
    refine wp_cond_false rfl ?_
    refine wp_exit ?_
    refine hK104 _ _ ?_
    refine wp_seq_k (fun K121 hK121 => ?_)
    obtain rfl : j = 32 := by omega
    rw [outK_all] at S111
    refine region_wl ?_
    refine do_ rfl (.slice (some ⟨g101, 0, none⟩) 32 32) (ex_move _) ?_
    simp only [pS, pN, pA, pC, pZ]
    refine do_ rfl (.slice (some ⟨g101, 0, none⟩) 32 32) (ex_assign _) ?_
    simp only [pS, pN, pA, pC, pZ]
    refine wl_nil (hK121 _ _ ?_)
    refine wp_ret ?_
    (try simp only [Exit.then, Exit.inBlock, ↓reduceIte, Nat.reduceEqDiff])
    refine bodyPost_ret (v := (.slice (some ⟨g101, 0, none⟩) 32 32)) ?_ rfl ?_
    ·exact res_t rfl rfl
    ·have hB := St.blkRow (k := 1) (l := outL Z) (el := (outL Z).map fun b => [bv b]) (hR := ByC.mono) (cap := 32) S111 (by rw [bytes_flat, List.take_of_length_le (by rw [List.length_map, outL_len]; decide)]) (allR_bytes _ _) (by simp) (by rw [List.length_map, outL_len]) (by rw [outL_len]; decide) (by unfold maxLen; decide) (S111.blk _ (List.mem_cons_self ..)).2.2
     rw [outL_len] at hB
     refine ⟨_, _, rfl, hB.gr, ?_⟩
     have hO := St.own (i := 0) hB rfl
     unfold sumL
     rw [← hZa]
     exact hO
 ·refine do_ rfl (.bool true) (ex_neq (m := ((((padK b k).length % 136) : Nat) : Int)) (n := (0 : Int)) (b := true) rfl rfl (bne_iff_ne.2 (by omega))) ?_
  simp only [pS, pN, pA, pC, pZ]
  refine wl_nil (hK25 _ _ ?_)
  refine wp_cond_true rfl ?_
  refine wp_skip ?_
  refine hK24 _ _ ?_
  refine wp_block ?_
  refine region_wl ?_
  refine do_ rfl (.slice a26 (padK b k).length cap27) (ex_move _) ?_
  simp only [pS, pN, pA, pC, pZ]
  refine stNew S21 (v := fun n => .slice (some ⟨n, 0, none⟩) 1 1) rfl (ex_lit (ps := #[(0, (.int .u8 0))]) (cells := #[(.int .u8 0)]) (E := 5) (bmap1 rfl) (fun w => by kernel_rfl)) (fun n122 w123 S124 => ?_)
  simp only [pS, pN, pA, pC, pZ]
  have S124 : St w F w123 F [⟨n122, [(.int .u8 0)], 5⟩] [ownP 1 ByC ByC.mono 5 w.heap.size (.slice a26 (padK b k).length cap27) (padK b k)] := S124
  refine stPush (i := 0) (r := 0) (p := (0 : UInt8)) (cs := [(.int .u8 0)]) S124 rfl i5 (.int .u8 0) 1 Tryd.underlying23 hi5 hz5 hs5 hb5 rfl (by decide) rfl rfl rfl rfl rfl (bv_one 0) (rfl) (Nat.le_refl _) S124.gr.below.size (by unfold maxLen; omega) (by omega) ?_
  intro v125 w126 S127 hn128
  simp only [pS, pN, pA, pC, pZ]
  have S127 := St.drop S127 (L' := []) (.cons _ (List.Sublist.refl _))
  have S127 : St w F w126 F [] [ownP 1 ByC ByC.mono 5 w.heap.size v125 ((padK b k) ++ [(0 : UInt8)])] := S127
  refine do_ rfl v125 (ex_assign _) ?_
  simp only [pS, pN, pA, pC, pZ]
  refine wl_nil ?_
  rw [padK_step] at S127
  have hk2 : k + 1 ≤ padN b := by unfold padN at *; omega
  exact hK23 _ _ _ (by omega) ⟨(k + 1), v125, _, rfl, rfl, rfl, S127, hk2⟩
theorem sum_spec (F : Fz) (w : World) (v : Value) (b : By) (hs : Sat w F) (hT : Tabs w) (hb : Bs F v b) (hn : b.length ≤ 100000) :
    Calls Tryd.prog 72 #[v] w (Gives w F fun F' u => Bs F' u (sumL b)) :=
  (gives_of_own ByC.mono (sum_own F w v b hs hT hb hn)).mono fun e w' ⟨u, F', he, g, hu⟩ => ⟨u, F', he, g, bs_of_sl hu⟩
end Go.Proofs.YtikklmjengkliaaDoor
namespace Go.Proofs.YtikklmjengkliaaDoor
open Go.RowKit
set_option maxRecDepth 100000
set_option linter.unusedVariables false
set_option linter.unusedSimpArgs false
/-- A slice of byte slices. -/
def LsC (F : Fz) (cs : List Value) (p : By) : Prop := ∃ a, cs = [a] ∧ Bs F a p
theorem LsC.mono (F F' : Fz) (x : List Value) (p : By) (hl : Le F F') (h : LsC F x p) : LsC F' x p := by
  obtain ⟨a, h1, h2⟩ := h
  exact ⟨a, h1, h2.mono hl⟩
abbrev Lss (F : Fz) (v : Value) (l : List By) : Prop := Sl 1 LsC F v l
theorem Lss.get {F : Fz} {a : Option Addr} {n c : Nat} {l : List By} (h : Lss F (.slice a n c) l) {i : Nat} {p : By} (hp : l[i]? = some p) :
    ∃ b o, a = some ⟨b, o, none⟩ ∧ ∃ xa xc, cellF F b (o + i * 1) = some (.slice xa p.length xc) ∧ Bs F (.slice xa p.length xc) p := by
  obtain ⟨hi, rfl⟩ := List.getElem?_eq_some_iff.1 hp
  have hn := h.len
  obtain ⟨b, o, e, h1⟩ := Sl.at h (by omega) (by omega)
  obtain ⟨cs, q1, ⟨x, rfl, r1⟩, q4⟩ := h1 i hi
  obtain ⟨xa, xc, rfl, _⟩ := r1.shape
  exact ⟨b, o, e, xa, xc, by have := q4 0 (by simp); simpa using this, r1⟩
theorem Lss.mono {F F' : Fz} {v : Value} {l : List By} (h : Lss F v l) (hl : Le F F') : Lss F' v l := Sl.mono LsC.mono h hl
def SumR (b : By) (e : Int) (F : Fz) (u : Value) : Prop := ∃ x, u = .tuple #[x, .int .i64 e] ∧ Bs F x b
theorem partB_eq (p : By) (h : p.length < 65536) : partB p = b8 (p.length / 256) :: b8 p.length :: p := by
  unfold partB b8
  congr 2
  apply UInt8.toNat_inj.1; simp
theorem partB_len (p : By) : (partB p).length = 2 + p.length := by simp [partB]; omega
theorem parts_step {k : UInt8} {ps : List By} {i : Nat} {p : By} (hp : ps[i]? = some p) (h : p.length < 65536) : ((k :: (ps.take i).flatMap partB) ++ [b8 (p.length / 256), b8 p.length]) ++ p = k :: (ps.take (i + 1)).flatMap partB := by
  rw [take_snoc hp, List.flatMap_append]
  simp [partB_eq p h]
theorem parts_len {ps : List By} (i : Nat) : ((ps.take i).flatMap partB).length ≤ (ps.flatMap partB).length := by
  conv => rhs; rw [← List.take_append_drop i ps, List.flatMap_append, List.length_append]
  omega
theorem parts_at {ps : List By} {i : Nat} {p : By} (hp : ps[i]? = some p) : ((ps.take i).flatMap partB).length + 2 + p.length ≤ (ps.flatMap partB).length := by
  have := parts_len (ps := ps) (i + 1)
  rw [take_snoc hp, List.flatMap_append, List.length_append] at this
  simp only [List.flatMap_cons, List.flatMap_nil, List.append_nil, partB_len] at this
  omega
set_option maxHeartbeats 8000000 in
theorem Parts_spec (F : Fz) (w : World) (v : Value) (kd : UInt8) (ps : List By) (hs : Sat w F) (hT : Tabs w) (hp : Lss F v ps) (hn : (ps.flatMap partB).length ≤ 3999) :
    Calls Tryd.prog 43 #[bv kd, v] w (Gives w F (SumR (partsL kd ps) 0)) := by
 obtain ⟨x, y, rfl, hc1', hc2'⟩ := Sl.shape hp
 unfold maxLen at hc2'
 obtain ⟨i5, hi5, hz5, hs5, hb5⟩ := info_parts infoU8
 have S := St.start hs
 go_enter Tryd.func43, Tryd.ntmps43
 refine wp_seq_k (fun K1 hK1 => region_wl ?_)
 refine do_ rfl (.slice none 0 0) (ex_assign _) ?_
 simp only [pS, pN, pA, pC, pZ]
 refine do_ rfl (.int .i64 0) (ex_assign _) ?_
 simp only [pS, pN, pA, pC, pZ]
 refine wl_nil (hK1 _ _ ?_)
 refine wp_seq_k (fun K2 hK2 => region_wl ?_)
 refine do_ rfl (bv kd) (ex_move _) ?_
 simp only [pS, pN, pA, pC, pZ]
 refine stNew S (v := fun n => .slice (some ⟨n, 0, none⟩) 1 1) rfl (ex_lit (ps := #[(0, (bv kd))]) (cells := #[(bv kd)]) (E := 5) (bmap1 rfl) (fun w => by kernel_rfl)) (fun n3 w4 S5 => ?_)
 simp only [pS, pN, pA, pC, pZ]
 have S5 : St w F w4 F [⟨n3, [(bv kd)], 5⟩] [] := S5
 refine do_ rfl (.slice (some ⟨n3, 0, none⟩) 1 1) (ex_assign _) ?_
 simp only [pS, pN, pA, pC, pZ]
 refine wl_nil (hK2 _ _ ?_)
 refine wp_seq_k (fun K6 hK6 => ?_)
 refine wp_seq_k (fun K7 hK7 => region_wl ?_)
 refine do_ rfl (.slice x ps.length y) (ex_move _) ?_
 simp only [pS, pN, pA, pC, pZ]
 refine do_ rfl (.int .i64 ((ps.length : Nat) : Int)) (ex_len Tryd.underlying119 rfl) ?_
 simp only [pS, pN, pA, pC, pZ]
 refine do_ rfl (.int .i64 0) (ex_move _) ?_
 simp only [pS, pN, pA, pC, pZ]
 refine wl_nil (hK7 _ _ ?_)
 refine wp_block ?_
 have S8 : St w F w4 F [] [ownP 1 ByC ByC.mono 5 w.heap.size (.slice (some ⟨n3, 0, none⟩) 1 1) [kd]] := St.blkRow (k := 1) (l := [kd]) (el := [[bv kd]]) (hR := ByC.mono) S5 rfl ⟨rfl, trivial⟩ (by simp) rfl (by simp) (by unfold maxLen; decide) (S5.blk _ (List.mem_cons_self ..)).2.2
 have S8 : St w F w4 F [] [ownP 1 ByC ByC.mono 5 w.heap.size (.slice (some ⟨n3, 0, none⟩) 1 1) (kd :: (ps.take 0).flatMap partB)] := S8
 refine wp_loop_g (fun mm aa w11 => ∃ (k : Nat) (v : Value) (F9 : Fz) (u10 : Nat → Value), mm = ps.length - k ∧ u10 = slots aa ∧ aa = ⟨#[(bv kd), (.slice x ps.length y), undef, undef, (u10 4), (u10 5), v, undef, (u10 8), (bv kd), (.slice (some ⟨n3, 0, none⟩) 1 1), (.slice x ps.length y), (.int .i64 ((ps.length : Nat) : Int)), (.int .i64 ((k : Nat) : Int)), (u10 14), (u10 15), (u10 16), (u10 17), (u10 18), (u10 19), (u10 20), (u10 21), (u10 22), (u10 23), (u10 24), (u10 25), (u10 26), (u10 27), (u10 28), (u10 29), (u10 30), (u10 31), (u10 32), (u10 33), (u10 34), (u10 35), (u10 36), (u10 37), (u10 38), (u10 39), (u10 40), (u10 41), undef, undef], []⟩ ∧ St w F w11 F9 [] [ownP 1 ByC ByC.mono 5 w.heap.size v (kd :: (ps.take k).flatMap partB)] ∧ Le F F9 ∧ (k ≤ ps.length)) _ ⟨0, (.slice (some ⟨n3, 0, none⟩) 1 1), F, _, rfl, rfl, rfl, S8, Le.refl _, (by omega)⟩ ?_
 rintro m12 a13 w14 ⟨k, v, F9, u10, rfl, -, rfl, S15, le16, hk⟩ K17 hK17
 refine wp_seq_k (fun K18 hK18 => region_wl ?_)
 by_cases hc14 : k < ps.length
 ·refine do_ rfl (.bool true) (ex_lss (m := ((k : Nat) : Int)) (n := ((ps.length : Nat) : Int)) (b := true) rfl rfl (decide_eq_true (by omega))) ?_
  simp only [pS, pN, pA, pC, pZ]
  refine wl_nil (hK18 _ _ ?_)
  refine wp_seq_k (fun K19 hK19 => ?_)
  refine wp_cond_true rfl ?_
  refine wp_skip ?_
  refine hK19 _ _ ?_
  refine wp_seq_k (fun K20 hK20 => ?_)
  refine wp_block ?_
  refine wp_seq_k (fun K21 hK21 => ?_)
  obtain ⟨p, hp1⟩ : ∃ p, ps[k]? = some p := ⟨ps[k], List.getElem?_eq_getElem hc14⟩
  have hat := parts_at hp1
  obtain ⟨b22, o23, ha24, xa25, xc26, c27, r28⟩ := Lss.get (hp.mono le16) hp1
  refine region_wl ?_
  refine do_ rfl (.pointer (some ⟨b22, o23 + k * 1, none⟩)) (ex_at (i := k) (sz := 1) Tryd.underlying119 (sizeof_23 _) rfl ha24 rfl (by omega) rfl) ?_
  simp only [pS, pN, pA, pC, pZ]
  refine do_ rfl (.slice xa25 p.length xc26) (ex_load rfl (load1 (nagg_23 _) (St.fz S15 c27))) ?_
  simp only [pS, pN, pA, pC, pZ]
  refine do_ rfl (.slice xa25 p.length xc26) (ex_assign _) ?_
  simp only [pS, pN, pA, pC, pZ]
  refine wl_nil (hK21 _ _ ?_)
  refine wp_seq_k (fun K29 hK29 => ?_)
  refine wp_seq_k (fun K30 hK30 => ?_)
  obtain ⟨a31, cap32, rfl, h33, h34⟩ := (S15.own (i := 0) rfl).shape
  unfold maxLen at h34
  have hlen : (kd :: (ps.take k).flatMap partB).length = 1 + ((ps.take k).flatMap partB).length := by rw [List.length_cons]; omega
  refine region_wl ?_
  refine do_ rfl (.slice xa25 p.length xc26) (ex_move _) ?_
  simp only [pS, pN, pA, pC, pZ]
  refine do_ rfl (.int .i64 ((p.length : Nat) : Int)) (ex_len Tryd.underlying23 rfl) ?_
  simp only [pS, pN, pA, pC, pZ]
  refine do_ rfl (.bool false) (ex_gtr (m := ((p.length : Nat) : Int)) (n := (4000 : Int)) (b := false) rfl rfl (decide_eq_false (by omega))) ?_
  simp only [pS, pN, pA, pC, pZ]
  refine do_ rfl (.bool false) (ex_move _) ?_
  simp only [pS, pN, pA, pC, pZ]
  refine do_ rfl (.slice a31 (kd :: (ps.take k).flatMap partB).length cap32) (ex_move _) ?_
  simp only [pS, pN, pA, pC, pZ]
  refine do_ rfl (.int .i64 (((kd :: (ps.take k).flatMap partB).length : Nat) : Int)) (ex_len Tryd.underlying23 rfl) ?_
  simp only [pS, pN, pA, pC, pZ]
  refine do_ rfl (.int .i64 ((((kd :: (ps.take k).flatMap partB).length + 2) : Nat) : Int)) (ex_add (m := (((kd :: (ps.take k).flatMap partB).length : Nat) : Int)) (n := (2 : Int)) (r := ((((kd :: (ps.take k).flatMap partB).length + 2) : Nat) : Int)) rfl rfl (by omega) (by omega) (by omega)) ?_
  simp only [pS, pN, pA, pC, pZ]
  refine do_ rfl (.slice xa25 p.length xc26) (ex_move _) ?_
  simp only [pS, pN, pA, pC, pZ]
  refine do_ rfl (.int .i64 ((p.length : Nat) : Int)) (ex_len Tryd.underlying23 rfl) ?_
  simp only [pS, pN, pA, pC, pZ]
  refine do_ rfl (.int .i64 (((((kd :: (ps.take k).flatMap partB).length + 2) + p.length) : Nat) : Int)) (ex_add (m := ((((kd :: (ps.take k).flatMap partB).length + 2) : Nat) : Int)) (n := ((p.length : Nat) : Int)) (r := (((((kd :: (ps.take k).flatMap partB).length + 2) + p.length) : Nat) : Int)) rfl rfl (by omega) (by omega) (by omega)) ?_
  simp only [pS, pN, pA, pC, pZ]
  refine do_ rfl (.bool false) (ex_gtr (m := (((((kd :: (ps.take k).flatMap partB).length + 2) + p.length) : Nat) : Int)) (n := (4000 : Int)) (b := false) rfl rfl (decide_eq_false (by omega))) ?_
  simp only [pS, pN, pA, pC, pZ]
  refine do_ rfl (.bool false) (ex_pick (b := false) rfl) ?_
  simp only [pS, pN, pA, pC, pZ]
  refine wl_nil (hK30 _ _ ?_)
  refine wp_cond_false rfl ?_
  refine wp_skip ?_
  refine hK29 _ _ ?_
  refine region_wl ?_
  refine do_ rfl (.slice a31 (kd :: (ps.take k).flatMap partB).length cap32) (ex_move _) ?_
  simp only [pS, pN, pA, pC, pZ]
  refine do_ rfl (.slice xa25 p.length xc26) (ex_move _) ?_
  simp only [pS, pN, pA, pC, pZ]
  refine do_ rfl (.int .i64 ((p.length : Nat) : Int)) (ex_len Tryd.underlying23 rfl) ?_
  simp only [pS, pN, pA, pC, pZ]
  refine do_ rfl (.int .i64 (((p.length / 256) : Nat) : Int)) (ex_shrN (m := p.length) (n := 8) rfl rfl (by decide)) ?_
  simp only [pS, pN, pA, pC, pZ]
  refine do_ rfl (bv (b8 (p.length / 256))) (ex_convert (v := (.int .i64 (((p.length / 256) : Nat) : Int))) rfl (conv_b8 (p.length / 256) _)) ?_
  simp only [pS, pN, pA, pC, pZ]
  refine do_ rfl (.slice xa25 p.length xc26) (ex_move _) ?_
  simp only [pS, pN, pA, pC, pZ]
  refine do_ rfl (.int .i64 ((p.length : Nat) : Int)) (ex_len Tryd.underlying23 rfl) ?_
  simp only [pS, pN, pA, pC, pZ]
  refine do_ rfl (bv (b8 p.length)) (ex_convert (v := (.int .i64 ((p.length : Nat) : Int))) rfl (conv_b8 p.length _)) ?_
  simp only [pS, pN, pA, pC, pZ]
  refine stNew S15 (v := fun n => .slice (some ⟨n, 0, none⟩) 2 2) rfl (ex_lit (ps := #[(0, (bv (b8 (p.length / 256)))), (1, (bv (b8 p.length)))]) (cells := #[(bv (b8 (p.length / 256))), (bv (b8 p.length))]) (E := 5) (bmap2 rfl rfl) (fun w => by kernel_rfl)) (fun n35 w36 S37 => ?_)
  simp only [pS, pN, pA, pC, pZ]
  have S37 : St w F w36 F9 [⟨n35, [(bv (b8 (p.length / 256))), (bv (b8 p.length))], 5⟩] [ownP 1 ByC ByC.mono 5 w.heap.size (.slice a31 (kd :: (ps.take k).flatMap partB).length cap32) (kd :: (ps.take k).flatMap partB)] := S37
  obtain ⟨S38, le39, hc40⟩ := St.freezeBlk S37 (i := 0) rfl
  have r42 : Bs _ (.slice (some ⟨n35, 0, none⟩) 2 2) ([(b8 (p.length / 256)), (b8 p.length)] : By) := bs_of_block (l := ([(b8 (p.length / 256)), (b8 p.length)] : By)) hc40 rfl (by unfold maxLen; simp)
  generalize addF F9 w36 n35 = F41 at *
  have S38 : St w F w36 F41 [] [ownP 1 ByC ByC.mono 5 w.heap.size (.slice a31 (kd :: (ps.take k).flatMap partB).length cap32) (kd :: (ps.take k).flatMap partB)] := S38
  refine stAppendS (r := 0) (u := (.slice (some ⟨n35, 0, none⟩) 2 2)) S38 rfl i5 (.int .u8 0) 1 Tryd.underlying23 hi5 hz5 hs5 hb5 rfl (by decide) rfl rfl rfl (Sl.toW (Bs.sl r42) (S38).sat) ByC.one (Nat.le_refl _) S38.gr.below.size (by unfold maxLen; simp only [List.length_append, List.length_cons, List.length_nil]; omega) (by simp only [List.length_append, List.length_cons, List.length_nil]; omega) ?_
  intro v43 w44 S45 hn46
  simp only [pS, pN, pA, pC, pZ]
  have S45 : St w F w44 F41 [] [ownP 1 ByC ByC.mono 5 w.heap.size v43 ((kd :: (ps.take k).flatMap partB) ++ ([(b8 (p.length / 256)), (b8 p.length)] : By))] := S45
  refine do_ rfl (.slice xa25 p.length xc26) (ex_move _) ?_
  simp only [pS, pN, pA, pC, pZ]
  refine stAppendS (r := 0) (u := (.slice xa25 p.length xc26)) S45 rfl i5 (.int .u8 0) 1 Tryd.underlying23 hi5 hz5 hs5 hb5 rfl (by decide) rfl rfl rfl (Sl.toW (Bs.sl (r28.mono le39)) (S45).sat) ByC.one (Nat.le_refl _) S45.gr.below.size (by unfold maxLen; simp only [List.length_append, List.length_cons, List.length_nil]; omega) (by simp only [List.length_append, List.length_cons, List.length_nil]; omega) ?_
  intro v47 w48 S49 hn50
  simp only [pS, pN, pA, pC, pZ]
  have S49 : St w F w48 F41 [] [ownP 1 ByC ByC.mono 5 w.heap.size v47 (((kd :: (ps.take k).flatMap partB) ++ ([(b8 (p.length / 256)), (b8 p.length)] : By)) ++ p)] := S49
  refine do_ rfl v47 (ex_assign _) ?_
  simp only [pS, pN, pA, pC, pZ]
  refine wl_nil (hK20 _ _ ?_)
  refine region_wl ?_
  refine do_ rfl (.int .i64 (((k + 1) : Nat) : Int)) (ex_add (m := ((k : Nat) : Int)) (n := (1 : Int)) (r := (((k + 1) : Nat) : Int)) rfl rfl (by omega) (by omega) (by omega)) ?_
  simp only [pS, pN, pA, pC, pZ]
  refine do_ rfl (.int .i64 (((k + 1) : Nat) : Int)) (ex_move _) ?_
  simp only [pS, pN, pA, pC, pZ]
  refine wl_nil ?_
  rw [parts_step hp1 (by omega)] at S49
  exact hK17 _ _ _ (by omega) ⟨(k + 1), v47, F41, _, rfl, rfl, rfl, S49, (le16.trans le39), (by omega)⟩
 ·refine do_ rfl (.bool false) (ex_lss (m := ((k : Nat) : Int)) (n := ((ps.length : Nat) : Int)) (b := false) rfl rfl (decide_eq_false (by omega))) ?_
  simp only [pS, pN, pA, pC, pZ]
  refine wl_nil (hK18 _ _ ?_)
  refine wp_seq_k (fun K51 hK51 => ?_)
  refine wp_cond_false rfl ?_
  refine wp_exit ?_
  refine hK6 _ _ ?_
  refine wp_seq_k (fun K52 hK52 => ?_)
  have hend : ps.take k = ps := List.take_of_length_le (by omega)
  rw [hend] at S15
  have S15 : St w F w14 F9 [] [ownP 1 ByC ByC.mono 5 w.heap.size v (partsB kd ps)] := S15
  obtain ⟨a53, cap54, rfl, h55, h56⟩ := (S15.own (i := 0) rfl).shape
  unfold maxLen at h56
  obtain ⟨F57, S58, le59, hv60⟩ := St.freeze S15 (i := 0) rfl (Nat.le_refl _)
  have S58 : St w F w14 F57 [] [] := S58
  have hv60 : Bys _ (.slice a53 (partsB kd ps).length cap54) (partsB kd ps) := hv60
  have r61 := bs_of_sl hv60
  have hpl : (partsB kd ps).length = 1 + (ps.flatMap partB).length := by unfold partsB; rw [List.length_cons]; omega
  refine region_wl ?_
  refine do_ rfl (.slice a53 (partsB kd ps).length cap54) (ex_move _) ?_
  simp only [pS, pN, pA, pC, pZ]
  refine stGives S58 rfl (ex_fn (vs := #[(.slice a53 (partsB kd ps).length cap54)]) (map1 rfl) rfl (ent_72 _ _)) (sum_spec _ _ _ (partsB kd ps) (S58).sat (hT.at S58.gr.below) r61 (by omega)) ?_
  intro v67 w62 F64 S63 le65 R66
  obtain ⟨xa68, xc69, rfl, _⟩ := R66.shape
  simp only [pS, pN, pA, pC, pZ]
  refine do_ rfl (.slice xa68 (sumL (partsB kd ps)).length xc69) (ex_assign _) ?_
  simp only [pS, pN, pA, pC, pZ]
  refine do_ rfl (.int .i64 0) (ex_assign _) ?_
  simp only [pS, pN, pA, pC, pZ]
  refine wl_nil (hK52 _ _ ?_)
  refine wp_ret ?_
  (try simp only [Exit.then, Exit.inBlock, ↓reduceIte, Nat.reduceEqDiff])
  refine bodyPost_ret (v := (.tuple #[(.slice xa68 (sumL (partsB kd ps)).length xc69), (.int .i64 0)])) ?_ rfl ?_
  ·exact res_tt rfl rfl rfl
  ·exact ⟨_, _, rfl, S63.gr, _, rfl, R66⟩
end Go.Proofs.YtikklmjengkliaaDoor
