/- Rules, plain laws and walks: DG2 DG3 DG4 DG5 RT1 RT2 RP1 RP2 RP3 RU1 RU2 RV FR FP P14 TP5 TP6 -/
import Derived.Test.YtilgpdpooildcaaGreatDoorDB2
import Derived.Test.YtilgpdpooildcaaGreatDoorDB3
import Derived.Test.YtilgpdpooildcaaGreatDoorDB7
import Derived.Test.YtilgpdpooildcaaGreatDoorDB5
import Derived.Test.YtilgpdpooildcaaGreatDoorDB1
import Derived.Test.YtilgpdpooildcaaGreatDoorDB4
import Derived.RangeFuncNested
import Derived.RangeFuncLeaves
import Derived.RangeFuncCalls
namespace Go.Proofs.YtilgpdpooildcaaGreatDoor
set_option maxHeartbeats 8000000
open Go.RowKit
set_option maxRecDepth 100000
set_option linter.unusedVariables false
set_option linter.unusedSimpArgs false
theorem PX {P : Program} {ρ : Operand → Value} {w : World} {d : Option Tmp} {t X E : TypeId} {n : Nat} {pos : String} {after : Array Edge} {guard : Option (Nat × Bool)} {x lo hi : Operand} {b l h : Nat} (hX : P.underlying X = some (.array n E)) (hx : ρ x = .pointer (some ⟨b, 0, none⟩)) (hsz : (sizeOf E).run P w = .ok 1 w) (hl : ρ lo = .int .i64 (l : Int)) (hh : ρ hi = .int .i64 (h : Int)) (h1 : l ≤ h) (h2 : h ≤ n) (h3 : l < n) :
    (execOp ρ ⟨d, .slice X x (some lo) (some hi) none, t, pos, after, guard⟩).run P w = .ok (.value (.slice (some ⟨b, l, none⟩) (h - l) (n - l))) w := by
 have b1 : ∀ (z y : Nat) (code : BoundsCode), z ≤ y → (Instr.sliceBound (.int .i64 z) y code).run P w = .ok z w := by
  intro z y code hzy
  have : (0 : Int) ≤ (z : Int) ∧ (z : Int) ≤ (y : Int) := by omega
  simp [Instr.sliceBound, asIntOf, this]
 have hb : (Instr.sliceBounds false n n (some (.int .i64 l)) (some (.int .i64 h)) none).run P w = .ok (l, h, n) w := by
  simp [Instr.sliceBounds, b1 _ _ _ h2, b1 _ _ _ h1]
 have hadd : (⟨b, 0, none⟩ : Addr).add l = ⟨b, l, none⟩ := by have := Addr.add_mid b 0 l; simpa using this
 have hn : ¬ n = l := by omega
 simp [execOp, hx, hl, hh, Instr.sliceAt, Instr.sureAddr, Sem.run_bind, Sem.run_pure, Result.andThen_ok, run_underlying hX w, hb, hsz, hadd, hn]
theorem As {P : Program} {ρ : Operand → Value} {w : World} {d : Option Tmp} {t X E : TypeId} {n : Nat} {pos : String} {after : Array Edge} {guard : Option (Nat × Bool)} {x : Operand} {a : Option Addr} {l c : Nat} (hX : P.underlying X = some (.array n E)) (hx : ρ x = .slice a l c) (hl : n ≤ l) :
    (execOp ρ ⟨d, .sliceToArrayPointer X x, t, pos, after, guard⟩).run P w = .ok (.value (.pointer a)) w := by
 have : ¬ l < n := by omega
 simp [execOp, hx, Instr.arrayAt, Sem.run_bind, Sem.run_pure, run_underlying hX w, this]
theorem St.cellsAt {w0 w : World} {F0 F : Fz} {L : List Blk} {M : List RowP} (S : St w0 F0 w F L M) {i : Nat} {n : Nat} {c : List Value} {t : TypeId} (h : L[i]? = some ⟨n, c, t⟩) : ∀ j v, c[j]? = some v → w.cell? ⟨n, j, none⟩ = some v := fun j v hv => St.cell S h hv
theorem TI {w : World} {n : Nat} {X : List (BitVec 64)} {y : Nat} (h : ∀ (j : Nat) v, (X.map aO)[j]? = some v → w.cell? ⟨n, j, none⟩ = some v) (hy : y + 5 ≤ X.length) :
    (Instr.loadAt 233 (.pointer (some ⟨n, y, none⟩))).run Tryz.prog w = .ok (.agg #[aO (at0 X y), aO (at0 X (y + 1)), aO (at0 X (y + 2)), aO (at0 X (y + 3)), aO (at0 X (y + 4))]) w := by
 refine run_loadAt_mid (P := Tryz.prog) w n y 233 [aO (at0 X y), aO (at0 X (y + 1)), aO (at0 X (y + 2)), aO (at0 X (y + 3)), aO (at0 X (y + 4))] (.array 5 215) (fun j v hj => ?_) (by kernel_rfl) rfl (by kernel_rfl)
 refine h _ _ ?_
 have hj5 : j < 5 := by have := (List.getElem?_eq_some_iff.1 hj).1; simpa using this
 rw [eX (by omega), ← hj]
 rcases (by omega : j = 0 ∨ j = 1 ∨ j = 2 ∨ j = 3 ∨ j = 4) with rfl | rfl | rfl | rfl | rfl <;> rfl
theorem YA (A : List (BitVec 64)) (k : Nat) : (pL A k).1.set (kM k) (nN (pL A k).2 (lU k)) = (pL A (k + 1)).1 := rfl
def nH (Q : List (BitVec 64)) (y : Nat) : List (BitVec 64) := [at0 Q y, at0 Q (y + 1), at0 Q (y + 2), at0 Q (y + 3), at0 Q (y + 4)]
theorem AX (Q : List (BitVec 64)) (y : Nat) : (nH Q y).length = 5 := rfl
theorem FX {Q : List (BitVec 64)} {y x : Nat} (h : x < 5) : at0 (nH Q y) x = at0 Q (y + x) := by
 rcases (by omega : x = 0 ∨ x = 1 ∨ x = 2 ∨ x = 3 ∨ x = 4) with rfl | rfl | rfl | rfl | rfl <;> rfl
theorem TJ {Q : List (BitVec 64)} {y : Nat} (h : y + 5 ≤ 25) : nH (jG Q y) y = nH Q y := by
 unfold nH
 rw [vX (by omega) (by omega), vX (by omega) (by omega), vX (by omega) (by omega), vX (by omega) (by omega), vX (by omega) (by omega)]
theorem YB {Q : List (BitVec 64)} {y x : Nat} (hy : y % 5 = 0) (hx : x < 5) : at0 (nH Q y) x ^^^ (~~~ (at0 (nH Q y) ((x + 1) % 5)) &&& at0 (nH Q y) ((x + 2) % 5)) = GN Q (y + x) := by
 unfold GN
 rw [FX hx, FX (by omega), FX (by omega), show (y + x) / 5 * 5 = y from by omega, show (y + x) % 5 = x from by omega]
theorem Bu {fn : Func} {tmps : Array Value} {P : Program} {w : World} (h : fn.results = #[]) : (results fn tmps).run P w = .ok (.tuple #[]) w := by simp [results, h]
theorem PY {w0 w : World} {F0 F : Fz} {L0 : List Blk} {M0 : List RowP} {rb r : Nat} {Z : List (BitVec 64)} (S : St w0 F0 w F (⟨rb, Z.map aO, 217⟩ :: L0) M0) (hl : Z.length = 25) (hT : Tabs w0) (hr : r < 24) :
    Calls Tryz.prog 138 #[.pointer (some ⟨rb, 0, none⟩), .int .i64 ((r : Nat) : Int)] w fun e w' => e = .returned (.tuple #[]) ∧ St w0 F0 w' F (⟨rb, (CM Z r).map aO, 217⟩ :: L0) M0 := by
 go_enter Tryz.func138, Tryz.ntmps138
 refine sk fun K1 hK1 => ?_
 refine sA S (IK _) fun n2 w3 S4 => ?_
 refine wn hK1 ?_
 refine aE fun K5 hK5 => ?_
 refine sk fun K6 hK6 => ?_
 refine dx ?_
 refine wn hK6 ?_
 refine aM ?_
 have S4 : St w0 F0 w3 F (⟨n2, ((cL Z 0).map aO), 233⟩ :: ⟨rb, (Z.map aO), 217⟩ :: L0) (M0) := by rw [XX]; exact S4
 refine aW (fun mm aa w8 => ∃ (k1 : Nat) (u7 : Nat → Value), mm = 5 - k1 ∧ u7 = eC aa ∧ aa = ⟨([(pP rb 0), (nI r), undef, undef, (pP n2 0), (u7 5)] ++ (udF 8 ([(nI k1)] ++ (usF u7 15 38 (udF 98 []))))).toArray, []⟩ ∧ St w0 F0 w8 F (⟨n2, ((cL Z k1).map aO), 233⟩ :: ⟨rb, (Z.map aO), 217⟩ :: L0) (M0) ∧ (k1 ≤ 5)) _ ⟨0, _, rfl, rfl, rfl, S4, (by omega)⟩ ?_
 rintro m9 k6 h5 ⟨k1, u7, rfl, -, hfr, a5, hk1⟩ k7 d5
 simp only [uzF, Nat.reduceAdd] at hfr; subst hfr
 refine sk fun k8 b7 => ?_
 by_cases h6 : k1 < 5
 refine fA ?_
 simp only [pq]
 refine wn b7 ?_
 refine aE fun k9 d6 => ?_
 refine aI ?_
 refine aH ?_
 refine d6 _ _ ?_
 refine aE fun l0 d7 => ?_
 refine aM ?_
 refine sk fun l1 d8 => ?_
 refine aC ?_
 refine wn d8 ?_
 refine aQ F 34 [] (by kernel_rfl) (by kernel_rfl) ?_
 simp only [cU]
 refine gm ?_
 simp only [pq]
 iterate 2 refine gm ?_
 refine gi ?_
 simp only [pq]
 refine gv (pP rb k1) (fun _ _ => fK (i := k1) Tryz.underlying217 (cE _) rfl rfl (by omega)) ?_
 refine gv _ (fun _ a6 => aD rfl (aR (eW _) (St.cell (St.tells a5 a6) (i := 1) rfl (eX (Nat.lt_of_lt_of_eq (show k1 < 25 by omega) hl.symm))))) ?_
 refine gm ?_
 simp only [pq]
 refine gm ?_
 refine gv (nI (k1 + 5)) (fun _ _ => fO (m := ((k1 : Nat) : Int)) (n := (5 : Int)) (r := (((k1 + 5) : Nat) : Int)) rfl rfl (by omega) (by omega) (by omega)) ?_
 refine gi ?_
 simp only [pq]
 refine gv (pP rb ((k1 + 5))) (fun _ _ => fK (i := (k1 + 5)) Tryz.underlying217 (cE _) rfl rfl (by omega)) ?_
 refine gv _ (fun _ a6 => aD rfl (aR (eW _) (St.cell (St.tells a5 a6) (i := 1) rfl (eX (Nat.lt_of_lt_of_eq (show (k1 + 5) < 25 by omega) hl.symm))))) ?_
 refine gv (aO ((at0 Z k1) ^^^ (at0 Z (k1 + 5)))) (fun _ _ => mK rfl rfl) ?_
 simp only [pq]
 iterate 2 refine gm ?_
 refine gv (nI (k1 + 10)) (fun _ _ => fO (m := ((k1 : Nat) : Int)) (n := (10 : Int)) (r := (((k1 + 10) : Nat) : Int)) rfl rfl (by omega) (by omega) (by omega)) ?_
 simp only [pq]
 refine gi ?_
 refine gv (pP rb ((k1 + 10))) (fun _ _ => fK (i := (k1 + 10)) Tryz.underlying217 (cE _) rfl rfl (by omega)) ?_
 refine gv _ (fun _ a6 => aD rfl (aR (eW _) (St.cell (St.tells a5 a6) (i := 1) rfl (eX (Nat.lt_of_lt_of_eq (show (k1 + 10) < 25 by omega) hl.symm))))) ?_
 simp only [pq]
 refine gv (aO (((at0 Z k1) ^^^ (at0 Z (k1 + 5))) ^^^ (at0 Z (k1 + 10)))) (fun _ _ => mK rfl rfl) ?_
 iterate 2 refine gm ?_
 simp only [pq]
 refine gv (nI (k1 + 15)) (fun _ _ => fO (m := ((k1 : Nat) : Int)) (n := (15 : Int)) (r := (((k1 + 15) : Nat) : Int)) rfl rfl (by omega) (by omega) (by omega)) ?_
 refine gi ?_
 refine gv (pP rb ((k1 + 15))) (fun _ _ => fK (i := (k1 + 15)) Tryz.underlying217 (cE _) rfl rfl (by omega)) ?_
 simp only [pq]
 refine gv _ (fun _ a6 => aD rfl (aR (eW _) (St.cell (St.tells a5 a6) (i := 1) rfl (eX (Nat.lt_of_lt_of_eq (show (k1 + 15) < 25 by omega) hl.symm))))) ?_
 refine gv (aO ((((at0 Z k1) ^^^ (at0 Z (k1 + 5))) ^^^ (at0 Z (k1 + 10))) ^^^ (at0 Z (k1 + 15)))) (fun _ _ => mK rfl rfl) ?_
 refine gm ?_
 simp only [pq]
 refine gm ?_
 refine gv (nI (k1 + 20)) (fun _ _ => fO (m := ((k1 : Nat) : Int)) (n := (20 : Int)) (r := (((k1 + 20) : Nat) : Int)) rfl rfl (by omega) (by omega) (by omega)) ?_
 refine gi ?_
 simp only [pq]
 refine gv (pP rb ((k1 + 20))) (fun _ _ => fK (i := (k1 + 20)) Tryz.underlying217 (cE _) rfl rfl (by omega)) ?_
 refine gv _ (fun _ a6 => aD rfl (aR (eW _) (St.cell (St.tells a5 a6) (i := 1) rfl (eX (Nat.lt_of_lt_of_eq (show (k1 + 20) < 25 by omega) hl.symm))))) ?_
 refine gv (aO (((((at0 Z k1) ^^^ (at0 Z (k1 + 5))) ^^^ (at0 Z (k1 + 10))) ^^^ (at0 Z (k1 + 15))) ^^^ (at0 Z (k1 + 20)))) (fun _ _ => mK rfl rfl) ?_
 simp only [pq]
 refine bO ?_
 intro l2 d9 e0
 clear e0
 have h7 := St.tells a5 d9
 simp only [cV]
 refine dr (pP n2 k1) (fK (i := k1) Tryz.underlying233 (cE _) rfl rfl (by omega)) ?_
 refine fI (i := 0) (v := aO (((((at0 Z k1) ^^^ (at0 Z (k1 + 5))) ^^^ (at0 Z (k1 + 10))) ^^^ (at0 Z (k1 + 15))) ^^^ (at0 Z (k1 + 20)))) h7 rfl rfl rfl rfl (pB) (lI rfl) (by rw [List.length_map, (FW _ _)]; show k1 + 1 ≤ 5; omega) (fun h0 b0 => ?_)
 simp only [pq]
 have b0 : St w0 F0 h0 F (⟨n2, (bN ((cL Z k1).map aO) k1 [aO (((((at0 Z k1) ^^^ (at0 Z (k1 + 5))) ^^^ (at0 Z (k1 + 10))) ^^^ (at0 Z (k1 + 15))) ^^^ (at0 Z (k1 + 20)))]), 233⟩ :: ⟨rb, (Z.map aO), 217⟩ :: L0) (M0) := b0
 rw [mN (Nat.lt_of_lt_of_eq (show k1 < 5 by omega) (FW _ _).symm)] at b0
 have b0 : St w0 F0 h0 F (⟨n2, (((cL Z k1).set k1 (RB Z k1)).map aO), 233⟩ :: ⟨rb, (Z.map aO), 217⟩ :: L0) (M0) := b0
 rw [XW Z (by omega)] at b0
 refine wlK d7 ?_
 refine aB ?_
 refine cN (k1 + 1) ?_
 refine dx ?_
 refine aG ?_
 exact d5 _ _ _ (by omega) ⟨(k1 + 1), _, rfl, rfl, rfl, b0, (by omega)⟩
 refine eR ?_
 simp only [pq]
 refine wn b7 ?_
 refine aE fun l3 h8 => ?_
 refine aF ?_
 refine cQ ?_
 refine hK5 _ _ ?_
 refine aE fun l4 e1 => ?_
 refine aE fun l5 e2 => ?_
 obtain rfl : k1 = 5 := by omega
 refine aB ?_
 refine dx ?_
 refine wlK e2 ?_
 refine aM ?_
 have a5 : St w0 F0 h5 F (⟨n2, ((cL Z 5).map aO), 233⟩ :: ⟨rb, ((thL Z (cL Z 5) 0).map aO), 217⟩ :: L0) (M0) := by rw [TF hl]; exact a5
 refine aW (fun mm aa h9 => ∃ (k2 : Nat) (a1 : Nat → Value), mm = 25 - k2 ∧ a1 = eC aa ∧ aa = ⟨([(pP rb 0), (nI r), undef, undef, (pP n2 0), (u7 5), (a1 6), (a1 7)] ++ (udF 6 ([(iI 5), bF] ++ (usF u7 16 37 ([(nI k2)] ++ (usF a1 54 25 (udF 72 []))))))).toArray, []⟩ ∧ St w0 F0 h9 F (⟨n2, ((cL Z 5).map aO), 233⟩ :: ⟨rb, ((thL Z (cL Z 5) k2).map aO), 217⟩ :: L0) (M0) ∧ (k2 ≤ 25)) _ ⟨0, _, rfl, rfl, rfl, a5, (by omega)⟩ ?_
 rintro l6 l7 l8 ⟨k2, a1, rfl, -, hfr, a7, hk2⟩ l9 e3
 simp only [uzF, Nat.reduceAdd] at hfr; subst hfr
 refine sk fun m0 b9 => ?_
 by_cases i0 : k2 < 25
 refine fA ?_
 refine wn b9 ?_
 refine aE fun m1 e4 => ?_
 refine aI ?_
 refine aH ?_
 refine e4 _ _ ?_
 refine aE fun m2 e5 => ?_
 refine aM ?_
 refine sk fun m3 e6 => ?_
 refine aC ?_
 refine wn e6 ?_
 refine sk fun m4 e7 => ?_
 refine dx ?_
 refine dr (nI (k2 % 5)) (oC (m := k2) (n := 5) rfl rfl (by decide) (by omega)) ?_
 refine dy ?_
 simp only [pq]
 refine wn e7 ?_
 refine aQ F 19 [(15, .is (aO (nN (at0 (cL Z 5) (((k2 % 5) + 1) % 5)) 1)))] (by kernel_rfl) (by kernel_rfl) ?_
 simp only [cU]
 iterate 2 refine gm ?_
 refine gi ?_
 simp only [pq]
 refine gv (pP rb k2) (fun _ _ => fK (i := k2) Tryz.underlying217 (cE _) rfl rfl (by omega)) ?_
 refine gv _ (fun _ b6 => aD rfl (aR (eW _) (St.cell (St.tells a7 b6) (i := 1) rfl (eX (Nat.lt_of_lt_of_eq (show k2 < 25 by omega) (yU _ _ _).symm))))) ?_
 refine gm ?_
 simp only [pq]
 refine gv (nI ((k2 % 5) + 4)) (fun _ _ => fO (m := (((k2 % 5) : Nat) : Int)) (n := (4 : Int)) (r := ((((k2 % 5) + 4) : Nat) : Int)) rfl rfl (by omega) (by omega) (by omega)) ?_
 refine gv (.int .i64 (((((k2 % 5) + 4) % 5) : Nat) : Int)) (fun _ _ => oC (m := ((k2 % 5) + 4)) (n := 5) rfl rfl (by decide) (by omega)) ?_
 refine gv (pP n2 ((((k2 % 5) + 4) % 5))) (fun _ _ => fK (i := (((k2 % 5) + 4) % 5)) Tryz.underlying233 (cE _) rfl rfl (by omega)) ?_
 simp only [pq]
 refine gv _ (fun _ b6 => aD rfl (aR (eW _) (St.cell (St.tells a7 b6) (i := 0) rfl (eX (Nat.lt_of_lt_of_eq (show (((k2 % 5) + 4) % 5) < 5 by omega) (FW _ _).symm))))) ?_
 refine gm ?_
 refine gv (nI ((k2 % 5) + 1)) (fun _ _ => fO (m := (((k2 % 5) : Nat) : Int)) (n := (1 : Int)) (r := ((((k2 % 5) + 1) : Nat) : Int)) rfl rfl (by omega) (by omega) (by omega)) ?_
 simp only [pq]
 refine gv (.int .i64 (((((k2 % 5) + 1) % 5) : Nat) : Int)) (fun _ _ => oC (m := ((k2 % 5) + 1)) (n := 5) rfl rfl (by decide) (by omega)) ?_
 refine gv (pP n2 ((((k2 % 5) + 1) % 5))) (fun _ _ => fK (i := (((k2 % 5) + 1) % 5)) Tryz.underlying233 (cE _) rfl rfl (by omega)) ?_
 refine gv _ (fun _ b6 => aD rfl (aR (eW _) (St.cell (St.tells a7 b6) (i := 0) rfl (eX (Nat.lt_of_lt_of_eq (show (((k2 % 5) + 1) % 5) < 5 by omega) (FW _ _).symm))))) ?_
 simp only [pq]
 refine iM rfl rfl (v := (aO (nN (at0 (cL Z 5) (((k2 % 5) + 1) % 5)) 1))) (fun m5 b6 _ => bZ (cJ (vs := #[(aO (at0 (cL Z 5) (((k2 % 5) + 1) % 5))), (iI 1)]) (iL rfl rfl) rfl (NS _ _)) (kO (DG _ (at0 (cL Z 5) (((k2 % 5) + 1) % 5)) 1 (by decide) (by decide)))) ?_
 refine gv (aO ((at0 (cL Z 5) (((k2 % 5) + 4) % 5)) ^^^ (nN (at0 (cL Z 5) (((k2 % 5) + 1) % 5)) 1))) (fun _ _ => mK rfl rfl) ?_
 refine gv (aO ((at0 (thL Z (cL Z 5) k2) k2) ^^^ ((at0 (cL Z 5) (((k2 % 5) + 4) % 5)) ^^^ (nN (at0 (cL Z 5) (((k2 % 5) + 1) % 5)) 1)))) (fun _ _ => mK rfl rfl) ?_
 refine gi ?_
 simp only [pq]
 refine bO ?_
 intro m6 e8 e9
 clear e9
 have i1 := St.tells a7 e8
 simp only [cV]
 refine dr (pP rb k2) (fK (i := k2) Tryz.underlying217 (cE _) rfl rfl (by omega)) ?_
 refine fI (i := 1) (v := aO ((at0 (thL Z (cL Z 5) k2) k2) ^^^ ((at0 (cL Z 5) (((k2 % 5) + 4) % 5)) ^^^ (nN (at0 (cL Z 5) (((k2 % 5) + 1) % 5)) 1)))) i1 rfl rfl rfl rfl (pB) (lI rfl) (by rw [List.length_map, (yU _ _ _)]; show k2 + 1 ≤ 25; omega) (fun h1 a8 => ?_)
 simp only [pq]
 have a8 : St w0 F0 h1 F (⟨n2, ((cL Z 5).map aO), 233⟩ :: ⟨rb, (bN ((thL Z (cL Z 5) k2).map aO) k2 [aO ((at0 (thL Z (cL Z 5) k2) k2) ^^^ ((at0 (cL Z 5) (((k2 % 5) + 4) % 5)) ^^^ (nN (at0 (cL Z 5) (((k2 % 5) + 1) % 5)) 1)))]), 217⟩ :: L0) (M0) := a8
 rw [mN (Nat.lt_of_lt_of_eq (show k2 < 25 by omega) (yU _ _ _).symm)] at a8
 rw [Aq (S := Z) (C := (cL Z 5)) (i := k2) (by omega)] at a8
 have a8 : St w0 F0 h1 F (⟨n2, ((cL Z 5).map aO), 233⟩ :: ⟨rb, (((thL Z (cL Z 5) k2).set k2 (ZH Z (cL Z 5) k2)).map aO), 217⟩ :: L0) (M0) := a8
 rw [TG Z _ (by omega)] at a8
 refine wlK e5 ?_
 refine aB ?_
 refine cN (k2 + 1) ?_
 refine dx ?_
 refine aG ?_
 exact e3 _ _ _ (by omega) ⟨(k2 + 1), _, rfl, rfl, rfl, a8, (by omega)⟩
 refine eR ?_
 simp only [pq]
 refine wn b9 ?_
 refine aE fun m7 i2 => ?_
 refine aF ?_
 refine cQ ?_
 refine e1 _ _ ?_
 refine aE fun m8 f0 => ?_
 obtain rfl : k2 = 25 := by omega
 obtain ⟨A, hA⟩ : ∃ A, A = thL Z (cL Z 5) 25 := ⟨_, rfl⟩
 have hAl : A.length = 25 := by rw [hA]; exact yU _ _ _
 rw [← hA] at a7
 refine aB ?_
 refine aC ?_
 refine dr (pP rb 1) (fK (i := 1) Tryz.underlying217 (cE _) rfl rfl (by omega)) ?_
 simp only [pq]
 refine dr _ (aD rfl (aR (eW _) (St.cell a7 (i := 1) rfl (eX (Nat.lt_of_lt_of_eq (show 1 < 25 by omega) hAl.symm))))) ?_
 refine dy ?_
 refine wlK f0 ?_
 refine aE fun n0 f1 => ?_
 refine sk fun n1 f2 => ?_
 refine dr (.agg xP) (aD rfl (PU (hT.at a7.gr.below))) ?_
 refine dx ?_
 simp only [pq]
 refine wn f2 ?_
 refine aM ?_
 refine aW (fun mm aa i3 => ∃ (k3 : Nat) (a2 : Nat → Value), mm = 24 - k3 ∧ a2 = eC aa ∧ aa = ⟨([(pP rb 0), (nI r), undef, undef, (pP n2 0), (u7 5), (a1 6), (a1 7), (aO (pL A k3).2), (a2 9), (a2 10), undef, undef, undef, (iI 5), bF] ++ (usF u7 16 37 ([(iI 25), bF] ++ (usF a1 55 24 ([(pP rb 0), (pP rb 0), (pP rb 1), (aO (at0 A 1)), (.agg xP), (nI k3)] ++ (usF a2 85 18 (udF 48 []))))))).toArray, []⟩ ∧ St w0 F0 i3 F (⟨n2, ((cL Z 5).map aO), 233⟩ :: ⟨rb, ((pL A k3).1.map aO), 217⟩ :: L0) (M0) ∧ (k3 ≤ 24)) _ ⟨0, _, rfl, rfl, rfl, a7, (by omega)⟩ ?_
 rintro n3 n4 i4 ⟨k3, a2, rfl, -, hfr, b1, hk3⟩ n5 f3
 simp only [uzF, Nat.reduceAdd] at hfr; subst hfr
 refine sk fun n6 c0 => ?_
 by_cases i5 : k3 < 24
 refine fA ?_
 refine wn c0 ?_
 refine aE fun n7 f4 => ?_
 refine aI ?_
 refine aH ?_
 refine f4 _ _ ?_
 refine aE fun n8 f5 => ?_
 refine aM ?_
 refine aE fun n9 f6 => ?_
 have hgo := TE k3 (by omega)
 refine aB ?_
 refine dx ?_
 refine dr (nI (kM k3)) (Ar (i := k3) Tryz.underlying235 (eI _) rfl rfl (by omega) (bL _) (XV (by omega))) ?_
 refine aC ?_
 refine wlK f6 ?_
 refine aQ F 13 [(6, .is (aO (nN ((pL A k3).2) (lU k3))))] (by kernel_rfl) (by kernel_rfl) ?_
 simp only [cU]
 iterate 2 refine gm ?_
 simp only [pq]
 iterate 2 refine gm ?_
 refine gv (pP 3 k3) (fun _ _ => fK (i := k3) Tryz.underlying235 (eI _) rfl rfl (by omega)) ?_
 simp only [pq]
 refine gv _ (fun _ d2 => aD rfl (aR (bL _) (((hT.at (St.tells b1 d2).gr.below).2.1 k3 (by omega))))) ?_
 simp only [pq]
 refine iM rfl rfl (v := (aO (nN ((pL A k3).2) (lU k3)))) (fun o0 d2 _ => bZ (cJ (vs := #[(aO (pL A k3).2), (nI (lU k3))]) (iL rfl rfl) rfl (NS _ _)) (kO (DG _ ((pL A k3).2) (lU k3) (DH _ (by omega)).1 (DH _ (by omega)).2))) ?_
 iterate 2 refine gm ?_
 refine gi ?_
 simp only [pq]
 refine gv (pP rb ((kM k3))) (fun _ _ => fK (i := (kM k3)) Tryz.underlying217 (cE _) rfl rfl (by omega)) ?_
 refine gv _ (fun _ d2 => aD rfl (aR (eW _) (St.cell (St.tells b1 d2) (i := 1) rfl (eX (Nat.lt_of_lt_of_eq (show (kM k3) < 25 by omega) (sC hAl _).symm))))) ?_
 refine gi ?_
 simp only [pq]
 refine bO ?_
 intro o1 f7 f8
 clear f8
 have i6 := St.tells b1 f7
 simp only [cV]
 refine dr (pP rb ((kM k3))) (fK (i := (kM k3)) Tryz.underlying217 (cE _) rfl rfl (by omega)) ?_
 refine fI (i := 1) (v := aO (nN ((pL A k3).2) (lU k3))) i6 rfl rfl rfl rfl (pB) (lI rfl) (by rw [List.length_map, (sC hAl _)]; show (kM k3) + 1 ≤ 25; omega) (fun i7 c1 => ?_)
 simp only [pq]
 have c1 : St w0 F0 i7 F (⟨n2, ((cL Z 5).map aO), 233⟩ :: ⟨rb, (bN (((pL A k3).1).map aO) (kM k3) [aO (nN ((pL A k3).2) (lU k3))]), 217⟩ :: L0) (M0) := c1
 rw [mN (Nat.lt_of_lt_of_eq (show (kM k3) < 25 by omega) (sC hAl _).symm)] at c1
 rw [YA] at c1
 refine dy ?_
 refine wlK f5 ?_
 refine aB ?_
 refine cN (k3 + 1) ?_
 refine dx ?_
 simp only [pq]
 refine aG ?_
 exact f3 _ _ _ (by omega) ⟨(k3 + 1), _, rfl, rfl, rfl, c1, (by omega)⟩
 refine eR ?_
 refine wn c0 ?_
 refine aE fun o2 i8 => ?_
 refine aF ?_
 refine cQ ?_
 refine f1 _ _ ?_
 refine aE fun o3 f9 => ?_
 refine aE fun o4 g0 => ?_
 obtain rfl : k3 = 24 := by omega
 obtain ⟨Q, hQ⟩ : ∃ Q, Q = (pL A 24).1 := ⟨_, rfl⟩
 have hQl : Q.length = 25 := by rw [hQ]; exact sC hAl _
 rw [← hQ] at b1
 refine aB ?_
 refine dy ?_
 refine wlK g0 ?_
 refine aM ?_
 have b1 : St w0 F0 i4 F (⟨n2, ((cL Z 5).map aO), 233⟩ :: ⟨rb, ((jG Q 0).map aO), 217⟩ :: L0) (M0) := by rw [PV hQl]; exact b1
 refine aW (fun mm aa i9 => ∃ (y : Nat) (b2 : Nat → Value), mm = 25 - y ∧ b2 = eC aa ∧ aa = ⟨([(pP rb 0), (nI r), undef, undef, (pP n2 0), (u7 5), (a1 6), (a1 7), (aO (pL A 24).2), (a2 9), (a2 10), (nI y), (b2 12), (b2 13), (iI 5), bF] ++ (usF u7 16 37 ([(iI 25), bF] ++ (usF a1 55 24 ([(pP rb 0), (pP rb 0), (pP rb 1), (aO (at0 A 1)), (.agg xP), (iI 24), bF] ++ (usF a2 86 17 (usF b2 103 38 (udF 10 [])))))))).toArray, []⟩ ∧ St w0 F0 i9 F (⟨n2, ((cL Z 5).map aO), 233⟩ :: ⟨rb, ((jG Q y).map aO), 217⟩ :: L0) (M0) ∧ (y % 5 = 0) ∧ (y ≤ 25)) _ ⟨0, _, rfl, rfl, rfl, b1, (by omega), (by omega)⟩ ?_
 rintro o5 o6 o7 ⟨y, b2, rfl, -, hfr, c2, hy5, j0⟩ o8 g1
 simp only [uzF, Nat.reduceAdd] at hfr; subst hfr
 refine aE fun o9 g2 => ?_
 refine sk fun p0 c3 => ?_
 refine dx ?_
 simp only [pq]
 by_cases h2 : y < 25
 refine fA ?_
 refine wn c3 ?_
 refine aI ?_
 refine aH ?_
 refine g2 _ _ ?_
 refine aE fun p1 g3 => ?_
 refine aM ?_
 refine sk fun p2 g4 => ?_
 refine aC ?_
 refine cN (y + 5) ?_
 refine dr (.slice (aA rb y) ((y + 5) - y) (25 - y)) (PX (l := y) (h := (y + 5)) Tryz.underlying217 rfl (cE _) rfl rfl (by omega) (by omega) (by omega)) ?_
 simp only [pq]
 refine dr (pP rb y) (As Tryz.underlying233 rfl (by omega)) ?_
 refine dr (.agg #[(aO (at0 (jG Q y) y)), (aO (at0 (jG Q y) (y + 1))), (aO (at0 (jG Q y) (y + 2))), (aO (at0 (jG Q y) (y + 3))), (aO (at0 (jG Q y) (y + 4)))]) (aD rfl (TI (St.cellsAt c2 (i := 1) rfl) (show y + 5 ≤ (jG Q y).length from by rw [(pD _ _)]; omega))) ?_
 refine sA c2 (IK _) fun b3 p3 j1 => ?_
 simp only [pq]
 refine sW 0 j1 (TD) fun j2 d3 => ?_
 refine wn g4 ?_
 refine sk fun p4 g5 => ?_
 refine dx ?_
 refine wn g5 ?_
 refine aM ?_
 have d3 : St w0 F0 j2 F (⟨b3, ((nH (jG Q y) y).map aO), 233⟩ :: ⟨n2, ((cL Z 5).map aO), 233⟩ :: ⟨rb, ((jG Q y).map aO), 217⟩ :: L0) (M0) := d3
 rw [TJ (by omega)] at d3
 refine aW (fun mm aa j3 => ∃ (k5 : Nat) (d4 : Nat → Value), mm = 5 - k5 ∧ d4 = eC aa ∧ aa = ⟨([(pP rb 0), (nI r), undef, undef, (pP n2 0), (u7 5), (a1 6), (a1 7), (aO (pL A 24).2), (a2 9), (a2 10), (nI y), (pP b3 0), (d4 13), (iI 5), bF] ++ (usF u7 16 37 ([(iI 25), bF] ++ (usF a1 55 24 ([(pP rb 0), (pP rb 0), (pP rb 1), (aO (at0 A 1)), (.agg xP), (iI 24), bF] ++ (usF a2 86 17 ([(nI y), bT, (b2 105), (b2 106), (pP rb 0), (pP rb 0), (nI y), (nI y), (nI (y + 5)), (.slice (aA rb y) ((y + 5) - y) (25 - y)), (pP rb y), (.agg #[(aO (at0 (jG Q y) y)), (aO (at0 (jG Q y) (y + 1))), (aO (at0 (jG Q y) (y + 2))), (aO (at0 (jG Q y) (y + 3))), (aO (at0 (jG Q y) (y + 4)))]), (nI k5)] ++ (usF d4 116 25 (udF 10 []))))))))).toArray, []⟩ ∧ St w0 F0 j3 F (⟨b3, ((nH Q y).map aO), 233⟩ :: ⟨n2, ((cL Z 5).map aO), 233⟩ :: ⟨rb, ((jG Q (y + k5)).map aO), 217⟩ :: L0) (M0) ∧ (k5 ≤ 5)) _ ⟨0, _, rfl, rfl, rfl, d3, (by omega)⟩ ?_
 rintro p5 p6 p7 ⟨k5, d4, rfl, -, hfr, b4, hk5⟩ j4 c4
 simp only [uzF, Nat.reduceAdd] at hfr; subst hfr
 refine sk fun j5 a9 => ?_
 by_cases h3 : k5 < 5
 refine fA ?_
 simp only [pq]
 refine wn a9 ?_
 refine aE fun j6 c5 => ?_
 refine aI ?_
 refine aH ?_
 refine c5 _ _ ?_
 refine aE fun j7 c6 => ?_
 refine aM ?_
 refine sk fun j8 c7 => ?_
 refine aC ?_
 refine wn c7 ?_
 refine aQ F 21 [] (by kernel_rfl) (by kernel_rfl) ?_
 simp only [cU]
 refine gm ?_
 simp only [pq]
 iterate 2 refine gm ?_
 refine gv (nI (y + k5)) (fun _ _ => fO (m := ((y : Nat) : Int)) (n := ((k5 : Nat) : Int)) (r := (((y + k5) : Nat) : Int)) rfl rfl (by omega) (by omega) (by omega)) ?_
 simp only [pq]
 refine gm ?_
 refine gv (pP b3 k5) (fun _ _ => fK (i := k5) Tryz.underlying233 (cE _) rfl rfl (by omega)) ?_
 refine gv _ (fun _ a3 => aD rfl (aR (eW _) (St.cell (St.tells b4 a3) (i := 0) rfl (eX (Nat.lt_of_lt_of_eq (show k5 < 5 by omega) (AX _ _).symm))))) ?_
 simp only [pq]
 refine gm ?_
 refine gv (nI (k5 + 1)) (fun _ _ => fO (m := ((k5 : Nat) : Int)) (n := (1 : Int)) (r := (((k5 + 1) : Nat) : Int)) rfl rfl (by omega) (by omega) (by omega)) ?_
 refine gv (nI ((k5 + 1) % 5)) (fun _ _ => oC (m := (k5 + 1)) (n := 5) rfl rfl (by decide) (by omega)) ?_
 simp only [pq]
 refine gv (pP b3 (((k5 + 1) % 5))) (fun _ _ => fK (i := ((k5 + 1) % 5)) Tryz.underlying233 (cE _) rfl rfl (by omega)) ?_
 refine gv _ (fun _ a3 => aD rfl (aR (eW _) (St.cell (St.tells b4 a3) (i := 0) rfl (eX (Nat.lt_of_lt_of_eq (show ((k5 + 1) % 5) < 5 by omega) (AX _ _).symm))))) ?_
 refine gv (aO (~~~ (at0 (nH Q y) ((k5 + 1) % 5)))) (fun _ _ => XZ rfl) ?_
 simp only [pq]
 refine gm ?_
 refine gv (nI (k5 + 2)) (fun _ _ => fO (m := ((k5 : Nat) : Int)) (n := (2 : Int)) (r := (((k5 + 2) : Nat) : Int)) rfl rfl (by omega) (by omega) (by omega)) ?_
 refine gv (nI ((k5 + 2) % 5)) (fun _ _ => oC (m := (k5 + 2)) (n := 5) rfl rfl (by decide) (by omega)) ?_
 simp only [pq]
 refine gv (pP b3 (((k5 + 2) % 5))) (fun _ _ => fK (i := ((k5 + 2) % 5)) Tryz.underlying233 (cE _) rfl rfl (by omega)) ?_
 refine gv _ (fun _ a3 => aD rfl (aR (eW _) (St.cell (St.tells b4 a3) (i := 0) rfl (eX (Nat.lt_of_lt_of_eq (show ((k5 + 2) % 5) < 5 by omega) (AX _ _).symm))))) ?_
 refine gv (aO ((~~~ (at0 (nH Q y) ((k5 + 1) % 5))) &&& (at0 (nH Q y) ((k5 + 2) % 5)))) (fun _ _ => XY rfl rfl) ?_
 simp only [pq]
 refine gv (aO ((at0 (nH Q y) k5) ^^^ ((~~~ (at0 (nH Q y) ((k5 + 1) % 5))) &&& (at0 (nH Q y) ((k5 + 2) % 5))))) (fun _ _ => mK rfl rfl) ?_
 refine gi ?_
 refine bO ?_
 intro j9 c8 c9
 clear c9
 have g6 := St.tells b4 c8
 simp only [cV]
 refine dr (pP rb ((y + k5))) (fK (i := (y + k5)) Tryz.underlying217 (cE _) rfl rfl (by omega)) ?_
 simp only [pq]
 refine fI (i := 2) (v := aO ((at0 (nH Q y) k5) ^^^ ((~~~ (at0 (nH Q y) ((k5 + 1) % 5))) &&& (at0 (nH Q y) ((k5 + 2) % 5))))) g6 rfl rfl rfl rfl (pB) (lI rfl) (by rw [List.length_map, (pD _ _)]; show (y + k5) + 1 ≤ 25; omega) (fun g7 a4 => ?_)
 simp only [pq]
 have a4 : St w0 F0 g7 F (⟨b3, ((nH Q y).map aO), 233⟩ :: ⟨n2, ((cL Z 5).map aO), 233⟩ :: ⟨rb, (bN ((jG Q (y + k5)).map aO) (y + k5) [aO ((at0 (nH Q y) k5) ^^^ ((~~~ (at0 (nH Q y) ((k5 + 1) % 5))) &&& (at0 (nH Q y) ((k5 + 2) % 5))))]), 217⟩ :: L0) (M0) := a4
 rw [mN (Nat.lt_of_lt_of_eq (show (y + k5) < 25 by omega) (pD _ _).symm)] at a4
 rw [YB hy5 (by omega), PW Q (by omega)] at a4
 refine wlK c6 ?_
 refine aB ?_
 refine cN (k5 + 1) ?_
 refine dx ?_
 refine aG ?_
 exact c4 _ _ _ (by omega) ⟨(k5 + 1), _, rfl, rfl, rfl, a4, (by omega)⟩
 refine eR ?_
 simp only [pq]
 refine wn a9 ?_
 refine aE fun k0 h4 => ?_
 refine aF ?_
 refine cQ ?_
 refine g3 _ _ ?_
 obtain rfl : k5 = 5 := by omega
 refine aB ?_
 refine dx ?_
 refine cN (y + 5) ?_
 refine dy ?_
 simp only [pq]
 refine aG ?_
 have b4 := St.drop b4 (.cons _ (List.Sublist.refl _))
 exact g1 _ _ _ (by omega) ⟨(y + 5), _, rfl, rfl, rfl, b4, (by omega), (by omega)⟩
 refine eR ?_
 refine wn c3 ?_
 refine aF ?_
 refine cQ ?_
 refine f9 _ _ ?_
 obtain rfl : y = 25 := by omega
 refine aQ F 9 [] (by kernel_rfl) (by kernel_rfl) ?_
 simp only [cU]
 refine gm ?_
 refine gi ?_
 simp only [pq]
 refine gv (pP rb 0) (fun _ _ => fK (i := 0) Tryz.underlying217 (cE _) rfl rfl (by omega)) ?_
 refine gv _ (fun _ b5 => aD rfl (aR (eW _) (St.cell (St.tells c2 b5) (i := 1) rfl (eX (Nat.lt_of_lt_of_eq (show 0 < 25 by omega) (pD _ _).symm))))) ?_
 refine gm ?_
 simp only [pq]
 refine gv (pP 4 r) (fun _ _ => fK (i := r) Tryz.underlying218 (cE _) rfl rfl (by omega)) ?_
 refine gv _ (fun _ b5 => aD rfl (aR (eW _) (((hT.at (St.tells c2 b5).gr.below).2.2 r hr)))) ?_
 refine gv (aO ((at0 (jG Q 25) 0) ^^^ (wH r))) (fun _ _ => mK rfl rfl) ?_
 simp only [pq]
 refine gi ?_
 refine bO ?_
 intro k4 d0 d1
 clear d1
 have g8 := St.tells c2 d0
 simp only [cV]
 refine dr (pP rb 0) (fK (i := 0) Tryz.underlying217 (cE _) rfl rfl (by omega)) ?_
 refine fI (i := 1) (v := aO ((at0 (jG Q 25) 0) ^^^ (wH r))) g8 rfl rfl rfl rfl (pB) (lI rfl) (by rw [List.length_map, (pD _ _)]; show 0 + 1 ≤ 25; omega) (fun g9 a0 => ?_)
 simp only [pq]
 have a0 : St w0 F0 g9 F (⟨n2, ((cL Z 5).map aO), 233⟩ :: ⟨rb, (bN ((jG Q 25).map aO) 0 [aO ((at0 (jG Q 25) 0) ^^^ (wH r))]), 217⟩ :: L0) (M0) := a0
 rw [mN (Nat.lt_of_lt_of_eq (show 0 < 25 by omega) (pD _ _).symm)] at a0
 refine aG ?_
 try simp only [xt]
 refine bE (Bu rfl) ?_
 rw [TH] at a0
 have a0 := St.drop a0 (.cons _ (List.Sublist.refl _))
 rw [hQ, hA, Ap] at a0
 exact ⟨rfl, a0⟩
theorem Bv {E base : Nat} {w : World} {F : Fz} {l : By} {a : Option Addr} {n c : Nat} (h : Own 1 ByC E base w F (.slice a n c) l) {i : Nat} {b : UInt8} (hp : l[i]? = some b) : ∃ g, a = some ⟨g, 0, none⟩ ∧ w.cell? ⟨g, 0 + i * 1, none⟩ = some (bv b) := by
 obtain ⟨g, cs, e, _, r, hr⟩ := h.at hp
 have r : cs = [bv b] := r
 subst r
 refine ⟨g, e, ?_⟩
 have := hr 0 _ rfl
 rw [Nat.zero_add]
 simpa using this
section
variable {P : Program} {ρ : Operand → Value} {w : World} {d : Option Tmp} {t X Y E : TypeId} {pos : String} {after : Array Edge} {guard : Option (Nat × Bool)} {x y : Operand}
theorem Bw (b : UInt8) : bits .or .u8 (b.toNat : Int) 128 = ((b ||| 128).toNat : Int) := by
 have e1 : BitVec.ofInt 8 (b.toNat : Int) = b.toBitVec := by rw [BitVec.ofInt_natCast]; simp
 have e2 : BitVec.ofInt 8 (128 : Int) = (128 : UInt8).toBitVec := by decide
 have e3 : (b ||| 128).toNat = (b.toBitVec ||| (128 : UInt8).toBitVec).toNat := by rw [← UInt8.toBitVec_or]; rfl
 have hlt := (b ||| 128).toNat_lt
 unfold bits
 show IntKind.u8.wrap (((BitVec.ofInt 8 (b.toNat : Int) ||| BitVec.ofInt 8 (128 : Int)).toNat : Nat) : Int) = _
 rw [e1, e2, ← e3, show IntKind.u8.wrap (((b ||| 128).toNat : Nat) : Int) = (((b ||| 128).toNat : Nat) : Int) % 256 from rfl]
 omega
theorem At {b : UInt8} (hx : ρ x = bv b) (hy : ρ y = .int .u8 128) : (execOp ρ ⟨d, .binOp .or X x y Y, t, pos, after, guard⟩).run P w = .ok (.value (bv (b ||| 128))) w := by
 refine iZ hx hy ?_
 rw [dU _ (by simp)]
 show Result.ok (Value.int .u8 (bits .or .u8 (b.toNat : Int) 128)) w = _
 rw [Bw]; rfl
theorem OD {m n : Nat} (hx : ρ x = .int .i64 (m : Int)) (hy : ρ y = .int .i64 (n : Int)) (hn : 0 < n) (hm : m ≤ 9223372036854775807) : (execOp ρ ⟨d, .binOp .quo X x y Y, t, pos, after, guard⟩).run P w = .ok (.value (.int .i64 ((m / n : Nat) : Int))) w := by
 refine iZ hx hy ?_
 rw [dU _ (by simp)]
 show (Op.intDiv .quo .i64 m n).run P w = _
 unfold Op.intDiv
 rw [if_neg (by omega)]
 show Result.ok (Value.int .i64 (IntKind.i64.wrap (Int.tdiv (m : Int) (n : Int)))) w = _
 have hle : m / n ≤ m := Nat.div_le_self m n
 rw [Int.tdiv_eq_ediv_of_nonneg (by omega), ← Int.natCast_ediv]
 generalize m / n = q at *
 rw [iW (by omega) (by omega)]
theorem YC {a : BitVec 64} {n : Nat} (hx : ρ x = aO a) (hy : ρ y = .int .i64 (n : Int)) (hn : n ≤ 64) : (execOp ρ ⟨d, .binOp .shl X x y Y, t, pos, after, guard⟩).run P w = .ok (.value (aO (a <<< n))) w := by
 have e : (eqGuard .shl X x y (.int .u64 (fR a)) (.int .i64 (n : Int))).run P w = .ok () w := rfl
 have h : (binOp .shl X (.int .u64 (fR a)) (.int .i64 (n : Int))).run P w = .ok (aO (a <<< n)) w := by
  show (Op.shift .shl .u64 (fR a) .i64 (n : Int)).run P w = _
  unfold Op.shift
  rw [if_neg (by omega)]
  show Result.ok (Value.int .u64 (IntKind.u64.wrap (fR a * 2 ^ (min (n : Int).toNat 64)))) w = _
  rw [Int.toNat_natCast, Nat.min_eq_left hn, II]
 simp only [execOp, hx, hy, Sem.run_bind, e, Result.andThen_ok, h, Sem.run_pure]
theorem YD {a : BitVec 64} {n : Nat} (hx : ρ x = aO a) (hy : ρ y = .int .i64 (n : Int)) (hn : n ≤ 64) : (execOp ρ ⟨d, .binOp .shr X x y Y, t, pos, after, guard⟩).run P w = .ok (.value (aO (a >>> n))) w := by
 have e : (eqGuard .shr X x y (.int .u64 (fR a)) (.int .i64 (n : Int))).run P w = .ok () w := rfl
 have h : (binOp .shr X (.int .u64 (fR a)) (.int .i64 (n : Int))).run P w = .ok (aO (a >>> n)) w := by
  show (Op.shift .shr .u64 (fR a) .i64 (n : Int)).run P w = _
  unfold Op.shift
  rw [if_neg (by omega)]
  show Result.ok (Value.int .u64 (Int.fdiv (fR a) (2 ^ (min (n : Int).toNat 64)))) w = _
  rw [Int.toNat_natCast, Nat.min_eq_left hn, Int.fdiv_eq_ediv_of_nonneg _ (show (0 : Int) ≤ 2 ^ n from Int.le_of_lt (Int.pow_pos (by decide))), IJ]
 simp only [execOp, hx, hy, Sem.run_bind, e, Result.andThen_ok, h, Sem.run_pure]
theorem TK (b : UInt8) (w : World) : (convert 5 215 (bv b)).run Tryz.prog w = .ok (aO (BitVec.ofNat 64 b.toNat)) w := by
 have : (convert 5 215 (bv b)).run Tryz.prog w = .ok (.int .u64 (IntKind.u64.wrap (b.toNat : Int))) w := by kernel_rfl
 have hb := b.toNat_lt
 have e : IntKind.u64.wrap (b.toNat : Int) = fR (BitVec.ofNat 64 b.toNat) := by
  rw [IH]; unfold fR; simp; omega
 rw [this, e]
theorem TL (a : BitVec 64) (w : World) : (convert 215 5 (aO a)).run Tryz.prog w = .ok (bv (UInt8.ofNat (a.toNat % 256))) w := by
 have : (convert 215 5 (aO a)).run Tryz.prog w = .ok (.int .u8 (IntKind.u8.wrap (fR a))) w := by kernel_rfl
 have e : IntKind.u8.wrap (fR a) = ((UInt8.ofNat (a.toNat % 256)).toNat : Int) := by
  rw [show IntKind.u8.wrap (fR a) = fR a % 256 from rfl]; unfold fR; simp
 rw [this, e]; rfl
end
def dJ (b : By) (k : Nat) : By := (b ++ [6]) ++ List.replicate k 0
def dO (b : By) : Nat := (136 - (b.length + 1) % 136) % 136
theorem TM (b : By) (k : Nat) : (dJ b k).length = b.length + 1 + k := by simp [dJ]; omega
theorem PZ (b : By) (k : Nat) : dJ b k ++ [0] = dJ b (k + 1) := by
 unfold dJ
 rw [List.append_assoc, List.replicate_succ']
theorem QA (b : By) : b ++ [6] = dJ b 0 := by simp [dJ]
theorem YE {b : By} {x : UInt8} (h : (dJ b (dO b))[(dJ b (dO b)).length - 1]? = some x) : (dJ b (dO b)).set ((dJ b (dO b)).length - 1) (x ||| 128) = BR b := by
 have e : (dJ b (dO b)).getD ((dJ b (dO b)).length - 1) 0 = x := by rw [List.getD_eq_getElem?_getD, h]; rfl
 rw [← e]
 unfold BR dJ dO
 simp only [List.length_append, List.length_singleton]
theorem IN (b : By) : (BR b).length = b.length + 1 + dO b := by
 unfold BR dO
 simp only [List.length_set, List.length_append, List.length_singleton, List.length_replicate]
theorem yV (S : List (BitVec 64)) (p : By) : ∀ n, (qU S p n).length = S.length := by
 intro n
 induction n with
 | zero => rfl
 | succ n ih => unfold qU at *; rw [List.range_succ, List.foldl_append]; simpa using ih
theorem TN (S : List (BitVec 64)) {p : By} {n : Nat} {x : UInt8} (h : p[n]? = some x) : (qU S p n).set (n / 8) (at0 (qU S p n) (n / 8) ^^^ (BitVec.ofNat 64 x.toNat <<< (n % 8 * 8))) = qU S p (n + 1) := by
 have e : p.getD n 0 = x := by rw [List.getD_eq_getElem?_getD, h]; rfl
 rw [← e]
 unfold qU
 rw [List.range_succ, List.foldl_append]
 rfl
theorem QB (S : List (BitVec 64)) (r : Nat) : (CM S r).length = 25 := by
 unfold CM
 simp [VP, pK]
theorem AY (S : List (BitVec 64)) (n : Nat) : CM (lV S n) n = lV S (n + 1) := by
 unfold lV
 rw [List.range_succ, List.foldl_append]
 rfl
theorem DI {S : List (BitVec 64)} (h : S.length = 25) : ∀ n, (lV S n).length = 25
  | 0 => h
  | n + 1 => by rw [← AY]; exact QB _ _
theorem IP {Z : List (BitVec 64)} {p : By} (h : 136 ≤ p.length) : mG Z p (p.length / 136) = mG (lV (qU Z p 136) 24) (p.drop 136) ((p.drop 136).length / 136) := by
 rw [List.length_drop, show p.length / 136 = (p.length - 136) / 136 + 1 from by omega]
 rfl
def TO (Z : List (BitVec 64)) (i : Nat) : UInt8 := UInt8.ofNat ((at0 Z (i / 8) >>> (i % 8 * 8)).toNat % 256)
def vY (Z : List (BitVec 64)) (k : Nat) : By := (List.range 32).map fun i => if i < k then TO Z i else 0
theorem IQ (Z : List (BitVec 64)) (k : Nat) : (vY Z k).length = 32 := by simp [vY]
theorem QC (Z : List (BitVec 64)) : vY Z 0 = List.replicate 32 0 := by unfold vY; rfl
theorem TP (Z : List (BitVec 64)) : vY Z 32 = GO Z := by
 unfold vY GO
 exact List.map_congr_left fun i hi => by rw [if_pos (List.mem_range.1 hi)]; rfl
theorem QD (Z : List (BitVec 64)) {k : Nat} (h : k < 32) : (vY Z k).set k (TO Z k) = vY Z (k + 1) := by
 apply List.ext_getElem (by simp [vY])
 intro i h1 h2
 simp only [vY, List.getElem_set, List.getElem_map, List.getElem_range]
 by_cases e : k = i
 ·subst e; simp
 ·rw [if_neg e]
  by_cases e2 : i < k
  ·rw [if_pos e2, if_pos (by omega)]
  ·rw [if_neg e2, if_neg (by omega)]
theorem QE {l : By} {j : Nat} {x : UInt8} (h : j < l.length) : bN (l.map bv) j [bv x] = (l.set j x).map bv := by
 unfold bN
 rw [List.map_set, List.set_eq_take_append_cons_drop, if_pos (by simpa using h)]
 simp
theorem TQ (w : World) : (zeroValue 217).run Tryz.prog w = .ok (.agg ((List.replicate 25 (0 : BitVec 64)).map aO).toArray) w := by kernel_rfl
theorem Au {P : Program} {w0 w : World} {F0 F : Fz} {rb : Nat} {T : TypeId} {L0 : List Blk} {M0 : List RowP} {Z : List (BitVec 64)} {ops : Array Oper} {Q : Exit → Act → World → Prop} {a : Act} {rest : List Oper} {o : Oper} {k : FuncId} {vs : Array Value} (hw : Region.wanted o (yielded ops a.tmps) = true)
    (hr : (execOp a.eval o).run P w = .ok (.enter k vs) w) (hc : Calls P k vs w fun e w' => e = .returned (.tuple #[]) ∧ St w0 F0 w' F (⟨rb, Z.map aO, T⟩ :: L0) M0)
    (h : ∀ w', St w0 F0 w' F (⟨rb, Z.map aO, T⟩ :: L0) M0 → WL P ops Q rest (a.put o.dst (.tuple #[])) w') : WL P ops Q (o :: rest) a w :=
  doC hw hr hc fun e w' ⟨he, hS⟩ => ⟨_, he, h w' hS⟩
theorem Sl.dropD {α : Type} {k : Nat} {R : Fz → List Value → α → Prop} {F : Fz} {a : Option Addr} {n c m : Nat} {l : List α} (hk : 0 < k) (h : Sl k R F (.slice a n c) l) (hm : m ≤ n) : Sl k R F (.slice (if c = m then a else a.map (·.add (m * k))) (n - m) (c - m)) (l.drop m) := by
 have hn := Sl.len h
 obtain ⟨el, h1, h2, h3⟩ := h
 obtain ⟨a0, c0, e1, q1, q2, q3, q4⟩ := h1
 injection e1 with e1 e2 e3
 subst e1; subst e3
 have hll := h2.len
 by_cases hmn : m = l.length
 have e : l.drop m = [] := List.drop_of_length_le (by omega)
 have e0 : n - m = 0 := by omega
 rw [e, e0]
 refine ⟨[], ⟨_, c - m, rfl, by simp, by omega, fun e => ?_, .inl rfl⟩, trivial, by simp⟩
 cases a with
 | none => have := q3 rfl; exact ⟨rfl, by omega⟩
 | some ad => split at e <;> cases e
 have hpos : el.flatten ≠ [] := by
  intro e
  have := congrArg List.length e
  rw [eV h3, hll] at this
  have := Nat.mul_pos (show 0 < l.length by omega) hk
  simp at *
  omega
 obtain ⟨b, o, e, hc⟩ := q4.resolve_left hpos
 subst e
 rw [if_neg (by omega)]
 have hs : Sl k R F (.slice (some ⟨b, o, none⟩) n c) l := ⟨el, ⟨_, _, by rw [hn], q1, q2, q3, .inr ⟨b, o, rfl, hc⟩⟩, h2, h3⟩
 have := Sl.dropN (m := m) hs hm rfl rfl
 show Sl k R F (.slice (some (Addr.add ⟨b, o, none⟩ (m * k))) _ _) _
 rw [Addr.add_mid]
 exact this
theorem Bs.restD {F : Fz} {a : Option Addr} {m c n : Nat} {l : By} (h : Bs F (.slice a m c) l) (hn : n ≤ m) : Bs F (.slice (if c = n then a else a.map (·.add (n * 1))) (m - n) (c - n)) (l.drop n) := dS (Sl.dropD (by decide) h.sl hn)
theorem LS (n : Nat) : (madeCells (Value.int .u8 0).cells (n * 1)).toList = (List.replicate n (0 : UInt8)).map bv := by
 rw [show (Value.int .u8 0).cells = #[.int .u8 0] from rfl, toList_madeCells_one]; simp [bv]
theorem LU (S : List (BitVec 64)) : lV S 0 = S := rfl
theorem TR (S : List (BitVec 64)) (p : By) : qU S p 0 = S := rfl
theorem QF {Z X R : List (BitVec 64)} {p : By} (hX : X = qU Z p 136) (h : 136 ≤ p.length) (e : mG Z p (p.length / 136) = R) : mG (lV X 24) (p.drop 136) ((p.drop 136).length / 136) = R := by
 rw [hX, ← IP h]; exact e
theorem LV {Z R : List (BitVec 64)} {p : By} (h : p.length / 136 = 0) (e : mG Z p (p.length / 136) = R) : Z = R := by
 rw [h] at e; rw [← e]; cases p <;> rfl
theorem vZ (Z : List (BitVec 64)) : (GO Z).length = 32 := by simp [GO]
theorem OE (F : Fz) (w : World) (v : Value) (b : By) (hs : Sat w F) (hT : Tabs w) (hb : Bs F v b) (hn : b.length ≤ 100000) :
    Calls Tryz.prog 117 #[v] w (rH w F 1 ByC 5 (lW b)) := by
 obtain ⟨x, y, rfl, hc1', hc2'⟩ := hb.shape
 unfold maxLen at hc2'
 obtain ⟨i5, hi5, hz5, hs5, hb5⟩ := info_parts pG
 have S := St.start hs
 go_enter Tryz.func117, Tryz.ntmps117
 refine wp_seq_k (fun K1 hK1 => aB ?_)
 refine aC ?_
 refine wlK hK1 ?_
 refine wp_seq_k (fun K2 hK2 => aB ?_)
 refine aC ?_
 have S3 := St.addNil S 1 ByC ByC.mono 5 w.heap.size
 refine fL (r := 0) (u := (.slice x b.length y)) S3 rfl i5 (.int .u8 0) 1 Tryz.underlying25 hi5 hz5 hs5 hb5 rfl (by decide) rfl rfl rfl (Sl.toW (Bs.sl hb) (S3).sat) ByC.one (Nat.le_refl _) S3.gr.below.size (by unfold maxLen; simp only [List.length_nil]; omega) (by simp only [List.length_nil]; omega) ?_
 intro v4 w5 S6 hn7
 simp only [pq]
 have S6 : St w F w5 F [] [cI 1 ByC ByC.mono 5 w.heap.size v4 ([] ++ b)] := S6
 refine bB S6 (v := fun n => .slice (some ⟨n, 0, none⟩) 1 1) rfl (cX (ps := #[(0, (.int .u8 6))]) (cells := #[(.int .u8 6)]) (E := 5) (dH rfl) (fun w => by kernel_rfl)) (fun n8 w9 c2 => ?_)
 simp only [pq]
 have c2 : St w F w9 F [⟨n8, [(.int .u8 6)], 5⟩] [cI 1 ByC ByC.mono 5 w.heap.size v4 ([] ++ b)] := c2
 rw [List.nil_append] at c2
 refine fJ (i := 0) (r := 0) (p := (6 : UInt8)) (cs := [(.int .u8 6)]) c2 rfl i5 (.int .u8 0) 1 Tryz.underlying25 hi5 hz5 hs5 hb5 rfl (by decide) rfl rfl rfl rfl rfl (qE 6) (rfl) (Nat.le_refl _) c2.gr.below.size (by unfold maxLen; omega) (by omega) ?_
 intro b5 h8 c0 h9
 simp only [pq]
 have c0 := St.drop c0 (L' := []) (.cons _ (List.Sublist.refl _))
 have c0 : St w F h8 F [] [cI 1 ByC ByC.mono 5 w.heap.size b5 (b ++ [(6 : UInt8)])] := c0
 refine aC ?_
 refine wlK hK2 ?_
 refine aE fun m0 e4 => ?_
 refine aM ?_
 rw [QA] at c0
 refine aW (fun mm aa i0 => ∃ (k : Nat) (v : Value) (b6 : Nat → Value), mm = dO b - k ∧ b6 = eC aa ∧ aa = ⟨([(.slice x b.length y), undef, (.slice none 0 0), v] ++ (udF 5 ([(.slice x b.length y), v4, (.slice (some ⟨n8, 0, none⟩) 1 1), b5] ++ (usF b6 13 7 (udF 58 []))))).toArray, []⟩ ∧ St w F i0 F [] [cI 1 ByC ByC.mono 5 w.heap.size v (dJ b k)] ∧ (k ≤ dO b)) _ ⟨0, b5, _, rfl, rfl, rfl, c0, (Nat.zero_le _)⟩ ?_
 rintro m1 m2 m3 ⟨k, v, b6, rfl, -, hfr, d9, hk⟩ m4 e5
 simp only [uzF, Nat.reduceAdd] at hfr; subst hfr
 refine aE fun m5 e6 => ?_
 refine aE fun m6 c3 => ?_
 have hpl := TM b k
 have hpn : dO b < 136 := by unfold dO; omega
 obtain ⟨i1, a0, rfl, m7, i2⟩ := (d9.own (i := 0) rfl).shape
 unfold maxLen at i2
 refine aB ?_
 refine aC ?_
 refine do_ rfl (.int .i64 ((((dJ b k).length % 136) : Nat) : Int)) (oC (m := ((dJ b k).length)) (n := 136) rfl rfl (by decide) (by omega)) ?_
 simp only [pq]
 by_cases i3 : ((dJ b k).length % 136) = 0
 ·refine do_ rfl (.bool false) (bP (m := ((((dJ b k).length % 136) : Nat) : Int)) (n := (0 : Int)) (b := false) rfl rfl (bne_eq_false_iff_eq.2 (by omega))) ?_
  simp only [pq]
  refine wlK c3 ?_
  refine aF ?_
  refine cQ ?_
  refine e4 _ _ ?_
  refine aE fun m8 e7 => ?_
  have hkk : k = dO b := by unfold dO at *; omega
  subst hkk
  obtain ⟨xb, hxb⟩ : ∃ x, (dJ b (dO b))[(dJ b (dO b)).length - 1]? = some x := ⟨_, List.getElem?_eq_getElem (by omega)⟩
  obtain ⟨a2, e8, i4⟩ := Bv (St.own d9 (i := 0) rfl) hxb
  subst e8
  refine aB ?_
  refine aC ?_
  refine do_ rfl (.int .i64 ((((dJ b (dO b)).length - 1) : Nat) : Int)) (tS (m := (((dJ b (dO b)).length : Nat) : Int)) (n := (1 : Int)) (r := ((((dJ b (dO b)).length - 1) : Nat) : Int)) rfl rfl (by omega) (by omega) (by omega)) ?_
  simp only [pq]
  refine do_ rfl (.pointer (some ⟨a2, 0 + ((dJ b (dO b)).length - 1) * 1, none⟩)) (bY (i := ((dJ b (dO b)).length - 1)) (sz := 1) Tryz.underlying25 (bD _) rfl rfl rfl (by omega) rfl) ?_
  simp only [pq]
  refine do_ rfl (bv xb) (aD rfl (aR (iN _) i4)) ?_
  simp only [pq]
  refine do_ rfl (bv (xb ||| 128)) (At rfl rfl) ?_
  simp only [pq]
  refine do_ rfl (.pointer (some ⟨a2, 0 + ((dJ b (dO b)).length - 1) * 1, none⟩)) (bY (i := ((dJ b (dO b)).length - 1)) (sz := 1) Tryz.underlying25 (bD _) rfl rfl rfl (by omega) rfl) ?_
  simp only [pq]
  refine zQ (r := 0) (i := ((dJ b (dO b)).length - 1)) (p := (xb ||| 128)) (u := (bv (xb ||| 128))) d9 rfl rfl (by omega) rfl rfl (by omega) (RR) (lI rfl) rfl rfl (Nat.le_refl _) (fun h4 e0 => ?_)
  simp only [pq]
  have e0 : St w F h4 F [] [cI 1 ByC ByC.mono 5 w.heap.size (.slice (some ⟨a2, 0, none⟩) (dJ b (dO b)).length a0) ((dJ b (dO b)).set ((dJ b (dO b)).length - 1) (xb ||| 128))] := e0
  rw [YE hxb] at e0
  refine wlK e7 ?_
  refine aE fun m9 e9 => ?_
  obtain ⟨a5, f0, i6, b7⟩ := St.freeze e0 (i := 0) rfl (Nat.le_refl _)
  have f0 : St w F h4 a5 [] [] := f0
  have b7 : Bys _ (.slice (some ⟨a2, 0, none⟩) (dJ b (dO b)).length a0) (BR b) := b7
  have i7 := dS b7
  refine aB ?_
  refine bB f0 (v := fun n => .pointer (some ⟨n, 0, none⟩)) rfl (zN (TQ _)) (fun a3 i8 f1 => ?_)
  simp only [pq]
  have f1 : St w F i8 a5 [⟨a3, ((List.replicate 25 (0 : BitVec 64)).map aO), 217⟩] [] := f1
  refine wlK e9 ?_
  refine aE fun n0 f2 => ?_
  refine aM ?_
  refine aW (fun mm aa i9 => ∃ (Z : List (BitVec 64)) (ra : Option Addr) (rn : Nat) (rc : Nat) (rest : By) (a7 : Nat → Value), mm = rest.length ∧ a7 = eC aa ∧ aa = ⟨([(.slice x b.length y), undef, (.slice none 0 0), (.slice ra rn rc), (.pointer (some ⟨a3, 0, none⟩)), (a7 5), (a7 6), undef, undef, (.slice x b.length y), v4, (.slice (some ⟨n8, 0, none⟩) 1 1), b5, (.slice (some ⟨a2, 0, none⟩) (dJ b (dO b)).length a0), (.int .i64 (((dJ b (dO b)).length : Nat) : Int)), (.int .i64 ((((dJ b (dO b)).length % 136) : Nat) : Int)), (.bool false)] ++ (usF b6 17 3 ([(.slice (some ⟨a2, 0, none⟩) (dJ b (dO b)).length a0), (.slice (some ⟨a2, 0, none⟩) (dJ b (dO b)).length a0), (.int .i64 (((dJ b (dO b)).length : Nat) : Int)), (.int .i64 ((((dJ b (dO b)).length - 1) : Nat) : Int)), (.pointer (some ⟨a2, 0 + ((dJ b (dO b)).length - 1) * 1, none⟩)), (bv xb), (bv (xb ||| 128)), (.pointer (some ⟨a2, 0 + ((dJ b (dO b)).length - 1) * 1, none⟩))] ++ (usF a7 28 30 (udF 20 []))))).toArray, []⟩ ∧ St w F i9 a5 [⟨a3, (Z.map aO), 217⟩] [] ∧ (Z.length = 25) ∧ (Bs a5 (.slice ra rn rc) rest) ∧ (rest.length % 136 = 0) ∧ (rest.length ≤ 200000) ∧ (mG Z rest (rest.length / 136) = mG (List.replicate 25 0) (BR b) ((BR b).length / 136))) _ ⟨(List.replicate 25 0), (some ⟨a2, 0, none⟩), (dJ b (dO b)).length, a0, (BR b), _, rfl, rfl, rfl, f1, (by simp), i7, (by rw [IN]; unfold dO; omega), (by rw [IN]; unfold dO; omega), rfl⟩ ?_
  rintro n1 n2 j0 ⟨Z, ra, rn, rc, rest, a7, rfl, -, hfr, e1, hZ, hrest, hrm, hrl, hab⟩ n3 f3
  simp only [uzF, Nat.reduceAdd] at hfr; subst hfr
  refine aE fun n4 f4 => ?_
  refine aE fun n5 c4 => ?_
  have hrn := hrest.len
  refine aB ?_
  refine aC ?_
  by_cases j1 : 0 < rn
  ·refine do_ rfl (.bool true) (rG (m := ((rn : Nat) : Int)) (n := (0 : Int)) (b := true) rfl rfl (decide_eq_true (by omega))) ?_
   simp only [pq]
   refine wlK c4 ?_
   refine aI ?_
   refine aH ?_
   refine f4 _ _ ?_
   refine aE fun n6 f5 => ?_
   refine aM ?_
   refine aE fun n7 f6 => ?_
   refine wp_seq_k (fun n9 f7 => aB ?_)
   refine aC ?_
   refine wlK f7 ?_
   refine aM ?_
   have e1 : St w F j0 a5 [⟨a3, ((qU Z rest 0).map aO), 217⟩] [] := by rw [TR]; exact e1
   refine aW (fun mm aa j2 => ∃ (i : Nat) (c1 : Nat → Value), mm = 136 - i ∧ c1 = eC aa ∧ aa = ⟨([(.slice x b.length y), undef, (.slice none 0 0), (.slice ra rn rc), (.pointer (some ⟨a3, 0, none⟩)), (c1 5), (a7 6), undef, undef, (.slice x b.length y), v4, (.slice (some ⟨n8, 0, none⟩) 1 1), b5, (.slice (some ⟨a2, 0, none⟩) (dJ b (dO b)).length a0), (.int .i64 (((dJ b (dO b)).length : Nat) : Int)), (.int .i64 ((((dJ b (dO b)).length % 136) : Nat) : Int)), (.bool false)] ++ (usF b6 17 3 ([(.slice (some ⟨a2, 0, none⟩) (dJ b (dO b)).length a0), (.slice (some ⟨a2, 0, none⟩) (dJ b (dO b)).length a0), (.int .i64 (((dJ b (dO b)).length : Nat) : Int)), (.int .i64 ((((dJ b (dO b)).length - 1) : Nat) : Int)), (.pointer (some ⟨a2, 0 + ((dJ b (dO b)).length - 1) * 1, none⟩)), (bv xb), (bv (xb ||| 128)), (.pointer (some ⟨a2, 0 + ((dJ b (dO b)).length - 1) * 1, none⟩)), (.slice ra rn rc), (.int .i64 ((rn : Nat) : Int)), (.bool true), (a7 31), (a7 32), (.int .i64 ((i : Nat) : Int))] ++ (usF c1 34 18 (usF a7 52 6 (udF 20 [])))))).toArray, []⟩ ∧ St w F j2 a5 [⟨a3, ((qU Z rest i).map aO), 217⟩] [] ∧ (i ≤ 136)) _ ⟨0, _, rfl, rfl, rfl, e1, (by omega)⟩ ?_
   rintro o0 o1 j3 ⟨i, c1, rfl, -, hfr, b9, hi⟩ o2 f8
   simp only [uzF, Nat.reduceAdd] at hfr; subst hfr
   refine wp_seq_k (fun o3 c5 => aB ?_)
   by_cases j4 : i < 136
   ·refine do_ rfl (.bool true) (mT (m := ((i : Nat) : Int)) (n := (136 : Int)) (b := true) rfl rfl (decide_eq_true (by omega))) ?_
    simp only [pq]
    refine wlK c5 ?_
    refine aE fun o4 f9 => ?_
    refine aI ?_
    refine aH ?_
    refine f9 _ _ ?_
    refine aE fun o5 g0 => ?_
    refine aM ?_
    refine wp_seq_k (fun o6 g1 => aB ?_)
    refine aC ?_
    refine wlK g1 ?_
    obtain ⟨xi, hxi⟩ : ∃ x, rest[i]? = some x := ⟨_, List.getElem?_eq_getElem (by omega)⟩
    obtain ⟨j5, j6, g2, j7⟩ := Bs.get hrest hxi
    refine aQ a5 13 [] (by kernel_rfl) (by kernel_rfl) ?_
    simp only [cU]
    refine gA rfl rfl (.int .i64 ((i : Nat) : Int)) (fun b0 a1 => aL (fS _)) ?_
    simp only [pq]
    refine gA rfl rfl (.int .i64 (((i / 8) : Nat) : Int)) (fun b0 a1 => aL (OD (m := i) (n := 8) rfl rfl (by decide) (by omega))) ?_
    simp only [pq]
    refine gA rfl rfl (.pointer (some ⟨a3, (i / 8), none⟩)) (fun b0 a1 => aL (fK (i := (i / 8)) Tryz.underlying217 (cE _) rfl rfl (by omega))) ?_
    simp only [pq]
    refine gA rfl rfl (aO (at0 (qU Z rest i) (i / 8))) (fun b0 a1 => aL (aD rfl (aR (eW _) (St.cell (St.tells b9 a1) (i := 0) rfl (eX (Nat.lt_of_lt_of_eq (show (i / 8) < 25 by omega) ((yV _ _ _).trans hZ).symm)))))) ?_
    simp only [pq]
    refine gA rfl rfl (.slice ra rn rc) (fun b0 a1 => aL (fS _)) ?_
    simp only [pq]
    refine gA rfl rfl (.int .i64 ((i : Nat) : Int)) (fun b0 a1 => aL (fS _)) ?_
    simp only [pq]
    refine gA rfl rfl (.pointer (some ⟨j5, j6 + i * 1, none⟩)) (fun b0 a1 => aL (bY (i := i) (sz := 1) Tryz.underlying25 (bD _) rfl g2 rfl (by omega) rfl)) ?_
    simp only [pq]
    refine gA rfl rfl (bv xi) (fun b0 a1 => aL (aD rfl (aR (iN _) (St.fz (St.tells b9 a1) j7)))) ?_
    simp only [pq]
    refine gA rfl rfl (aO (BitVec.ofNat 64 xi.toNat)) (fun b0 a1 => aL (bA (v := (bv xi)) rfl (TK xi _))) ?_
    simp only [pq]
    refine gA rfl rfl (.int .i64 ((i : Nat) : Int)) (fun b0 a1 => aL (fS _)) ?_
    simp only [pq]
    refine gA rfl rfl (.int .i64 (((i % 8) : Nat) : Int)) (fun b0 a1 => aL (oC (m := i) (n := 8) rfl rfl (by decide) (by omega))) ?_
    simp only [pq]
    refine gA rfl rfl (.int .i64 ((((i % 8) * 8) : Nat) : Int)) (fun b0 a1 => aL (RL (m := (((i % 8) : Nat) : Int)) (n := (8 : Int)) (r := ((((i % 8) * 8) : Nat) : Int)) rfl rfl (by omega) (by omega) (by omega))) ?_
    simp only [pq]
    refine gA rfl rfl (aO ((BitVec.ofNat 64 xi.toNat) <<< ((i % 8) * 8))) (fun b0 a1 => aL (YC (n := ((i % 8) * 8)) rfl rfl (by omega))) ?_
    simp only [pq]
    refine bO ?_
    intro o7 g3 g4
    clear g4
    have j8 := St.tells b9 g3
    simp only [cV]
    refine do_ rfl (aO ((at0 (qU Z rest i) (i / 8)) ^^^ ((BitVec.ofNat 64 xi.toNat) <<< ((i % 8) * 8)))) (mK rfl rfl) ?_
    simp only [pq]
    refine do_ rfl (.pointer (some ⟨a3, (i / 8), none⟩)) (fK (i := (i / 8)) Tryz.underlying217 (cE _) rfl rfl (by omega)) ?_
    simp only [pq]
    refine fI (i := 0) (v := aO ((at0 (qU Z rest i) (i / 8)) ^^^ ((BitVec.ofNat 64 xi.toNat) <<< ((i % 8) * 8)))) j8 rfl rfl rfl rfl (pB) (lI rfl) (by rw [List.length_map, ((yV _ _ _).trans hZ)]; show (i / 8) + 1 ≤ 25; omega) (fun j9 c6 => ?_)
    simp only [pq]
    have c6 : St w F j9 a5 [⟨a3, (bN ((qU Z rest i).map aO) (i / 8) [aO ((at0 (qU Z rest i) (i / 8)) ^^^ ((BitVec.ofNat 64 xi.toNat) <<< ((i % 8) * 8)))]), 217⟩] [] := c6
    rw [mN (Nat.lt_of_lt_of_eq (show (i / 8) < 25 by omega) ((yV _ _ _).trans hZ).symm)] at c6
    rw [TN Z hxi] at c6
    refine wlK g0 ?_
    refine aB ?_
    refine do_ rfl (.int .i64 (((i + 1) : Nat) : Int)) (fO (m := ((i : Nat) : Int)) (n := (1 : Int)) (r := (((i + 1) : Nat) : Int)) rfl rfl (by omega) (by omega) (by omega)) ?_
    refine aC ?_
    refine aG ?_
    exact f8 _ _ _ (by omega) ⟨(i + 1), _, rfl, rfl, rfl, c6, (by omega)⟩
   ·refine do_ rfl (.bool false) (mT (m := ((i : Nat) : Int)) (n := (136 : Int)) (b := false) rfl rfl (decide_eq_false (by omega))) ?_
    simp only [pq]
    refine wlK c5 ?_
    refine aE fun o8 k0 => ?_
    refine aF ?_
    refine cQ ?_
    refine f6 _ _ ?_
    refine aE fun o9 g5 => ?_
    obtain rfl : i = 136 := by omega
    obtain ⟨Xm, hXm⟩ : ∃ X, X = qU Z rest 136 := ⟨_, rfl⟩
    have hXl : Xm.length = 25 := by rw [hXm]; exact (yV _ _ _).trans hZ
    rw [← hXm] at b9
    refine aB ?_
    refine aC ?_
    refine wlK g5 ?_
    refine aM ?_
    have b9 : St w F j3 a5 [⟨a3, ((lV Xm 0).map aO), 217⟩] [] := by rw [LU]; exact b9
    refine aW (fun mm aa k1 => ∃ (q : Nat) (e2 : Nat → Value), mm = 24 - q ∧ e2 = eC aa ∧ aa = ⟨([(.slice x b.length y), undef, (.slice none 0 0), (.slice ra rn rc), (.pointer (some ⟨a3, 0, none⟩)), (c1 5), (e2 6), undef, undef, (.slice x b.length y), v4, (.slice (some ⟨n8, 0, none⟩) 1 1), b5, (.slice (some ⟨a2, 0, none⟩) (dJ b (dO b)).length a0), (.int .i64 (((dJ b (dO b)).length : Nat) : Int)), (.int .i64 ((((dJ b (dO b)).length % 136) : Nat) : Int)), (.bool false)] ++ (usF b6 17 3 ([(.slice (some ⟨a2, 0, none⟩) (dJ b (dO b)).length a0), (.slice (some ⟨a2, 0, none⟩) (dJ b (dO b)).length a0), (.int .i64 (((dJ b (dO b)).length : Nat) : Int)), (.int .i64 ((((dJ b (dO b)).length - 1) : Nat) : Int)), (.pointer (some ⟨a2, 0 + ((dJ b (dO b)).length - 1) * 1, none⟩)), (bv xb), (bv (xb ||| 128)), (.pointer (some ⟨a2, 0 + ((dJ b (dO b)).length - 1) * 1, none⟩)), (.slice ra rn rc), (.int .i64 ((rn : Nat) : Int)), (.bool true), (a7 31), (a7 32), (.int .i64 136), (.bool false)] ++ (usF c1 35 17 ([(.int .i64 ((q : Nat) : Int))] ++ (usF e2 53 5 (udF 20 []))))))).toArray, []⟩ ∧ St w F k1 a5 [⟨a3, ((lV Xm q).map aO), 217⟩] [] ∧ (q ≤ 24)) _ ⟨0, _, rfl, rfl, rfl, b9, (by omega)⟩ ?_
    rintro p0 p1 p2 ⟨q, e2, rfl, -, hfr, h5, hq⟩ p3 g6
    simp only [uzF, Nat.reduceAdd] at hfr; subst hfr
    refine wp_seq_k (fun p4 c7 => aB ?_)
    by_cases k2 : q < 24
    ·refine do_ rfl (.bool true) (mT (m := ((q : Nat) : Int)) (n := (24 : Int)) (b := true) rfl rfl (decide_eq_true (by omega))) ?_
     simp only [pq]
     refine wlK c7 ?_
     refine aE fun p5 g7 => ?_
     refine aI ?_
     refine aH ?_
     refine g7 _ _ ?_
     refine aE fun p6 g8 => ?_
     refine aM ?_
     refine wp_seq_k (fun p7 g9 => aB ?_)
     refine aC ?_
     refine wlK g9 ?_
     refine aB ?_
     refine aC ?_
     refine Au rfl (cJ (vs := #[(.pointer (some ⟨a3, 0, none⟩)), (.int .i64 ((q : Nat) : Int))]) (iL rfl rfl) rfl (XP _ _)) (PY h5 (DI hXl _) hT (by omega)) (fun k3 e3 => ?_)
     simp only [pq]
     have e3 : St w F k3 a5 [⟨a3, ((CM (lV Xm q) q).map aO), 217⟩] [] := e3
     rw [AY] at e3
     refine wlK g8 ?_
     refine aB ?_
     refine do_ rfl (.int .i64 (((q + 1) : Nat) : Int)) (fO (m := ((q : Nat) : Int)) (n := (1 : Int)) (r := (((q + 1) : Nat) : Int)) rfl rfl (by omega) (by omega) (by omega)) ?_
     refine aC ?_
     refine aG ?_
     exact g6 _ _ _ (by omega) ⟨(q + 1), _, rfl, rfl, rfl, e3, (by omega)⟩
    ·refine do_ rfl (.bool false) (mT (m := ((q : Nat) : Int)) (n := (24 : Int)) (b := false) rfl rfl (decide_eq_false (by omega))) ?_
     simp only [pq]
     refine wlK c7 ?_
     refine aE fun p8 k4 => ?_
     refine aF ?_
     refine cQ ?_
     refine f5 _ _ ?_
     obtain rfl : q = 24 := by omega
     refine aB ?_
     refine aC ?_
     have hcap : rest.length ≤ rc := by obtain ⟨_, _, e, q, _⟩ := hrest.shape; injection e with _ _ e; rw [e]; exact q
     have k5 : Bs _ (.slice (if rc = 136 then ra else ra.map (·.add (136 * 1))) (rn - 136) (rc - 136)) (rest.drop 136) := Bs.restD hrest (by omega)
     refine do_ rfl (.slice (if rc = 136 then ra else ra.map (·.add (136 * 1))) (rn - 136) (rc - 136)) (aV (l := 136) (h := rn) (sz := 1) Tryz.underlying25 rfl (bD _) (.inr ⟨_, rfl, rfl⟩) (.inl ⟨rfl, rfl⟩) (by omega) (by omega) (rfl)) ?_
     refine aC ?_
     refine aG ?_
     have hdl : (rest.drop 136).length = rest.length - 136 := by simp
     exact f3 _ _ _ (by omega) ⟨(lV Xm 24), (if rc = 136 then ra else ra.map (·.add (136 * 1))), (rn - 136), (rc - 136), (rest.drop 136), _, rfl, rfl, rfl, h5, (DI hXl 24), k5, (by omega), (by omega), (QF hXm (by omega) hab)⟩
  ·refine do_ rfl (.bool false) (rG (m := ((rn : Nat) : Int)) (n := (0 : Int)) (b := false) rfl rfl (decide_eq_false (by omega))) ?_
   simp only [pq]
   refine wlK c4 ?_
   refine aF ?_
   refine cQ ?_
   refine f2 _ _ ?_
   refine aE fun k6 c8 => ?_
   have hZa := LV (by omega) hab
   refine aB ?_
   refine EC (k := 1) (n := 32) (m := 32) e1 rfl i5 (.int .u8 0) 1 Tryz.underlying25 hi5 hz5 hs5 hb5 rfl rfl (by omega) (by omega) (by omega) ?_
   intro a4 c9 a8
   rw [LS] at a8
   simp only [pq]
   have a8 : St w F c9 a5 [⟨a4, ((List.replicate 32 (0 : UInt8)).map bv), 5⟩, ⟨a3, (Z.map aO), 217⟩] [] := a8
   have a8 : St w F c9 a5 [⟨a4, ((vY Z 0).map bv), 5⟩, ⟨a3, (Z.map aO), 217⟩] [] := by rw [QC]; exact a8
   refine aC ?_
   refine wlK c8 ?_
   refine aE fun k7 d0 => ?_
   refine wp_seq_k (fun k8 d1 => aB ?_)
   refine aC ?_
   refine wlK d1 ?_
   refine aM ?_
   refine aW (fun mm aa h0 => ∃ (j : Nat) (b2 : Nat → Value), mm = 32 - j ∧ b2 = eC aa ∧ aa = ⟨([(.slice x b.length y), undef, (.slice none 0 0), (.slice ra rn rc), (.pointer (some ⟨a3, 0, none⟩)), (a7 5), (a7 6), (.slice (some ⟨a4, 0, none⟩) 32 32), (b2 8), (.slice x b.length y), v4, (.slice (some ⟨n8, 0, none⟩) 1 1), b5, (.slice (some ⟨a2, 0, none⟩) (dJ b (dO b)).length a0), (.int .i64 (((dJ b (dO b)).length : Nat) : Int)), (.int .i64 ((((dJ b (dO b)).length % 136) : Nat) : Int)), (.bool false)] ++ (usF b6 17 3 ([(.slice (some ⟨a2, 0, none⟩) (dJ b (dO b)).length a0), (.slice (some ⟨a2, 0, none⟩) (dJ b (dO b)).length a0), (.int .i64 (((dJ b (dO b)).length : Nat) : Int)), (.int .i64 ((((dJ b (dO b)).length - 1) : Nat) : Int)), (.pointer (some ⟨a2, 0 + ((dJ b (dO b)).length - 1) * 1, none⟩)), (bv xb), (bv (xb ||| 128)), (.pointer (some ⟨a2, 0 + ((dJ b (dO b)).length - 1) * 1, none⟩)), (.slice ra rn rc), (.int .i64 ((rn : Nat) : Int)), (.bool false)] ++ (usF a7 31 27 ([(.slice (some ⟨a4, 0, none⟩) 32 32), (.slice (some ⟨a4, 0, none⟩) 32 32), (.int .i64 32), (.int .i64 ((j : Nat) : Int))] ++ (usF b2 62 15 [undef])))))).toArray, []⟩ ∧ St w F h0 a5 [⟨a4, ((vY Z j).map bv), 5⟩, ⟨a3, (Z.map aO), 217⟩] [] ∧ (j ≤ 32)) _ ⟨0, _, rfl, rfl, rfl, a8, (by omega)⟩ ?_
   rintro k9 l0 l1 ⟨j, b2, rfl, -, hfr, b1, hj⟩ l2 d2
   simp only [uzF, Nat.reduceAdd] at hfr; subst hfr
   refine wp_seq_k (fun l3 b4 => aB ?_)
   by_cases l4 : j < 32
   ·refine do_ rfl (.bool true) (mT (m := ((j : Nat) : Int)) (n := (32 : Int)) (b := true) rfl rfl (decide_eq_true (by omega))) ?_
    simp only [pq]
    refine wlK b4 ?_
    refine aE fun l5 d3 => ?_
    refine aI ?_
    refine aH ?_
    refine d3 _ _ ?_
    refine aE fun l6 d4 => ?_
    refine aM ?_
    refine wp_seq_k (fun l7 d5 => aB ?_)
    refine aC ?_
    refine wlK d5 ?_
    refine aB ?_
    refine aC ?_
    refine do_ rfl (.int .i64 (((j / 8) : Nat) : Int)) (OD (m := j) (n := 8) rfl rfl (by decide) (by omega)) ?_
    simp only [pq]
    refine do_ rfl (.pointer (some ⟨a3, (j / 8), none⟩)) (fK (i := (j / 8)) Tryz.underlying217 (cE _) rfl rfl (by omega)) ?_
    simp only [pq]
    refine do_ rfl (aO (at0 Z (j / 8))) (aD rfl (aR (eW _) (St.cell b1 (i := 1) rfl (eX (Nat.lt_of_lt_of_eq (show (j / 8) < 25 by omega) hZ.symm))))) ?_
    refine aC ?_
    refine do_ rfl (.int .i64 (((j % 8) : Nat) : Int)) (oC (m := j) (n := 8) rfl rfl (by decide) (by omega)) ?_
    simp only [pq]
    refine do_ rfl (.int .i64 ((((j % 8) * 8) : Nat) : Int)) (RL (m := (((j % 8) : Nat) : Int)) (n := (8 : Int)) (r := ((((j % 8) * 8) : Nat) : Int)) rfl rfl (by omega) (by omega) (by omega)) ?_
    simp only [pq]
    refine do_ rfl (aO ((at0 Z (j / 8)) >>> ((j % 8) * 8))) (YD (n := ((j % 8) * 8)) rfl rfl (by omega)) ?_
    simp only [pq]
    refine do_ rfl (bv (UInt8.ofNat (((at0 Z (j / 8)) >>> ((j % 8) * 8)).toNat % 256))) (bA (v := (aO ((at0 Z (j / 8)) >>> ((j % 8) * 8)))) rfl (TL ((at0 Z (j / 8)) >>> ((j % 8) * 8)) _)) ?_
    simp only [pq]
    refine do_ rfl (.pointer (some ⟨a4, 0 + j * 1, none⟩)) (bY (i := j) (sz := 1) Tryz.underlying25 (bD _) rfl rfl rfl (by omega) rfl) ?_
    simp only [pq]
    refine fI (i := 0) (v := bv (UInt8.ofNat (((at0 Z (j / 8)) >>> ((j % 8) * 8)).toNat % 256))) b1 rfl rfl rfl rfl (RR) (lI rfl) (by rw [List.length_map, IQ]; show 0 + j * 1 + 1 ≤ 32; omega) (fun d6 a6 => ?_)
    simp only [pq]
    have a6 : St w F d6 a5 [⟨a4, (bN ((vY Z j).map bv) (0 + j * 1) [bv (UInt8.ofNat (((at0 Z (j / 8)) >>> ((j % 8) * 8)).toNat % 256))]), 5⟩, ⟨a3, (Z.map aO), 217⟩] [] := a6
    rw [Nat.zero_add, Nat.mul_one, QE (by rw [IQ]; omega)] at a6
    have a6 : St w F d6 a5 [⟨a4, (((vY Z j).set j (TO Z j)).map bv), 5⟩, ⟨a3, (Z.map aO), 217⟩] [] := a6
    rw [QD Z (by omega)] at a6
    refine wlK d4 ?_
    refine aB ?_
    refine do_ rfl (.int .i64 (((j + 1) : Nat) : Int)) (fO (m := ((j : Nat) : Int)) (n := (1 : Int)) (r := (((j + 1) : Nat) : Int)) rfl rfl (by omega) (by omega) (by omega)) ?_
    refine aC ?_
    refine aG ?_
    exact d2 _ _ _ (by omega) ⟨(j + 1), _, rfl, rfl, rfl, a6, (by omega)⟩
   ·refine do_ rfl (.bool false) (mT (m := ((j : Nat) : Int)) (n := (32 : Int)) (b := false) rfl rfl (decide_eq_false (by omega))) ?_
    simp only [pq]
    refine wlK b4 ?_
    refine aE fun l8 h6 => ?_
    refine aF ?_
    refine cQ ?_
    refine d0 _ _ ?_
    refine aE fun l9 d7 => ?_
    obtain rfl : j = 32 := by omega
    rw [TP] at b1
    refine aB ?_
    refine aC ?_
    refine wlK d7 ?_
    refine aN ?_
    try simp only [xt]
    refine bodyPost_ret (v := (.slice (some ⟨a4, 0, none⟩) 32 32)) ?_ rfl ?_
    ·exact aZ rfl rfl
    ·have hB := St.blkRow (k := 1) (l := GO Z) (el := (GO Z).map fun b => [bv b]) (hR := ByC.mono) (cap := 32) b1 (by rw [qF, List.take_of_length_le (by rw [List.length_map, vZ]; decide)]) (qG _ _) (by simp) (by rw [List.length_map, vZ]) (by rw [vZ]; decide) (by unfold maxLen; decide) (b1.blk _ (List.mem_cons_self ..)).2.2
     rw [vZ] at hB
     refine ⟨_, _, rfl, hB.gr, ?_⟩
     have hO := St.own (i := 0) hB rfl
     unfold lW
     rw [← hZa]
     exact hO
 ·refine do_ rfl (.bool true) (bP (m := ((((dJ b k).length % 136) : Nat) : Int)) (n := (0 : Int)) (b := true) rfl rfl (bne_iff_ne.2 (by omega))) ?_
  simp only [pq]
  refine wlK c3 ?_
  refine aI ?_
  refine aH ?_
  refine e6 _ _ ?_
  refine aM ?_
  refine aB ?_
  refine aC ?_
  refine bB d9 (v := fun n => .slice (some ⟨n, 0, none⟩) 1 1) rfl (cX (ps := #[(0, (.int .u8 0))]) (cells := #[(.int .u8 0)]) (E := 5) (dH rfl) (fun w => by kernel_rfl)) (fun h1 h2 b3 => ?_)
  simp only [pq]
  have b3 : St w F h2 F [⟨h1, [(.int .u8 0)], 5⟩] [cI 1 ByC ByC.mono 5 w.heap.size (.slice i1 (dJ b k).length a0) (dJ b k)] := b3
  refine fJ (i := 0) (r := 0) (p := (0 : UInt8)) (cs := [(.int .u8 0)]) b3 rfl i5 (.int .u8 0) 1 Tryz.underlying25 hi5 hz5 hs5 hb5 rfl (by decide) rfl rfl rfl rfl rfl (qE 0) (rfl) (Nat.le_refl _) b3.gr.below.size (by unfold maxLen; omega) (by omega) ?_
  intro d8 h3 a9 h7
  simp only [pq]
  have a9 := St.drop a9 (L' := []) (.cons _ (List.Sublist.refl _))
  have a9 : St w F h3 F [] [cI 1 ByC ByC.mono 5 w.heap.size d8 ((dJ b k) ++ [(0 : UInt8)])] := a9
  refine aC ?_
  refine aG ?_
  rw [PZ] at a9
  have hk2 : k + 1 ≤ dO b := by unfold dO at *; omega
  exact e5 _ _ _ (by omega) ⟨(k + 1), d8, _, rfl, rfl, rfl, a9, hk2⟩
theorem TS (F : Fz) (w : World) (v : Value) (b : By) (hs : Sat w F) (hT : Tabs w) (hb : Bs F v b) (hn : b.length ≤ 100000) :
    Calls Tryz.prog 117 #[v] w (dI w F fun F' u => Bs F' u (lW b)) :=
  (vS ByC.mono (OE F w v b hs hT hb hn)).mono fun e w' ⟨u, F', he, g, hu⟩ => ⟨u, F', he, g, dS hu⟩
def LsC (F : Fz) (cs : List Value) (p : By) : Prop := ∃ a, cs = [a] ∧ Bs F a p
theorem LsC.mono (F F' : Fz) (x : List Value) (p : By) (hl : Le F F') (h : LsC F x p) : LsC F' x p := by
 obtain ⟨a, h1, h2⟩ := h
 exact ⟨a, h1, h2.mono hl⟩
abbrev Lss (F : Fz) (v : Value) (l : List By) : Prop := Sl 1 LsC F v l
theorem Lss.get {F : Fz} {a : Option Addr} {n c : Nat} {l : List By} (h : Lss F (.slice a n c) l) {i : Nat} {p : By} (hp : l[i]? = some p) :
    ∃ b o, a = some ⟨b, o, none⟩ ∧ ∃ xa xc, bI F b (o + i * 1) = some (.slice xa p.length xc) ∧ Bs F (.slice xa p.length xc) p := by
 obtain ⟨hi, rfl⟩ := List.getElem?_eq_some_iff.1 hp
 have hn := h.len
 obtain ⟨b, o, e, h1⟩ := Sl.at h (by omega) (by omega)
 obtain ⟨cs, q1, ⟨x, rfl, r1⟩, q4⟩ := h1 i hi
 obtain ⟨xa, xc, rfl, _⟩ := r1.shape
 exact ⟨b, o, e, xa, xc, by have := q4 0 (by simp); simpa using this, r1⟩
theorem Lss.mono {F F' : Fz} {v : Value} {l : List By} (h : Lss F v l) (hl : Le F F') : Lss F' v l := Sl.mono LsC.mono h hl
def Cl (b : By) (e : Int) (F : Fz) (u : Value) : Prop := ∃ x, u = .tuple #[x, .int .i64 e] ∧ Bs F x b
theorem TT (F : Fz) (w : World) (v : Value) (b : By) (hs : Sat w F) (hT : Tabs w) (hb : Bs F v b) (hn : b.length ≤ 4000) :
    Calls Tryz.prog 96 #[v] w (dI w F (Cl (lW b) 0)) := by
 obtain ⟨x, y, rfl, hc1', hc2'⟩ := hb.shape
 unfold maxLen at hc2'
 have S := St.start hs
 go_enter Tryz.func96, Tryz.ntmps96
 refine sk fun K1 hK1 => ?_
 iterate 2 refine dy ?_
 refine wn hK1 ?_
 refine aE fun K2 hK2 => ?_
 refine sk fun K3 hK3 => ?_
 refine aC ?_
 refine kT ?_
 simp only [pq]
 refine wn hK3 ?_
 refine aF ?_
 refine aH ?_
 refine hK2 _ _ ?_
 refine sk fun K4 hK4 => ?_
 refine dx ?_
 refine aY S rfl (fn1 (NN _ _)) (TS _ _ _ b (S).sat (hT.at S.gr.below) hb (by omega)) ?_
 intro a2 w5 F7 S6 le8 R9
 obtain ⟨a0, a1, rfl, _⟩ := R9.shape
 refine aC ?_
 refine wn hK4 ?_
 refine aN ?_
 try simp only [xt]
 refine bR (cA rfl (gD rfl) (gD rfl)) ?_
 exact ⟨_, _, rfl, S6.gr, _, rfl, R9⟩
section
variable {P : Program} {ops : Array Oper} {Q : Exit → Act → World → Prop} {a : Act} {w w' : World} {rest : List Oper} {o : Oper} {n : Nat}
end
def KeepC (b : Nat) (W W' : World) : Prop := ∀ k o, k ≠ b → W.heap[k]? = some o → o.isCells = true → W'.heap[k]? = some o
theorem KeepC.trans {b : Nat} {X Y Z : World} (h : KeepC b X Y) (k : KeepC b Y Z) : KeepC b X Z := fun j o hj ho hc => k j o hj (h j o hj ho hc) hc
theorem KeepC.put {b : Nat} {B : Nat} (W : World) (l : Nat) (o o' : Obj) (_ : B ≤ l) (h : W.heap[l]? = some o) (hc : o.isCells = false) (_ : o.isWalk = false) : KeepC b W (W.putObj l o') := fun k x _ hk hx => by
  rw [World.putObj_heap_other (fun e => by rw [e, h] at hk; cases hk; rw [hc] at hx; cases hx)]
  exact hk
def SatC (F : Fz) (W : World) : Prop := ∀ b c t fr, F b = some (.cells c t fr) → W.heap[b]? = some (.cells c t fr)
theorem SatC.cell {F : Fz} {W : World} (h : SatC F W) {b o : Nat} {v : Value} (hc : bI F b o = some v) : W.cell? ⟨b, o, none⟩ = some v := by
 unfold bI at hc
 split at hc
 ·rename_i c t fr hb
  simp [World.cell?, h b _ _ _ hb, hc]
 ·cases hc
theorem SatC.keep {F : Fz} {W W' : World} {b : Nat} (h : SatC F W) (hF : F b = none) (hk : KeepC b W W') : SatC F W' := fun k c t fr hb => hk k _ (fun e => by rw [e, hF] at hb; cases hb) (h k c t fr hb) rfl
theorem Sat.c {F : Fz} {W : World} (h : Sat W F) : SatC F W := fun b c t fr hb => h b _ hb
theorem SatC.below {F : Fz} {w W : World} (h : SatC F w) (hW : Below w.heap.size w W) : SatC F W := fun b c t fr hb => by
  have := h b c t fr hb
  rw [hW.block b (Array.getElem?_eq_some_iff.1 this).1]
  exact this
def BkX (F : Fz) := { x : Nat × Option Addr × Nat × Stp // Bs F (.slice x.2.1 x.2.2.2.other.length x.2.2.1) x.2.2.2.other ∧ x.2.2.2.bit < 145 ∧ x.2.2.2.other.length = 32 }
def bkS {F : Fz} (x : BkX F) : Stp := x.1.2.2.2
def bkV {F : Fz} (x : BkX F) : Value := .slice x.1.2.1 (bkS x).other.length x.1.2.2.1
theorem Bs.cells {F F' : Fz} {v : Value} {l : By} (h : Bs F v l) (hc : ∀ b o u, bI F b o = some u → bI F' b o = some u) : Bs F' v l := by
 obtain ⟨a, c, h1, h2, h3, h4, h5⟩ := h
 exact ⟨a, c, h1, h2, h3, h4, h5.imp id fun ⟨b, o, h6, h7⟩ => ⟨b, o, h6, fun j u hu => hc _ _ _ (h7 j u hu)⟩⟩
def UpI {F1 : Fz} (w0 : World) (F0 : Fz) (B b5 : Nat) (d0 : By) (pre : List (BkX F1)) (W : World) : Prop :=
  (w0.heap.size ≤ b5 ∧ b5 < B ∧ w0.heap.size ≤ B ∧ B ≤ W.heap.size) ∧ ∃ F da dc, Gr w0 F0 W F ∧ Le F1 F ∧ (∀ r o, B ≤ r → W.heap[r]? = some o → o.isCells = false → F r = none) ∧ F b5 = none ∧ W.heap[b5]? = some (.cells #[.slice da (pre.foldl (fun d x => up1 (bkS x) d) d0).length dc] 25 (0, 0)) ∧ Bs F (.slice da (pre.foldl (fun d x => up1 (bkS x) d) d0).length dc) (pre.foldl (fun d x => up1 (bkS x) d) d0)
theorem UpI.own {F1 : Fz} {w0 : World} {F0 : Fz} {B b5 : Nat} {d0 : By} : OwnFrom B (UpI (F1 := F1) w0 F0 B b5 d0) := by
 intro pre W W' row ⟨⟨hb1, hb2, hb3, hB⟩, F, da, dc, hG, hle, hcl, h5n, h5, hbs⟩ hg hr
 have hrow : ∀ k, row = some k → F k = none := fun k e => by
  obtain ⟨h1, o, h2, h3⟩ := hr k e
  exact hcl k o h1 h2 h3
 have h5' : W'.heap[b5]? = some (.cells #[.slice da (pre.foldl (fun d x => up1 (bkS x) d) d0).length dc] 25 (0, 0)) := by
  rw [hg.block b5 (Array.getElem?_eq_some_iff.1 h5).1 (fun e => by have := (hr b5 e.symm).1; omega)]
  exact h5
 refine ⟨⟨hb1, hb2, hb3, Nat.le_trans hB hg.size⟩, F, da, dc, ⟨hG.below.grown hg (by omega) (fun k e => by have := (hr k e).1; omega), hG.old, hG.sat.grown hg hrow⟩, hle, fun r o hrB ho hc => ?_, h5n, h5', hbs⟩
 by_cases hlt : r < W.heap.size
 by_cases e : some r = row
 exact hrow r e.symm
 rw [hg.block r hlt e] at ho
 exact hcl r o hrB ho hc
 exact hG.sat.out (by omega)
def UpX {F1 : Fz} (B : Nat) (fr : Nat → BkX F1 → Array Value) (x : BkX F1) (a' : Act) (W : World) : Prop :=
  ∃ Bx, B ≤ Bx ∧ W.heap[Bx]? = some (.cells #[.int .i64 (((bkS x).bit : Nat) : Int), .bool (bkS x).right, bkV x] 204 (0, 0)) ∧ a' = ⟨fr Bx x, []⟩
theorem UpX.own {F1 : Fz} {B B' : Nat} {fr : Nat → BkX F1 → Array Value} {x : BkX F1} {a' : Act} : OwnFrom B' (fun (_ : Unit) W => UpX B fr x a' W) := by
 rintro _ W W' row ⟨Bx, h1, h2, h3⟩ hg hr
 refine ⟨Bx, h1, ?_, h3⟩
 rw [hg.block Bx (Array.getElem?_eq_some_iff.1 h2).1 (fun e => by obtain ⟨_, o, ho, hc⟩ := hr Bx e.symm; rw [h2] at ho; cases ho; cases hc)]
 exact h2
theorem UpI.below {F1 : Fz} {w0 W w : World} {F0 : Fz} {B b5 : Nat} {d0 : By} {pre : List (BkX F1)} (h : UpI w0 F0 B b5 d0 pre W) (hb : Below W.heap.size W w) : UpI w0 F0 B b5 d0 pre w := by
 obtain ⟨⟨hb1, hb2, hb3, hB⟩, F, da, dc, hG, hle, hcl, h5n, h5, hbs⟩ := h
 refine ⟨⟨hb1, hb2, hb3, Nat.le_trans hB hb.size⟩, F, da, dc, hG.trans (Gr.of_below hG.sat hb), hle, fun r o hrB ho hc => ?_, h5n, (hb.block b5 (Array.getElem?_eq_some_iff.1 h5).1).trans h5, hbs⟩
 by_cases hlt : r < W.heap.size
 rw [hb.block r hlt] at ho
 exact hcl r o hrB ho hc
 exact hG.sat.out (by omega)
theorem UpI.end {F1 : Fz} {w0 W : World} {F0 : Fz} {B b5 D : Nat} {d0 : By} {pre : List (BkX F1)} (h : UpI w0 F0 B b5 d0 pre W) (hD : B ≤ D) (hK : W.heap[D]? = some (.deferred (some []))) :
    ∃ da dc F, W.cell? ⟨b5, 0, none⟩ = some (.slice da (pre.foldl (fun d x => up1 (bkS x) d) d0).length dc) ∧ Gr w0 F0 (W.putObj D (.deferred none)) F ∧ Bs F (.slice da (pre.foldl (fun d x => up1 (bkS x) d) d0).length dc) (pre.foldl (fun d x => up1 (bkS x) d) d0) := by
 obtain ⟨⟨hb1, hb2, hb3, hB⟩, F, da, dc, hG, hle, hcl, h5n, h5, hbs⟩ := h
 exact ⟨da, dc, F, by simp [World.cell?, h5], ⟨hG.below.grown (grownBy_putObj' W D _) (by omega) (fun k e => by cases e; omega), hG.old, hG.sat.grown (grownBy_putObj' W D _) (fun k e => by cases e; exact hcl D _ hD hK rfl)⟩, hbs⟩
def TU (l : aS) : List Pr := l.map fun t => (t.1, RG t.2)
def Bz (l : aS) : By := RG (TU l)
theorem TV {P : Program} {Q : Exit → Act → World → Prop} {F : Fz} {fuel : Nat} {listed : Array Bool} {a : Act} {w : World} {l : List Oper} {o1 o2 : Oper} (i j : Nat) (hr : Region.ready .any l.toArray listed = [i, j]) (hi : l[i]? = some o1) (hj : l[j]? = some o2)
    (h1 : WL P l.toArray (Exit.then (fun a' w' => Sat w' F ∧ Go.wpAnyH P .any l.toArray Q (fun w => Sat w F) fuel (listed.setIfInBounds i true) a' w') Q) [o1] a w)
    (h2 : WL P l.toArray (Exit.then (fun a' w' => Sat w' F ∧ Go.wpAnyH P .any l.toArray Q (fun w => Sat w F) fuel (listed.setIfInBounds j true) a' w') Q) [o2] a w) : HL P l.toArray Q F (fuel + 1) listed a w := by
 refine ⟨Go.wpAnyH_all hr (by simp) fun k hk => ?_⟩
 have key : ∀ (m : Nat) (o : Oper), l[m]? = some o → WL P l.toArray (Exit.then (fun a' w' => Sat w' F ∧ Go.wpAnyH P .any l.toArray Q (fun w => Sat w F) fuel (listed.setIfInBounds m true) a' w') Q) [o] a w → wpOp P l.toArray Q m (fun a' w' => Sat w' F ∧ Go.wpAnyH P .any l.toArray Q (fun w => Sat w F) fuel (listed.setIfInBounds m true) a' w') a w := by
  intro m o hm h
  have h1 := h.out
  unfold wpList at h1
  unfold wpOp
  have hi' : l.toArray[m]? = some o := by simpa using hm
  simp only [hi']
  split
  rename_i hw
  rw [if_pos hw] at h1
  rcases h1 with h1 | h1
  left
  refine Oper.wp_mono (fun a' w' hk => ?_) (Oper.wp_exit h1)
  exact hk
  exact .inr h1
  rename_i hw
  rw [if_neg hw] at h1
  exact h1
 rcases (by simpa using hk : k = i ∨ k = j) with rfl | rfl
 exact key _ _ hi h1
 exact key _ _ hj h2

structure Tp where
  data : By
  synced : Nat
def gJ (m : Cm) : By := b8 ((eB m.turn m.writes).length / 256) :: b8 (eB m.turn m.writes).length :: eB m.turn m.writes
def bH (m : Cm) : By := gJ m ++ (lW (gJ m)).take 4
def dA (cs : List Cm) : By := cs.flatMap bH
def jB (r : By) (k : Nat) : Option (Cm × Nat) :=
  if r.length < 2 then none else
  if 4000 < 2 + (r.getD 0 0).toNat * 256 + (r.getD 1 0).toNat ∨ r.length < 2 + (r.getD 0 0).toNat * 256 + (r.getD 1 0).toNat + 4 then none else
  if (lW (r.take (2 + (r.getD 0 0).toNat * 256 + (r.getD 1 0).toNat))).take 4 ≠ (r.drop (2 + (r.getD 0 0).toNat * 256 + (r.getD 1 0).toNat)).take 4 then none else
  if uC ((r.take (2 + (r.getD 0 0).toNat * 256 + (r.getD 1 0).toNat)).drop 2) ≠ 0 ∨ (sB ((r.take (2 + (r.getD 0 0).toNat * 256 + (r.getD 1 0).toNat)).drop 2)).turn ≠ k + 1 then none else
  some (sB ((r.take (2 + (r.getD 0 0).toNat * 256 + (r.getD 1 0).toNat)).drop 2), 2 + (r.getD 0 0).toNat * 256 + (r.getD 1 0).toNat + 4)
def qV : Nat → By → Nat → List Cm × Nat
  | 0, _, _ => ([], 0)
  | f + 1, r, k => match jB r k with
    | none => ([], 0)
    | some p => (p.1 :: (qV f (r.drop p.2) (k + 1)).1, p.2 + (qV f (r.drop p.2) (k + 1)).2)
def gS (d : By) : List Cm × Nat := qV d.length d 0
theorem DJ {r : By} {k : Nat} (h : jB r k = none) (f : Nat) : qV f r k = ([], 0) := by
 cases f with
 | zero => rfl
 | succ f => rw [qV, h]
theorem DK {r : By} {k f : Nat} {p : Cm × Nat} (h : jB r k = some p) : qV (f + 1) r k = (p.1 :: (qV f (r.drop p.2) (k + 1)).1, p.2 + (qV f (r.drop p.2) (k + 1)).2) := by rw [qV, h]
theorem kZ {m : Cm} (hm : CmOk m) : (gJ m).length = 2 + (eB m.turn m.writes).length ∧ (gJ m).length ≤ 596 ∧ 6 ≤ (gJ m).length := by
 have := DF hm
 have h : (gJ m).length = 2 + (eB m.turn m.writes).length := by simp [gJ]; omega
 omega
theorem lA {m : Cm} (hm : CmOk m) : (bH m).length = 6 + (eB m.turn m.writes).length ∧ (bH m).length = (gJ m).length + 4 := by
 have := kZ hm
 have : (bH m).length = (gJ m).length + 4 := by
  unfold bH
  rw [List.length_append, List.length_take, rD]
  omega
 omega
theorem IR {m : Cm} (hm : CmOk m) {t : By} : 2 + (((bH m) ++ t).getD 0 0).toNat * 256 + (((bH m) ++ t).getD 1 0).toNat = (gJ m).length := by
 have h1 := DF hm
 have h2 := kZ hm
 have e0 : ((bH m) ++ t).getD 0 0 = b8 ((eB m.turn m.writes).length / 256) := by simp [bH, gJ]
 have e1 : ((bH m) ++ t).getD 1 0 = b8 (eB m.turn m.writes).length := by simp [bH, gJ]
 rw [e0, e1, lH (by omega)]
 have : (b8 (eB m.turn m.writes).length).toNat = (eB m.turn m.writes).length % 256 := by simp [b8]
 omega
theorem IS {m : Cm} (hm : CmOk m) {t : By} {k : Nat} : jB (bH m ++ t) k = if m.turn = k + 1 then some (m, (bH m).length) else none := by
 have h2 := kZ hm
 have h3 := lA hm
 have hl : (bH m ++ t).length = (gJ m).length + 4 + t.length := by rw [List.length_append]; omega
 have ht : (bH m ++ t).take (gJ m).length = gJ m := by
  rw [show bH m = gJ m ++ (lW (gJ m)).take 4 from rfl, List.append_assoc, List.take_left']
  rfl
 have hd : ((bH m ++ t).drop (gJ m).length).take 4 = (lW (gJ m)).take 4 := by
  rw [show bH m = gJ m ++ (lW (gJ m)).take 4 from rfl, List.append_assoc, List.drop_left' rfl, List.take_append_of_le_length (by rw [List.length_take, rD]; omega), List.take_take]
  simp
 have hb : (gJ m).drop 2 = eB m.turn m.writes := rfl
 obtain ⟨d1, d2⟩ := TB hm
 unfold jB
 rw [IR hm, if_neg (by omega), if_neg (by omega), ht, hd, if_neg (by simp), hb, d1, d2]
 by_cases h : m.turn = k + 1
 ·rw [if_neg (by simp [h]), if_pos h, h3.2]
 ·rw [if_pos (.inr h), if_neg h]
theorem LW {m : Cm} (hm : CmOk m) {n k : Nat} (hn : n < (bH m).length) : jB ((bH m).take n) k = none := by
 have h2 := kZ hm
 have h3 := lA hm
 unfold jB
 have hl : ((bH m).take n).length = n := by rw [List.length_take]; omega
 rw [hl]
 by_cases h : n < 2
 ·rw [if_pos h]
 ·rw [if_neg h]
  have e : 2 + (((bH m).take n).getD 0 0).toNat * 256 + (((bH m).take n).getD 1 0).toNat = (gJ m).length := by
   rw [← IR hm (t := [])]
   have q : ∀ i, i < 2 → ((bH m).take n).getD i 0 = (bH m ++ []).getD i 0 := by
    intro i hi
    rw [List.append_nil, List.getD_eq_getElem?_getD, List.getD_eq_getElem?_getD, List.getElem?_take_of_lt (by omega)]
   rw [q 0 (by omega), q 1 (by omega)]
  rw [e, if_pos (.inr (by omega))]
theorem wA (a b : List Cm) : dA (a ++ b) = dA a ++ dA b := by simp [dA]
theorem TW : ∀ (cs : List Cm) (f k : Nat) (t : By), (∀ c ∈ cs, CmOk c) → (∀ (i : Nat) (h : i < cs.length), cs[i].turn = k + i + 1) → jB t (k + cs.length) = none → (dA cs ++ t).length ≤ f → qV f (dA cs ++ t) k = (cs, (dA cs).length)
  | [], f, k, t, _, _, ht, _ => by
    rw [show dA ([] : List Cm) ++ t = t from rfl, DJ (by simpa using ht)]
    rfl
  | c :: cs, f, k, t, hok, htn, ht, hf => by
    have hc := hok c (by simp)
    have h3 := lA hc
    have hb := kZ hc
    have e : dA (c :: cs) ++ t = bH c ++ (dA cs ++ t) := by simp [dA]
    have ht0 : c.turn = k + 1 := by have := htn 0 (by simp); simpa using this
    have hch := IS hc (t := dA cs ++ t) (k := k)
    rw [if_pos ht0] at hch
    rw [e] at hf ⊢
    match f, hf with
    | 0, hf => rw [List.length_append] at hf; omega
    | f + 1, hf =>
      rw [DK hch]
      simp only
      rw [List.drop_left' rfl, TW cs f (k + 1) t (fun x hx => hok x (by simp [hx])) (fun i hi => by have := htn (i + 1) (by simpa using hi); simp at this; omega) (by rw [show k + 1 + cs.length = k + (c :: cs).length from by simp; omega]; exact ht) (by rw [List.length_append] at hf; omega)]
      refine Prod.ext rfl ?_
      simp [dA]
def eY : List Cm → Nat → Nat
  | [], _ => 0
  | c :: cs, n => if (bH c).length ≤ n then 1 + eY cs (n - (bH c).length) else 0
theorem wV : ∀ (cs : List Cm) (n : Nat), eY cs n ≤ cs.length
  | [], _ => by simp [eY]
  | c :: cs, n => by
    unfold eY
    split
    · have := wV cs (n - (bH c).length); simp; omega
    · simp
theorem wW : ∀ (cs : List Cm) (n k : Nat), (∀ c ∈ cs, CmOk c) → n ≤ (dA cs).length → ∃ t, (dA cs).take n = dA (cs.take (eY cs n)) ++ t ∧ (∀ k, jB t k = none) ∧ (t = [] ∨ eY cs n < cs.length) ∧ (n = (dA cs).length → eY cs n = cs.length)
  | [], n, k, _, _ => ⟨[], by simp [dA], fun k => by unfold jB; rw [if_pos (by simp)], .inl rfl, fun _ => rfl⟩
  | c :: cs, n, k, hok, hn => by
    have hc := hok c (by simp)
    have h3 := lA hc
    have e : dA (c :: cs) = bH c ++ dA cs := by simp [dA]
    rw [e, List.length_append] at hn
    by_cases hw : (bH c).length ≤ n
    · obtain ⟨t, h1, h2, h4, h5⟩ := wW cs (n - (bH c).length) k (fun x hx => hok x (by simp [hx])) (by omega)
      have ew : eY (c :: cs) n = eY cs (n - (bH c).length) + 1 := by rw [eY, if_pos hw]; omega
      refine ⟨t, ?_, h2, ?_, fun h => ?_⟩
      · rw [e, ew, List.take_succ_cons, show n = (bH c).length + (n - (bH c).length) from by omega, List.take_append]
        simp only [Nat.add_sub_cancel_left]
        rw [List.take_of_length_le (by omega), h1]
        simp [dA]
      · rw [ew, List.length_cons]
        rcases h4 with h4 | h4
        · exact .inl h4
        · exact .inr (by omega)
      · rw [ew, List.length_cons, h5 (by rw [e, List.length_append] at h; omega)]
    · have ew : eY (c :: cs) n = 0 := by rw [eY, if_neg hw]
      refine ⟨(bH c).take n, ?_, fun k => LW hc (by omega), ?_, fun h => ?_⟩
      · rw [e, ew, List.take_append_of_le_length (by omega)]
        simp [dA]
      · rw [ew]; exact .inr (by simp)
      · rw [e, List.length_append] at h; omega
theorem IT {m : Nat} {cs : List Cm} (hh : HistOk m cs) {n : Nat} (hn : n ≤ (dA cs).length) : gS ((dA cs).take n) = (cs.take (eY cs n), (dA (cs.take (eY cs n))).length) := by
 obtain ⟨t, h1, h2, _, _⟩ := wW cs n 0 hh.ok hn
 unfold gS
 rw [h1]
 refine TW _ _ 0 t (fun c hc => hh.ok c (List.mem_of_mem_take hc)) (fun i hi => ?_) (h2 _) (Nat.le_refl _)
 rw [List.getElem_take]
 have := hh.turn i (by rw [List.length_take] at hi; omega)
 omega
theorem qJ {cs : List Cm} (hok : ∀ c ∈ cs, CmOk c) : (dA cs).length ≤ 600 * cs.length := by
 induction cs with
 | nil => simp [dA]
 | cons c cs ih =>
  have h3 := lA (hok c (by simp))
  have hb := kZ (hok c (by simp))
  have := ih (fun x hx => hok x (by simp [hx]))
  have e : dA (c :: cs) = bH c ++ dA cs := by simp [dA]
  rw [e, List.length_append, List.length_cons]
  omega
theorem DL : ∀ (cs : List Cm) (n : Nat), (dA (cs.take (eY cs n))).length ≤ n
  | [], n => by simp [dA, eY]
  | c :: cs, n => by
    unfold eY
    split
    · rename_i h
      have := DL cs (n - (bH c).length)
      rw [Nat.add_comm, List.take_succ_cons, show dA (c :: cs.take (eY cs (n - (bH c).length))) = bH c ++ dA (cs.take (eY cs (n - (bH c).length))) from by simp [dA], List.length_append]
      omega
    · simp [dA]
theorem IU : ∀ (cs : List Cm) (k n : Nat), k ≤ cs.length → (dA (cs.take k)).length ≤ n → k ≤ eY cs n
  | _, 0, _, _, _ => Nat.zero_le _
  | [], k + 1, _, h, _ => by simp at h
  | c :: cs, k + 1, n, hk, h => by
    rw [List.take_succ_cons, show dA (c :: cs.take k) = bH c ++ dA (cs.take k) from by simp [dA], List.length_append] at h
    rw [eY, if_pos (by omega)]
    have := IU cs k (n - (bH c).length) (by simpa using hk) (by omega)
    omega
theorem IV (F : Fz) (w : World) (v : Value) (l : List UInt8) (hs : Sat w F) (hv : Bs F v l) (hm : l.length ≤ 100000) :
    Calls Tryz.prog 45 #[v] w (rH w F 1 ByC 5 l) := by
 obtain ⟨a, c, rfl, hlc, hcm⟩ := hv.shape
 obtain ⟨i, hi, hz0, hz1, hz2⟩ := info_parts pG
 have hr := hv
 unfold Bs at hr
 have hnil := Lib.run_eql_slice_nil (P := Tryz.prog) w 25 5 a l.length c 0 0 Tryz.underlying25
 cases a with
 | none =>
  have hl : l = [] := by
   obtain ⟨a', c', h1, _, _, h4, _⟩ := hr
   cases h1
   exact List.eq_nil_of_length_eq_zero (h4 rfl).1
  subst hl
  simp only [List.length_nil] at hnil
  go_enter Tryz.func45, Tryz.ntmps45
  go_wp2_with fail
  go_ret
  exact ⟨_, F, rfl, Gr.refl hs, Own.nil _ _⟩
 | some a =>
  have hown := World.ownsRow_lit (base := w.heap.size) (e := 5) (size := 1) w #[] 0 (Nat.le_refl _) (Nat.zero_le _) rfl
  have hsa := hs.alloc (.cells #[] 5)
  go_enter Tryz.func45, Tryz.ntmps45
  go_wp2_with (at_builtin; go_loud (refine nM rfl _ _ 25 rfl w.heap.size 5 i (.int .u8 0) 1 1 Tryz.underlying25 hi hz0 hz1 hz2 rfl (by decide) rfl hown rfl hsa hr (by simp) (yZ _) (by unfold maxLen; omega) (by omega) (by simp) ?_))
  intro v1 w1 hown1 hg _
  have hb : Below w.heap.size w w1 := ((Below.refl _ _).alloc (Nat.le_refl _) _).grown hg (by simp) (fun g hg' => (hown.lt g hg').1)
  clear hg hown
  go_wp2_with fail
  go_ret
  refine ⟨_, F, rfl, Gr.of_below hs hb, ⟨l.map fun b => [bv b], ?_, qG F l, by simp⟩, fun g hg => hs.out (hown1.lt g hg).1⟩
  rw [qF]
  simpa using hown1
def TpV (F : Fz) (v : Value) (t : Tp) : Prop := ∃ a c, v = .agg #[.slice a t.data.length c, .int .i64 (t.synced : Nat)] ∧ Bs F (.slice a t.data.length c) t.data
theorem TpV.mono {F F' : Fz} {v : Value} {t : Tp} (h : TpV F v t) (hl : Le F F') : TpV F' v t := by
 obtain ⟨a, c, h1, h2⟩ := h; exact ⟨a, c, h1, h2.mono hl⟩
def OF (w : World) (F : Fz) (t : Tp) (e : Ending) (w' : World) : Prop := ∃ v F', e = .returned (.tuple #[.agg #[v, .int .i64 (t.synced : Nat)], .bool true]) ∧ Gr w F w' F' ∧ Own 1 ByC 5 w.heap.size w' F' v t.data
theorem sZ {P : Program} {ops : Array Oper} {Q : Exit → Act → World → Prop} {a : Act} {rest : List Oper} {o : Oper} {kf : FuncId} {vs : Array Value} {w0 w : World} {F0 F : Fz} {L : List Blk} {M : List RowP} {t : Tp} (S : St w0 F0 w F L M) (hw : Region.wanted o (yielded ops a.tmps) = true)
    (hr : (execOp a.eval o).run P w = .ok (.enter kf vs) w) (hc : Calls P kf vs w (OF w F t))
    (h : ∀ v w' F', St w0 F0 w' F' L (cI 1 ByC ByC.mono 5 w0.heap.size v t.data :: M) → Le F F' → WL P ops Q rest (a.put o.dst (.tuple #[.agg #[v, .int .i64 (t.synced : Nat)], .bool true])) w') : WL P ops Q (o :: rest) a w :=
  doC hw hr hc fun e w' ⟨v, F', he, g, ho⟩ => ⟨_, he, h v w' F' (S.addRow g ho) (g.le S.sat)⟩
structure TpOk (n : Nat) (t : Tp) : Prop where
  len : t.data.length ≤ n
  syn : t.synced ≤ t.data.length
def YF (t : Tp) (e : Int) (F : Fz) (u : Value) : Prop := ∃ v, u = .tuple #[v, .int .i64 e] ∧ TpV F v t
def TX (w : World) (F G : Fz) : Fz := fun b => if b < w.heap.size then F b else G b
theorem Gr.mix {w w' : World} {F F1 G : Fz} (hl : Le F F1) (h : Gr w F1 w' G) (hs : Sat w F) : Gr w F w' (TX w F G) := by
 refine ⟨h.below, fun b hb => by unfold TX; rw [if_pos hb], fun b o hb => ?_⟩
 unfold TX at hb
 split at hb
 rename_i hlt
 exact h.sat b o (by rw [h.old b hlt]; exact hl b o hb)
 exact h.sat b o hb
theorem ByC.mix {base E : Nat} {w w' : World} {F G : Fz} {v : Value} {l : By} (h : Own 1 ByC E base w' G v l) (hb : w.heap.size ≤ base) : Own 1 ByC E base w' (TX w F G) v l := by
 obtain ⟨el, h1, h2, h3⟩ := h.ex
 refine ⟨⟨el, h1, h2.imp fun x p hx => hx, h3⟩, fun g hg => ?_⟩
 unfold TX
 rw [if_neg (by have := (h.lt g hg).1; omega)]
 exact h.out g hg
def GivesSum (w : World) (F : Fz) (b : By) (e : Ending) (w' : World) : Prop := ∃ v F', e = .returned (.tuple #[v, .int .i64 0]) ∧ Gr w F w' F' ∧ Own 1 ByC 5 w.heap.size w' F' v (lW b)
theorem GivesSum.mix {w w' : World} {F F1 : Fz} {b : By} {e : Ending} (hs : Sat w F) (hl : Le F F1) (h : GivesSum w F1 b e w') : GivesSum w F b e w' := by
 obtain ⟨v, F', he, g, ho⟩ := h
 exact ⟨v, _, he, g.mix hl hs, ByC.mix ho (Nat.le_refl _)⟩
theorem LX {P : Program} {ops : Array Oper} {Q : Exit → Act → World → Prop} {a : Act} {rest : List Oper} {o : Oper} {kf : FuncId} {vs : Array Value} {w0 w : World} {F0 F F1 : Fz} {L : List Blk} {M : List RowP} {b : By} (S : St w0 F0 w F L M) (hl : Le F F1) (hw : Region.wanted o (yielded ops a.tmps) = true)
    (hr : (execOp a.eval o).run P w = .ok (.enter kf vs) w) (hc : Calls P kf vs w (GivesSum w F1 b))
    (h : ∀ v w' F', St w0 F0 w' F' L (cI 1 ByC ByC.mono 5 w0.heap.size v (lW b) :: M) → Le F F' → WL P ops Q rest (a.put o.dst (.tuple #[v, .int .i64 0])) w') : WL P ops Q (o :: rest) a w :=
  doC hw hr hc fun e w' hg => by
    obtain ⟨v, F', he, g, ho⟩ := GivesSum.mix S.sat hl hg
    exact ⟨_, he, h v w' F' (S.addRow g ho) (g.le S.sat)⟩
theorem YG (F : Fz) (w : World) (v : Value) (b : By) (hs : Sat w F) (hT : Tabs w) (hb : Bs F v b) (hn : b.length ≤ 4000) :
    Calls Tryz.prog 96 #[v] w (GivesSum w F b) := by
 obtain ⟨x, y, rfl, hc1', hc2'⟩ := hb.shape
 unfold maxLen at hc2'
 have S := St.start hs
 go_enter Tryz.func96, Tryz.ntmps96
 refine sk fun K1 hK1 => ?_
 iterate 2 refine dy ?_
 refine wn hK1 ?_
 refine aE fun K2 hK2 => ?_
 refine sk fun K3 hK3 => ?_
 refine aC ?_
 refine kT ?_
 simp only [pq]
 refine wn hK3 ?_
 refine aF ?_
 refine aH ?_
 refine hK2 _ _ ?_
 refine sk fun K4 hK4 => ?_
 refine dx ?_
 refine mU ByC.mono S rfl (fn1 (NN _ _)) (OE _ _ _ b (S).sat (hT.at S.gr.below) hb (by omega)) ?_
 intro v9 w5 F7 S6 le8
 refine aC ?_
 refine wn hK4 ?_
 refine aN ?_
 try simp only [xt]
 refine bR (cA rfl (gD rfl) (gD rfl)) ?_
 exact ⟨_, _, rfl, S6.gr, St.own (i := 0) S6 rfl⟩
theorem tA (F : Fz) (w : World) (v : Value) (t : Tp) (hs : Sat w F) (hv : TpV F v t) (ok : TpOk 100000 t) :
    Calls Tryz.prog 95 #[v] w (OF w F t) := by
 obtain ⟨x, y, rfl, hv⟩ := hv
 have h1 := ok.len
 have h2 := ok.syn
 have S := St.start hs
 go_enter Tryz.func95, Tryz.ntmps95
 refine sk fun K1 hK1 => ?_
 refine bB S (v := fun n => .pointer (aA n 0)) rfl (bQ (v := (.agg #[(.slice x t.data.length y), (nI t.synced)])) rfl) (fun n2 w3 S4 => ?_)
 refine sA S4 (iP _) fun n5 w6 S7 => ?_
 refine dy ?_
 refine wn hK1 ?_
 refine aE fun K8 hK8 => ?_
 refine sk fun K9 hK9 => ?_
 refine aC ?_
 refine eR ?_
 refine aC ?_
 refine kT ?_
 refine aC ?_
 refine kT ?_
 refine dp ?_
 refine wn hK9 ?_
 refine aF ?_
 refine aH ?_
 refine hK8 _ _ ?_
 refine aE fun b3 a6 => ?_
 obtain ⟨b1, a7, a3⟩ := St.freezeBlk S7 (i := 1) rfl
 generalize addF F w6 n2 = b4 at *
 refine fX b1 (by kernel_rfl) (fun b5 a2 => ?_)
 refine aU 0 rfl _ a2.sat (fun _ _ => ef (jF _ _)) ?_
 simp only [pq]
 refine aU 1 rfl _ a2.sat (fun _ a8 => aD rfl (aR (bC _) (St.fz (St.start a8) (a3 0 _ rfl)))) ?_
 simp only [pq]
 refine aU 3 rfl _ a2.sat (fun _ _ => ef (lK _ _)) ?_
 simp only [pq]
 refine aU 4 rfl _ a2.sat (fun _ a9 => aD rfl (aR (bL _) (St.fz (St.start a9) (a3 1 _ rfl)))) ?_
 simp only [pq]
 refine dD 2 (by kernel_rfl) rfl ?_
 refine mU ByC.mono a2 rfl (fn1 (gG _ _)) (IV _ _ _ t.data (a2).sat (hv.mono a7) (by omega)) ?_
 intro b6 b7 b9 a5 a0
 simp only [pq]
 obtain ⟨b0, a1, rfl, c0, b2⟩ := (a5.own (i := 0) rfl).shape
 unfold maxLen at b2
 refine aG (cO (Sat.le a5.sat a0) ?_)
 refine aU 5 rfl (.agg #[(.slice b0 t.data.length a1), (nI t.synced)]) (Sat.le a5.sat a0) (fun _ _ => aJ (ps := #[(0, (.slice b0 t.data.length a1)), (1, (nI t.synced))]) (fF rfl rfl) (by kernel_rfl)) ?_
 simp only [pq]
 refine dD 6 (by kernel_rfl) rfl ?_
 refine sW 0 a5 (bJ) fun c1 a4 => ?_
 refine aG (cO (Sat.le a4.sat a0) ?_)
 refine fG 7 rfl (Sat.le a4.sat a0) ?_
 simp only [pq]
 refine iH (by kernel_rfl) ?_
 refine a6 _ _ ?_
 refine aN ?_
 try simp only [xt]
 refine bR (cR rfl ⟨_, rfl, lR a4 0 Tryz.underlying108 (bJ)⟩ (gD rfl)) ?_
 exact ⟨_, _, rfl, a4.gr, St.own (i := 0) a4 rfl⟩
theorem QG (F : Fz) (w : World) (v : Value) (t : Tp) (hs : Sat w F) (hv : TpV F v t) (ok : TpOk 100000 t) :
    Calls Tryz.prog 82 #[v] w (dI w F (YF ⟨t.data, t.data.length⟩ 0)) := by
 obtain ⟨x, y, rfl, hv⟩ := hv
 have h1 := ok.len
 have h2 := ok.syn
 have S := St.start hs
 go_enter Tryz.func82, Tryz.ntmps82
 refine sk fun K1 hK1 => ?_
 refine bB S (v := fun n => .pointer (aA n 0)) rfl (bQ (v := (.agg #[(.slice x t.data.length y), (nI t.synced)])) rfl) (fun n2 w3 S4 => ?_)
 refine sA S4 (iP _) fun n5 w6 S7 => ?_
 refine dy ?_
 refine wn hK1 ?_
 refine sk fun K8 hK8 => ?_
 refine dR S7 1 Tryz.underlying108 (bJ) ?_
 simp only [pq]
 refine sZ S7 rfl (fn1 (FC _ _)) (tA _ _ _ t (S7).sat ⟨_, _, rfl, hv⟩ (⟨by omega, ok.syn⟩)) ?_
 intro v9 b7 b9 a6 a9
 simp only [pq]
 obtain ⟨b0, a1, rfl, c0, b1⟩ := (a6.own (i := 0) rfl).shape
 unfold maxLen at b1
 refine aC ?_
 refine sA a6 (iP _) fun c1 c2 b2 => ?_
 refine sW 0 b2 (bJ) fun c3 b3 => ?_
 refine dy ?_
 simp only [pq]
 refine wn hK8 ?_
 refine aE fun c4 a2 => ?_
 refine sk fun c5 a3 => ?_
 refine aC ?_
 refine wn a3 ?_
 refine aF ?_
 refine aH ?_
 refine a2 _ _ ?_
 refine aE fun c6 a4 => ?_
 obtain ⟨c7, b4, b5, a0⟩ := St.freeze b3 (i := 0) rfl (Nat.le_refl _)
 have a0 : Bys _ (.slice b0 t.data.length a1) t.data := a0
 have b6 := dS a0
 refine aB ?_
 refine aC ?_
 refine sW 0 b4 (KT) fun c8 a7 => ?_
 refine wlK a4 ?_
 refine sk fun c9 a5 => ?_
 refine dR a7 0 Tryz.underlying108 (bJ) ?_
 simp only [pq]
 refine sW 1 a7 (bJ) fun d0 a8 => ?_
 refine dy ?_
 refine wn a5 ?_
 refine aN ?_
 try simp only [xt]
 refine bR (cR rfl ⟨_, rfl, lR a8 1 Tryz.underlying108 (bJ)⟩ (gD rfl)) ?_
 exact ⟨_, _, rfl, a8.gr, _, rfl, _, _, rfl, b6⟩
def bW (t : Tp) (k : Nat) : Nat := t.synced + min k (t.data.length - t.synced)
theorem LY (F : Fz) (w : World) (v : Value) (t : Tp) (k : Nat) (hs : Sat w F) (hv : TpV F v t) (ok : TpOk 100000 t) (hk : k ≤ 100000) :
    Calls Tryz.prog 83 #[v, .int .i64 (k : Nat)] w (dI w F (YF ⟨t.data.take (bW t k), bW t k⟩ 0)) := by
 obtain ⟨x, y, rfl, hv⟩ := hv
 have h1 := ok.len
 have h2 := ok.syn
 have S := St.start hs
 go_enter Tryz.func83, Tryz.ntmps83
 refine sk fun K1 hK1 => ?_
 refine bB S (v := fun n => .pointer (aA n 0)) rfl (bQ (v := (.agg #[(.slice x t.data.length y), (nI t.synced)])) rfl) (fun n2 w3 S4 => ?_)
 refine sA S4 (iP _) fun n5 w6 S7 => ?_
 refine dy ?_
 refine wn hK1 ?_
 refine sk fun K8 hK8 => ?_
 refine dR S7 1 Tryz.underlying108 (bJ) ?_
 simp only [pq]
 refine sZ S7 rfl (fn1 (FC _ _)) (tA _ _ _ t (S7).sat ⟨_, _, rfl, hv⟩ (⟨by omega, ok.syn⟩)) ?_
 intro v9 b9 c0 a8 b0
 simp only [pq]
 obtain ⟨a2, a1, rfl, c1, b1⟩ := (a8.own (i := 0) rfl).shape
 unfold maxLen at b1
 refine aC ?_
 refine sA a8 (iP _) fun c2 c3 b2 => ?_
 refine sW 0 b2 (bJ) fun c4 b3 => ?_
 refine dy ?_
 simp only [pq]
 refine wn hK8 ?_
 refine aE fun c5 a3 => ?_
 refine aM ?_
 refine sk fun c6 a4 => ?_
 refine aC ?_
 refine wn a4 ?_
 refine aF ?_
 refine sk fun c7 a5 => ?_
 refine dx ?_
 refine eR ?_
 refine dy ?_
 simp only [pq]
 refine wn a5 ?_
 refine aF ?_
 refine aH ?_
 refine a3 _ _ ?_
 refine aE fun c8 a6 => ?_
 obtain ⟨c9, b4, b5, a0⟩ := St.freeze b3 (i := 0) rfl (Nat.le_refl _)
 have a0 : Bys _ (.slice a2 t.data.length a1) t.data := a0
 have b6 := dS a0
 refine aB ?_
 refine aC ?_
 refine dr (nI (t.data.length - t.synced)) (tS (m := ((t.data.length : Nat) : Int)) (n := ((t.synced : Nat) : Int)) (r := (((t.data.length - t.synced) : Nat) : Int)) rfl rfl (by omega) (by omega) (by omega)) ?_
 simp only [pq]
 refine dr (nI (min k (t.data.length - t.synced))) (tT (m := ((k : Nat) : Int)) (n := (((t.data.length - t.synced) : Nat) : Int)) (r := (((min k (t.data.length - t.synced)) : Nat) : Int)) rfl rfl (by omega)) ?_
 refine cN (((t.synced + (min k (t.data.length - t.synced))) : Nat) : Int) ?_
 refine dy ?_
 simp only [pq]
 refine wlK a6 ?_
 refine sk fun d0 a7 => ?_
 refine aC ?_
 have b7 : Bs _ (.slice a2 (t.synced + (min k (t.data.length - t.synced))) (t.synced + (min k (t.data.length - t.synced)))) (t.data.take (t.synced + (min k (t.data.length - t.synced)))) := Bs.cut b6 (by omega)
 refine dr (.slice a2 (t.synced + (min k (t.data.length - t.synced))) (t.synced + (min k (t.data.length - t.synced)))) (gV (h := (t.synced + (min k (t.data.length - t.synced)))) (m := (t.synced + (min k (t.data.length - t.synced)))) (sz := 1) Tryz.underlying25 rfl (bD _) rfl rfl (by omega) (by omega) rfl) ?_
 refine dx ?_
 refine dr (.agg #[(.slice a2 (t.synced + (min k (t.data.length - t.synced))) (t.synced + (min k (t.data.length - t.synced)))), (.int .i64 (((t.synced + (min k (t.data.length - t.synced))) : Nat) : Int))]) (aJ (fF rfl rfl) (by kernel_rfl)) ?_
 simp only [pq]
 refine sW 1 b4 (bJ) fun d1 a9 => ?_
 refine dy ?_
 refine wn a7 ?_
 refine aN ?_
 try simp only [xt]
 refine bR (cR rfl ⟨_, rfl, lR a9 1 Tryz.underlying108 (bJ)⟩ (gD rfl)) ?_
 exact ⟨_, _, rfl, a9.gr, _, rfl, _, _, by rw [List.length_take, Nat.min_eq_left (show bW t k ≤ t.data.length by unfold bW; omega)]; rfl, by rw [List.length_take, Nat.min_eq_left (show bW t k ≤ t.data.length by unfold bW; omega)]; exact b7⟩
theorem IW (F : Fz) (w : World) (v u : Value) (t : Tp) (m : Cm) (hs : Sat w F) (hT : Tabs w) (hv : TpV F v t) (hc : CmV F u m) (ok : TpOk 90000 t) (hm : CmOk m) :
    Calls Tryz.prog 110 #[v, u] w (dI w F (YF ⟨t.data ++ bH m, t.synced⟩ 0)) := by
 obtain ⟨x, y, rfl, hv⟩ := hv
 have h1' := ok.len
 have h2' := ok.syn
 obtain ⟨x1, y1, rfl, h1⟩ := hc
 obtain ⟨_, _, e1, q2, q3⟩ := Sl.shape h1
 injection e1 with _ _ e1
 subst e1
 unfold maxLen at q3
 obtain ⟨i5, hi5, hz5, hs5, hb5⟩ := info_parts pG
 have S := St.start hs
 go_enter Tryz.func110, Tryz.ntmps110
 refine sk fun K1 hK1 => ?_
 refine bB S (v := fun n => .pointer (aA n 0)) rfl (bQ (v := (.agg #[(.slice x t.data.length y), (nI t.synced)])) rfl) (fun n2 w3 S4 => ?_)
 refine bB S4 (v := fun n => .pointer (aA n 0)) rfl (bQ (v := (.agg #[(nI m.turn), (.slice x1 m.writes.length y1)])) rfl) (fun n5 w6 S7 => ?_)
 simp only [pq]
 refine sA S7 (iP _) fun n8 w9 a9 => ?_
 refine dy ?_
 refine wn hK1 ?_
 refine sk fun h3 b0 => ?_
 refine dR a9 2 Tryz.underlying108 (bJ) ?_
 simp only [pq]
 refine sZ a9 rfl (fn1 (FC _ _)) (tA _ _ _ t (a9).sat ⟨_, _, rfl, hv⟩ (⟨by omega, ok.syn⟩)) ?_
 intro h5 h6 h7 d7 b1
 simp only [pq]
 obtain ⟨d8, a1, rfl, h8, e9⟩ := (d7.own (i := 0) rfl).shape
 unfold maxLen at e9
 refine aC ?_
 refine sA d7 (iP _) fun f0 h9 f1 => ?_
 refine sW 0 f1 (bJ) fun i0 b2 => ?_
 refine dy ?_
 simp only [pq]
 refine wn b0 ?_
 refine aE fun i1 b3 => ?_
 refine sk fun i2 b4 => ?_
 refine aC ?_
 refine wn b4 ?_
 refine aF ?_
 refine aH ?_
 refine b3 _ _ ?_
 refine sk fun i3 b5 => ?_
 refine dR b2 2 Tryz.underlying168 (eE) ?_
 simp only [pq]
 refine aY b2 rfl (fn1 (XL _ _)) (IB _ _ _ (⟨m.turn, m.writes⟩ : Cm) (b2).sat ⟨_, _, rfl, (h1.mono b1)⟩ hm) ?_
 intro i4 i6 f2 f3 f4 f5
 obtain ⟨_, rfl, a7⟩ := f5
 obtain ⟨d9, b6, rfl, e0, _⟩ := a7.shape
 have e0 : (eB m.turn m.writes).length ≤ b6 := e0
 have a7 : Bs _ (.slice d9 (eB m.turn m.writes).length b6) (eB m.turn m.writes) := a7
 refine aC ?_
 refine wn b5 ?_
 refine aE fun i7 b7 => ?_
 refine sk fun i8 b9 => ?_
 refine dx ?_
 refine dr bF (bP (b := false) rfl rfl (by decide)) ?_
 simp only [pq]
 refine wn b9 ?_
 refine aF ?_
 refine aH ?_
 refine b7 _ _ ?_
 refine aE fun i9 c0 => ?_
 obtain ⟨hb1, hb2, hb3⟩ := kZ hm
 obtain ⟨hf1, hf2⟩ := lA hm
 refine aB ?_
 refine aC ?_
 refine dr (nI ((eB m.turn m.writes).length / 256)) (FM (m := ((eB m.turn m.writes).length)) (n := 8) rfl rfl (by decide)) ?_
 simp only [pq]
 refine dr (bv (b8 ((eB m.turn m.writes).length / 256))) (bA (v := (nI ((eB m.turn m.writes).length / 256))) rfl (jK ((eB m.turn m.writes).length / 256) _)) ?_
 refine aC ?_
 refine dr (bv (b8 ((eB m.turn m.writes).length))) (bA (v := (.int .i64 (((eB m.turn m.writes).length : Nat) : Int))) rfl (jK ((eB m.turn m.writes).length) _)) ?_
 refine bB f3 (v := fun n => .slice (aA n 0) 2 2) rfl (cX (ps := #[(0, (bv (b8 ((eB m.turn m.writes).length / 256)))), (1, (bv (b8 ((eB m.turn m.writes).length))))]) (cells := #[(bv (b8 ((eB m.turn m.writes).length / 256))), (bv (b8 ((eB m.turn m.writes).length)))]) (E := 5) (fF rfl rfl) (fun w => by kernel_rfl)) (fun f6 f7 e2 => ?_)
 refine dx ?_
 simp only [pq]
 have c1 : St w F f7 f2 [⟨f0, [(.slice d8 t.data.length a1), (nI t.synced)], 108⟩, ⟨n8, [Zn, (iI 0)], 108⟩, ⟨n5, [(nI m.turn), (.slice x1 m.writes.length y1)], 168⟩, ⟨n2, [(.slice x t.data.length y), (nI t.synced)], 108⟩] [cI 1 ByC ByC.mono 5 w.heap.size (.slice (aA f6 0) 2 2) [b8 ((eB m.turn m.writes).length / 256), b8 (eB m.turn m.writes).length], cI 1 ByC ByC.mono 5 w.heap.size (.slice d8 t.data.length a1) t.data] := St.blkRow (k := 1) (l := [b8 ((eB m.turn m.writes).length / 256), b8 (eB m.turn m.writes).length]) (el := [[(bv (b8 ((eB m.turn m.writes).length / 256)))], [(bv (b8 ((eB m.turn m.writes).length)))]]) (hR := ByC.mono) e2 rfl ⟨rfl, rfl, trivial⟩ (by simp) rfl (by simp) (by unfold maxLen; decide) (e2.blk _ (List.mem_cons_self ..)).2.2
 refine fL (r := 0) (u := (.slice d9 (eB m.turn m.writes).length b6)) c1 rfl i5 (.int .u8 0) 1 Tryz.underlying25 hi5 hz5 hs5 hb5 rfl (by decide) rfl rfl rfl (Sl.toW (Bs.sl a7) (c1).sat) ByC.one (Nat.le_refl _) c1.gr.below.size (by unfold maxLen; (try simp only [List.length_append, List.length_cons, List.length_nil]); omega) (by (try simp only [List.length_append, List.length_cons, List.length_nil]); omega) ?_
 intro j0 j1 c2 f8
 refine dy ?_
 refine wlK c0 ?_
 refine sk fun j2 c3 => ?_
 refine dx ?_
 simp only [pq]
 obtain ⟨j3, c4, c5, a5⟩ := mV c2 (i := 0) rfl
 refine LX c2 c5 rfl (fn1 (SI _ _)) (YG _ _ _ (gJ m) c4 (hT.at c2.gr.below) (dS a5) (by omega)) ?_
 intro f9 j4 j5 g0 g1
 refine aC ?_
 refine wn c3 ?_
 refine aE fun j6 c6 => ?_
 obtain ⟨j7, c7, g2, a3⟩ := St.freeze g0 (i := 0) rfl (Nat.le_refl _)
 have a3 : Bys _ f9 (lW (gJ m)) := a3
 have c8 := dS a3
 obtain ⟨c9, a8, rfl, _⟩ := c8.shape
 have hsl := rD (gJ m)
 have h4 : ((lW (gJ m)).take 4).length = 4 := by rw [List.length_take, hsl]; rfl
 have hcs : 32 ≤ a8 := by obtain ⟨_, _, e, q, _⟩ := c8.shape; injection e with _ _ e; omega
 refine aB ?_
 refine aC ?_
 have g3 : Bs _ (.slice c9 4 a8) ((lW (gJ m)).take 4) := dS (Sl.takeN (Bs.sl c8) (by rw [rD]; decide))
 refine dr (.slice c9 4 a8) (aV (l := 0) (h := 4) (sz := 1) Tryz.underlying25 rfl (bD _) (.inl ⟨rfl, rfl⟩) (.inr ⟨_, rfl, rfl⟩) (by omega) (by omega) (eT)) ?_
 refine fL (r := 0) (u := (.slice c9 4 a8)) c7 rfl i5 (.int .u8 0) 1 Tryz.underlying25 hi5 hz5 hs5 hb5 rfl (by decide) rfl rfl rfl (Sl.toW (Bs.sl g3) (c7).sat) ByC.one (Nat.le_refl _) c7.gr.below.size (by unfold maxLen; (try simp only [List.length_append, List.length_cons, List.length_nil]); omega) (by (try simp only [List.length_append, List.length_cons, List.length_nil]); omega) ?_
 intro j8 j9 e3 g4
 refine dy ?_
 refine wlK c6 ?_
 refine aE fun k0 d0 => ?_
 refine aE fun k1 d1 => ?_
 obtain ⟨e4, a2, rfl, k2, g5⟩ := (e3.own (i := 0) rfl).shape
 unfold maxLen at g5
 refine aB ?_
 refine aC ?_
 refine dr (nI (t.data.length + (bH m).length)) (fO (m := ((t.data.length : Nat) : Int)) (n := (((bH m).length : Nat) : Int)) (r := (((t.data.length + (bH m).length) : Nat) : Int)) rfl rfl (by omega) (by omega) (by omega)) ?_
 simp only [pq]
 refine kT ?_
 refine wlK d1 ?_
 refine aF ?_
 refine aH ?_
 refine d0 _ _ ?_
 refine aE fun k3 d2 => ?_
 obtain ⟨k4, d3, g6, a4⟩ := St.freeze e3 (i := 0) rfl (Nat.le_refl _)
 have a4 : Bys _ (.slice e4 (bH m).length a2) (bH m) := a4
 have g7 := dS a4
 refine aB ?_
 refine aC ?_
 refine fL (r := 0) (u := (.slice e4 (bH m).length a2)) d3 rfl i5 (.int .u8 0) 1 Tryz.underlying25 hi5 hz5 hs5 hb5 rfl (by decide) rfl rfl rfl (Sl.toW (Bs.sl g7) (d3).sat) ByC.one (Nat.le_refl _) d3.gr.below.size (by unfold maxLen; (try simp only [List.length_append, List.length_cons, List.length_nil]); omega) (by (try simp only [List.length_append, List.length_cons, List.length_nil]); omega) ?_
 intro k5 k6 e5 g8
 simp only [pq]
 obtain ⟨g9, a6, rfl, k7, h0⟩ := (e5.own (i := 0) rfl).shape
 unfold maxLen at h0
 refine df (jF _ _) ?_
 refine sW 0 e5 (nT) fun k8 e6 => ?_
 refine wlK d2 ?_
 refine sk fun k9 d4 => ?_
 refine dR e6 0 Tryz.underlying108 (bJ) ?_
 simp only [pq]
 refine sW 1 e6 (bJ) fun l0 e7 => ?_
 refine dy ?_
 refine wn d4 ?_
 refine aN ?_
 try simp only [xt]
 refine bR (cR rfl ⟨_, rfl, lR e7 1 Tryz.underlying108 (bJ)⟩ (gD rfl)) ?_
 ·obtain ⟨h2, d5, e8, a0⟩ := St.freeze e7 (i := 0) rfl (Nat.le_refl _)
  have a0 : Bys _ (.slice g9 (t.data ++ (bH m)).length a6) (t.data ++ (bH m)) := a0
  have d6 := dS a0
  exact ⟨_, _, rfl, d5.gr, _, rfl, _, _, rfl, d6⟩
end Go.Proofs.YtilgpdpooildcaaGreatDoor
