/- Rules, plain laws and walks: DG2 DG3 DG4 DG5 RT1 RT2 RP1 RP2 RP3 RU1 RU2 RV FR FP P14 TP5 TP6 -/
import Derived.Test.YtilgpdpooildcaaGreatDoorFA2
import Derived.Test.YtilgpdpooildcaaGreatDoorFA3
import Derived.Test.YtilgpdpooildcaaGreatDoorFA7
import Derived.Test.YtilgpdpooildcaaGreatDoorFA5
import Derived.Test.YtilgpdpooildcaaGreatDoorFA1
import Derived.Test.YtilgpdpooildcaaGreatDoorFA4
import Derived.RangeFuncNested
import Derived.RangeFuncLeaves
import Derived.RangeFuncCalls
namespace Go.Proofs.YtilgpdpooildcaaGreatDoor
set_option maxHeartbeats 8000000
open Go.RowKit
set_option maxRecDepth 100000
set_option linter.unusedVariables false
set_option linter.unusedSimpArgs false
theorem SB {P : Program} {ρ : Operand → Value} {w : World} {d : Option Tmp} {t X E : TypeId} {n : Nat} {pos : String} {after : Array Edge} {guard : Option (Nat × Bool)} {x lo hi : Operand} {b l h : Nat} (hX : P.underlying X = some (.array n E)) (hx : ρ x = .pointer (some ⟨b, 0, none⟩)) (hsz : (sizeOf E).run P w = .ok 1 w) (hl : ρ lo = .int .i64 (l : Int)) (hh : ρ hi = .int .i64 (h : Int)) (h1 : l ≤ h) (h2 : h ≤ n) (h3 : l < n) :
    (execOp ρ ⟨d, .slice X x (some lo) (some hi) none, t, pos, after, guard⟩).run P w = .ok (.value (.slice (some ⟨b, l, none⟩) (h - l) (n - l))) w := by
 have b1 : ∀ (z y : Nat) (code : BoundsCode), z ≤ y → (Instr.sliceBound (.int .i64 z) y code).run P w = .ok z w := by
  intro z y code hzy
  have : (0 : Int) ≤ (z : Int) ∧ (z : Int) ≤ (y : Int) := by omega
  simp [Instr.sliceBound, asIntOf, this]
 have hb : (Instr.sliceBounds false n n (some (.int .i64 l)) (some (.int .i64 h)) none).run P w = .ok (l, h, n) w := by
  simp [Instr.sliceBounds, b1 _ _ _ h2, b1 _ _ _ h1]
 have hadd : (⟨b, 0, none⟩ : Addr).add l = ⟨b, l, none⟩ := by have := Addr.add_mid b 0 l; simpa using this
 have hn : ¬ n = l := by omega
 simp [execOp, hx, hl, hh, Instr.sliceAt, Instr.sureAddr, Sem.run_bind, Sem.run_pure, Result.andThen_ok, run_underlying hX w, hb, hsz, hadd, hn]
theorem Dz {P : Program} {ρ : Operand → Value} {w : World} {d : Option Tmp} {t X E : TypeId} {n : Nat} {pos : String} {after : Array Edge} {guard : Option (Nat × Bool)} {x : Operand} {a : Option Addr} {l c : Nat} (hX : P.underlying X = some (.array n E)) (hx : ρ x = .slice a l c) (hl : n ≤ l) :
    (execOp ρ ⟨d, .sliceToArrayPointer X x, t, pos, after, guard⟩).run P w = .ok (.value (.pointer a)) w := by
 have : ¬ l < n := by omega
 simp [execOp, hx, Instr.arrayAt, Sem.run_bind, Sem.run_pure, run_underlying hX w, this]
theorem St.cellsAt {w0 w : World} {F0 F : Fz} {L : List Blk} {M : List RowP} (S : St w0 F0 w F L M) {i : Nat} {n : Nat} {c : List Value} {t : TypeId} (h : L[i]? = some ⟨n, c, t⟩) : ∀ j v, c[j]? = some v → w.cell? ⟨n, j, none⟩ = some v := fun j v hv => St.cell S h hv
theorem WB {w : World} {n : Nat} {X : List (BitVec 64)} {y : Nat} (h : ∀ (j : Nat) v, (X.map aR)[j]? = some v → w.cell? ⟨n, j, none⟩ = some v) (hy : y + 5 ≤ X.length) :
    (Instr.loadAt 233 (.pointer (some ⟨n, y, none⟩))).run Tryz.prog w = .ok (.agg #[aR (at0 X y), aR (at0 X (y + 1)), aR (at0 X (y + 2)), aR (at0 X (y + 3)), aR (at0 X (y + 4))]) w := by
 refine run_loadAt_mid (P := Tryz.prog) w n y 233 [aR (at0 X y), aR (at0 X (y + 1)), aR (at0 X (y + 2)), aR (at0 X (y + 3)), aR (at0 X (y + 4))] (.array 5 215) (fun j v hj => ?_) (by kernel_rfl) rfl (by kernel_rfl)
 refine h _ _ ?_
 have hj5 : j < 5 := by have := (List.getElem?_eq_some_iff.1 hj).1; simpa using this
 rw [fI (by omega), ← hj]
 rcases (by omega : j = 0 ∨ j = 1 ∨ j = 2 ∨ j = 3 ∨ j = 4) with rfl | rfl | rfl | rfl | rfl <;> rfl
theorem Ba (A : List (BitVec 64)) (k : Nat) : (qM A k).1.set (lI k) (oL (qM A k).2 (mO k)) = (qM A (k + 1)).1 := rfl
def oG (Q : List (BitVec 64)) (y : Nat) : List (BitVec 64) := [at0 Q y, at0 Q (y + 1), at0 Q (y + 2), at0 Q (y + 3), at0 Q (y + 4)]
theorem CD (Q : List (BitVec 64)) (y : Nat) : (oG Q y).length = 5 := rfl
theorem HU {Q : List (BitVec 64)} {y x : Nat} (h : x < 5) : at0 (oG Q y) x = at0 Q (y + x) := by
 rcases (by omega : x = 0 ∨ x = 1 ∨ x = 2 ∨ x = 3 ∨ x = 4) with rfl | rfl | rfl | rfl | rfl <;> rfl
theorem WC {Q : List (BitVec 64)} {y : Nat} (h : y + 5 ≤ 25) : oG (jY Q y) y = oG Q y := by
 unfold oG
 rw [wT (by omega) (by omega), wT (by omega) (by omega), wT (by omega) (by omega), wT (by omega) (by omega), wT (by omega) (by omega)]
theorem Bb {Q : List (BitVec 64)} {y x : Nat} (hy : y % 5 = 0) (hx : x < 5) : at0 (oG Q y) x ^^^ (~~~ (at0 (oG Q y) ((x + 1) % 5)) &&& at0 (oG Q y) ((x + 2) % 5)) = IK Q (y + x) := by
 unfold IK
 rw [HU hx, HU (by omega), HU (by omega), show (y + x) / 5 * 5 = y from by omega, show (y + x) % 5 = x from by omega]
theorem Fc {fn : Func} {tmps : Array Value} {P : Program} {w : World} (h : fn.results = #[]) : (results fn tmps).run P w = .ok (.tuple #[]) w := by simp [results, h]
theorem SC {w0 w : World} {F0 F : Fz} {L0 : List Blk} {M0 : List RowP} {rb r : Nat} {Z : List (BitVec 64)} (S : St w0 F0 w F (⟨rb, Z.map aR, 217⟩ :: L0) M0) (hl : Z.length = 25) (hT : Tabs w0) (hr : r < 24) :
    Calls Tryz.prog 138 #[.pointer (some ⟨rb, 0, none⟩), .int .i64 ((r : Nat) : Int)] w fun e w' => e = .returned (.tuple #[]) ∧ St w0 F0 w' F (⟨rb, (DZ Z r).map aR, 217⟩ :: L0) M0 := by
 go_enter Tryz.func138, Tryz.ntmps138
 refine sk fun K1 hK1 => ?_
 refine sA S (KF _) fun n2 w3 S4 => ?_
 refine wn hK1 ?_
 refine aF fun K5 hK5 => ?_
 refine sk fun K6 hK6 => ?_
 refine dx ?_
 refine wn hK6 ?_
 refine aM ?_
 have S4 : St w0 F0 w3 F (⟨n2, ((cL Z 0).map aR), 233⟩ :: ⟨rb, (Z.map aR), 217⟩ :: L0) (M0) := by rw [Ax]; exact S4
 refine aW (fun mm aa w8 => ∃ (k1 : Nat) (u7 : Nat → Value), mm = 5 - k1 ∧ u7 = dY aa ∧ aa = ⟨([(pP rb 0), (nI r), undef, undef, (pP n2 0), (u7 5)] ++ (udF 8 ([(nI k1)] ++ (usF u7 15 38 (udF 98 []))))).toArray, []⟩ ∧ St w0 F0 w8 F (⟨n2, ((cL Z k1).map aR), 233⟩ :: ⟨rb, (Z.map aR), 217⟩ :: L0) (M0) ∧ (k1 ≤ 5)) _ ⟨0, _, rfl, rfl, rfl, S4, (by omega)⟩ ?_
 rintro m9 k6 h5 ⟨k1, u7, rfl, -, hfr, a5, hk1⟩ k7 d5
 simp only [uzF, Nat.reduceAdd] at hfr; subst hfr
 refine sk fun k8 b7 => ?_
 by_cases h6 : k1 < 5
 refine fA ?_
 simp only [pq]
 refine wn b7 ?_
 refine aF fun k9 d6 => ?_
 refine aK ?_
 refine aI ?_
 refine d6 _ _ ?_
 refine aF fun l0 d7 => ?_
 refine aM ?_
 refine sk fun l1 d8 => ?_
 refine aC ?_
 refine wn d8 ?_
 refine aQ F 34 [] (by kernel_rfl) (by kernel_rfl) ?_
 simp only [cV]
 refine gm ?_
 simp only [pq]
 iterate 2 refine gm ?_
 refine gi ?_
 simp only [pq]
 refine gv (pP rb k1) (fun _ _ => fQ (i := k1) Tryz.underlying217 (cM _) rfl rfl (by omega)) ?_
 refine gv _ (fun _ a6 => aE rfl (aT (fH _) (St.cell (St.tells a5 a6) (i := 1) rfl (fI (Nat.lt_of_lt_of_eq (show k1 < 25 by omega) hl.symm))))) ?_
 refine gm ?_
 simp only [pq]
 refine gm ?_
 refine gv (nI (k1 + 5)) (fun _ _ => fW (m := ((k1 : Nat) : Int)) (n := (5 : Int)) (r := (((k1 + 5) : Nat) : Int)) rfl rfl (by omega) (by omega) (by omega)) ?_
 refine gi ?_
 simp only [pq]
 refine gv (pP rb ((k1 + 5))) (fun _ _ => fQ (i := (k1 + 5)) Tryz.underlying217 (cM _) rfl rfl (by omega)) ?_
 refine gv _ (fun _ a6 => aE rfl (aT (fH _) (St.cell (St.tells a5 a6) (i := 1) rfl (fI (Nat.lt_of_lt_of_eq (show (k1 + 5) < 25 by omega) hl.symm))))) ?_
 refine gv (aR ((at0 Z k1) ^^^ (at0 Z (k1 + 5)))) (fun _ _ => nF rfl rfl) ?_
 simp only [pq]
 iterate 2 refine gm ?_
 refine gv (nI (k1 + 10)) (fun _ _ => fW (m := ((k1 : Nat) : Int)) (n := (10 : Int)) (r := (((k1 + 10) : Nat) : Int)) rfl rfl (by omega) (by omega) (by omega)) ?_
 simp only [pq]
 refine gi ?_
 refine gv (pP rb ((k1 + 10))) (fun _ _ => fQ (i := (k1 + 10)) Tryz.underlying217 (cM _) rfl rfl (by omega)) ?_
 refine gv _ (fun _ a6 => aE rfl (aT (fH _) (St.cell (St.tells a5 a6) (i := 1) rfl (fI (Nat.lt_of_lt_of_eq (show (k1 + 10) < 25 by omega) hl.symm))))) ?_
 simp only [pq]
 refine gv (aR (((at0 Z k1) ^^^ (at0 Z (k1 + 5))) ^^^ (at0 Z (k1 + 10)))) (fun _ _ => nF rfl rfl) ?_
 iterate 2 refine gm ?_
 simp only [pq]
 refine gv (nI (k1 + 15)) (fun _ _ => fW (m := ((k1 : Nat) : Int)) (n := (15 : Int)) (r := (((k1 + 15) : Nat) : Int)) rfl rfl (by omega) (by omega) (by omega)) ?_
 refine gi ?_
 refine gv (pP rb ((k1 + 15))) (fun _ _ => fQ (i := (k1 + 15)) Tryz.underlying217 (cM _) rfl rfl (by omega)) ?_
 simp only [pq]
 refine gv _ (fun _ a6 => aE rfl (aT (fH _) (St.cell (St.tells a5 a6) (i := 1) rfl (fI (Nat.lt_of_lt_of_eq (show (k1 + 15) < 25 by omega) hl.symm))))) ?_
 refine gv (aR ((((at0 Z k1) ^^^ (at0 Z (k1 + 5))) ^^^ (at0 Z (k1 + 10))) ^^^ (at0 Z (k1 + 15)))) (fun _ _ => nF rfl rfl) ?_
 refine gm ?_
 simp only [pq]
 refine gm ?_
 refine gv (nI (k1 + 20)) (fun _ _ => fW (m := ((k1 : Nat) : Int)) (n := (20 : Int)) (r := (((k1 + 20) : Nat) : Int)) rfl rfl (by omega) (by omega) (by omega)) ?_
 refine gi ?_
 simp only [pq]
 refine gv (pP rb ((k1 + 20))) (fun _ _ => fQ (i := (k1 + 20)) Tryz.underlying217 (cM _) rfl rfl (by omega)) ?_
 refine gv _ (fun _ a6 => aE rfl (aT (fH _) (St.cell (St.tells a5 a6) (i := 1) rfl (fI (Nat.lt_of_lt_of_eq (show (k1 + 20) < 25 by omega) hl.symm))))) ?_
 refine gv (aR (((((at0 Z k1) ^^^ (at0 Z (k1 + 5))) ^^^ (at0 Z (k1 + 10))) ^^^ (at0 Z (k1 + 15))) ^^^ (at0 Z (k1 + 20)))) (fun _ _ => nF rfl rfl) ?_
 simp only [pq]
 refine bN ?_
 intro l2 d9 e0
 clear e0
 have h7 := St.tells a5 d9
 simp only [cW]
 refine dr (pP n2 k1) (fQ (i := k1) Tryz.underlying233 (cM _) rfl rfl (by omega)) ?_
 refine fK (i := 0) (v := aR (((((at0 Z k1) ^^^ (at0 Z (k1 + 5))) ^^^ (at0 Z (k1 + 10))) ^^^ (at0 Z (k1 + 15))) ^^^ (at0 Z (k1 + 20)))) h7 rfl rfl rfl rfl (qD) (mF rfl) (by rw [List.length_map, (HT _ _)]; show k1 + 1 ≤ 5; omega) (fun h0 b0 => ?_)
 simp only [pq]
 have b0 : St w0 F0 h0 F (⟨n2, (bQ ((cL Z k1).map aR) k1 [aR (((((at0 Z k1) ^^^ (at0 Z (k1 + 5))) ^^^ (at0 Z (k1 + 10))) ^^^ (at0 Z (k1 + 15))) ^^^ (at0 Z (k1 + 20)))]), 233⟩ :: ⟨rb, (Z.map aR), 217⟩ :: L0) (M0) := b0
 rw [nK (Nat.lt_of_lt_of_eq (show k1 < 5 by omega) (HT _ _).symm)] at b0
 have b0 : St w0 F0 h0 F (⟨n2, (((cL Z k1).set k1 (TR Z k1)).map aR), 233⟩ :: ⟨rb, (Z.map aR), 217⟩ :: L0) (M0) := b0
 rw [Aw Z (by omega)] at b0
 refine wlK d7 ?_
 refine aB ?_
 refine cD (k1 + 1) ?_
 refine dx ?_
 refine aH ?_
 exact d5 _ _ _ (by omega) ⟨(k1 + 1), _, rfl, rfl, rfl, b0, (by omega)⟩
 refine eM ?_
 simp only [pq]
 refine wn b7 ?_
 refine aF fun l3 h8 => ?_
 refine aG ?_
 refine cS ?_
 refine hK5 _ _ ?_
 refine aF fun l4 e1 => ?_
 refine aF fun l5 e2 => ?_
 obtain rfl : k1 = 5 := by omega
 refine aB ?_
 refine dx ?_
 refine wlK e2 ?_
 refine aM ?_
 have a5 : St w0 F0 h5 F (⟨n2, ((cL Z 5).map aR), 233⟩ :: ⟨rb, ((thL Z (cL Z 5) 0).map aR), 217⟩ :: L0) (M0) := by rw [VY hl]; exact a5
 refine aW (fun mm aa h9 => ∃ (k2 : Nat) (a1 : Nat → Value), mm = 25 - k2 ∧ a1 = dY aa ∧ aa = ⟨([(pP rb 0), (nI r), undef, undef, (pP n2 0), (u7 5), (a1 6), (a1 7)] ++ (udF 6 ([(iI 5), bF] ++ (usF u7 16 37 ([(nI k2)] ++ (usF a1 54 25 (udF 72 []))))))).toArray, []⟩ ∧ St w0 F0 h9 F (⟨n2, ((cL Z 5).map aR), 233⟩ :: ⟨rb, ((thL Z (cL Z 5) k2).map aR), 217⟩ :: L0) (M0) ∧ (k2 ≤ 25)) _ ⟨0, _, rfl, rfl, rfl, a5, (by omega)⟩ ?_
 rintro l6 l7 l8 ⟨k2, a1, rfl, -, hfr, a7, hk2⟩ l9 e3
 simp only [uzF, Nat.reduceAdd] at hfr; subst hfr
 refine sk fun m0 b9 => ?_
 by_cases i0 : k2 < 25
 refine fA ?_
 refine wn b9 ?_
 refine aF fun m1 e4 => ?_
 refine aK ?_
 refine aI ?_
 refine e4 _ _ ?_
 refine aF fun m2 e5 => ?_
 refine aM ?_
 refine sk fun m3 e6 => ?_
 refine aC ?_
 refine wn e6 ?_
 refine sk fun m4 e7 => ?_
 refine dx ?_
 refine dr (nI (k2 % 5)) (oZ (m := k2) (n := 5) rfl rfl (by decide) (by omega)) ?_
 refine dy ?_
 simp only [pq]
 refine wn e7 ?_
 refine aQ F 19 [(15, .is (aR (oL (at0 (cL Z 5) (((k2 % 5) + 1) % 5)) 1)))] (by kernel_rfl) (by kernel_rfl) ?_
 simp only [cV]
 iterate 2 refine gm ?_
 refine gi ?_
 simp only [pq]
 refine gv (pP rb k2) (fun _ _ => fQ (i := k2) Tryz.underlying217 (cM _) rfl rfl (by omega)) ?_
 refine gv _ (fun _ b6 => aE rfl (aT (fH _) (St.cell (St.tells a7 b6) (i := 1) rfl (fI (Nat.lt_of_lt_of_eq (show k2 < 25 by omega) (zW _ _ _).symm))))) ?_
 refine gm ?_
 simp only [pq]
 refine gv (nI ((k2 % 5) + 4)) (fun _ _ => fW (m := (((k2 % 5) : Nat) : Int)) (n := (4 : Int)) (r := ((((k2 % 5) + 4) : Nat) : Int)) rfl rfl (by omega) (by omega) (by omega)) ?_
 refine gv (.int .i64 (((((k2 % 5) + 4) % 5) : Nat) : Int)) (fun _ _ => oZ (m := ((k2 % 5) + 4)) (n := 5) rfl rfl (by decide) (by omega)) ?_
 refine gv (pP n2 ((((k2 % 5) + 4) % 5))) (fun _ _ => fQ (i := (((k2 % 5) + 4) % 5)) Tryz.underlying233 (cM _) rfl rfl (by omega)) ?_
 simp only [pq]
 refine gv _ (fun _ b6 => aE rfl (aT (fH _) (St.cell (St.tells a7 b6) (i := 0) rfl (fI (Nat.lt_of_lt_of_eq (show (((k2 % 5) + 4) % 5) < 5 by omega) (HT _ _).symm))))) ?_
 refine gm ?_
 refine gv (nI ((k2 % 5) + 1)) (fun _ _ => fW (m := (((k2 % 5) : Nat) : Int)) (n := (1 : Int)) (r := ((((k2 % 5) + 1) : Nat) : Int)) rfl rfl (by omega) (by omega) (by omega)) ?_
 simp only [pq]
 refine gv (.int .i64 (((((k2 % 5) + 1) % 5) : Nat) : Int)) (fun _ _ => oZ (m := ((k2 % 5) + 1)) (n := 5) rfl rfl (by decide) (by omega)) ?_
 refine gv (pP n2 ((((k2 % 5) + 1) % 5))) (fun _ _ => fQ (i := (((k2 % 5) + 1) % 5)) Tryz.underlying233 (cM _) rfl rfl (by omega)) ?_
 refine gv _ (fun _ b6 => aE rfl (aT (fH _) (St.cell (St.tells a7 b6) (i := 0) rfl (fI (Nat.lt_of_lt_of_eq (show (((k2 % 5) + 1) % 5) < 5 by omega) (HT _ _).symm))))) ?_
 simp only [pq]
 refine jC rfl rfl (v := (aR (oL (at0 (cL Z 5) (((k2 % 5) + 1) % 5)) 1))) (fun m5 b6 _ => bX (cP (vs := #[(aR (at0 (cL Z 5) (((k2 % 5) + 1) % 5))), (iI 1)]) (iX rfl rfl) rfl (PV _ _)) (lM (EX _ (at0 (cL Z 5) (((k2 % 5) + 1) % 5)) 1 (by decide) (by decide)))) ?_
 refine gv (aR ((at0 (cL Z 5) (((k2 % 5) + 4) % 5)) ^^^ (oL (at0 (cL Z 5) (((k2 % 5) + 1) % 5)) 1))) (fun _ _ => nF rfl rfl) ?_
 refine gv (aR ((at0 (thL Z (cL Z 5) k2) k2) ^^^ ((at0 (cL Z 5) (((k2 % 5) + 4) % 5)) ^^^ (oL (at0 (cL Z 5) (((k2 % 5) + 1) % 5)) 1)))) (fun _ _ => nF rfl rfl) ?_
 refine gi ?_
 simp only [pq]
 refine bN ?_
 intro m6 e8 e9
 clear e9
 have i1 := St.tells a7 e8
 simp only [cW]
 refine dr (pP rb k2) (fQ (i := k2) Tryz.underlying217 (cM _) rfl rfl (by omega)) ?_
 refine fK (i := 1) (v := aR ((at0 (thL Z (cL Z 5) k2) k2) ^^^ ((at0 (cL Z 5) (((k2 % 5) + 4) % 5)) ^^^ (oL (at0 (cL Z 5) (((k2 % 5) + 1) % 5)) 1)))) i1 rfl rfl rfl rfl (qD) (mF rfl) (by rw [List.length_map, (zW _ _ _)]; show k2 + 1 ≤ 25; omega) (fun h1 a8 => ?_)
 simp only [pq]
 have a8 : St w0 F0 h1 F (⟨n2, ((cL Z 5).map aR), 233⟩ :: ⟨rb, (bQ ((thL Z (cL Z 5) k2).map aR) k2 [aR ((at0 (thL Z (cL Z 5) k2) k2) ^^^ ((at0 (cL Z 5) (((k2 % 5) + 4) % 5)) ^^^ (oL (at0 (cL Z 5) (((k2 % 5) + 1) % 5)) 1)))]), 217⟩ :: L0) (M0) := a8
 rw [nK (Nat.lt_of_lt_of_eq (show k2 < 25 by omega) (zW _ _ _).symm)] at a8
 rw [Dx (S := Z) (C := (cL Z 5)) (i := k2) (by omega)] at a8
 have a8 : St w0 F0 h1 F (⟨n2, ((cL Z 5).map aR), 233⟩ :: ⟨rb, (((thL Z (cL Z 5) k2).set k2 (Cs Z (cL Z 5) k2)).map aR), 217⟩ :: L0) (M0) := a8
 rw [VZ Z _ (by omega)] at a8
 refine wlK e5 ?_
 refine aB ?_
 refine cD (k2 + 1) ?_
 refine dx ?_
 refine aH ?_
 exact e3 _ _ _ (by omega) ⟨(k2 + 1), _, rfl, rfl, rfl, a8, (by omega)⟩
 refine eM ?_
 simp only [pq]
 refine wn b9 ?_
 refine aF fun m7 i2 => ?_
 refine aG ?_
 refine cS ?_
 refine e1 _ _ ?_
 refine aF fun m8 f0 => ?_
 obtain rfl : k2 = 25 := by omega
 obtain ⟨A, hA⟩ : ∃ A, A = thL Z (cL Z 5) 25 := ⟨_, rfl⟩
 have hAl : A.length = 25 := by rw [hA]; exact zW _ _ _
 rw [← hA] at a7
 refine aB ?_
 refine aC ?_
 refine dr (pP rb 1) (fQ (i := 1) Tryz.underlying217 (cM _) rfl rfl (by omega)) ?_
 simp only [pq]
 refine dr _ (aE rfl (aT (fH _) (St.cell a7 (i := 1) rfl (fI (Nat.lt_of_lt_of_eq (show 1 < 25 by omega) hAl.symm))))) ?_
 refine dy ?_
 refine wlK f0 ?_
 refine aF fun n0 f1 => ?_
 refine sk fun n1 f2 => ?_
 refine dr (.agg yS) (aE rfl (RY (hT.at a7.gr.below))) ?_
 refine dx ?_
 simp only [pq]
 refine wn f2 ?_
 refine aM ?_
 refine aW (fun mm aa i3 => ∃ (k3 : Nat) (a2 : Nat → Value), mm = 24 - k3 ∧ a2 = dY aa ∧ aa = ⟨([(pP rb 0), (nI r), undef, undef, (pP n2 0), (u7 5), (a1 6), (a1 7), (aR (qM A k3).2), (a2 9), (a2 10), undef, undef, undef, (iI 5), bF] ++ (usF u7 16 37 ([(iI 25), bF] ++ (usF a1 55 24 ([(pP rb 0), (pP rb 0), (pP rb 1), (aR (at0 A 1)), (.agg yS), (nI k3)] ++ (usF a2 85 18 (udF 48 []))))))).toArray, []⟩ ∧ St w0 F0 i3 F (⟨n2, ((cL Z 5).map aR), 233⟩ :: ⟨rb, ((qM A k3).1.map aR), 217⟩ :: L0) (M0) ∧ (k3 ≤ 24)) _ ⟨0, _, rfl, rfl, rfl, a7, (by omega)⟩ ?_
 rintro n3 n4 i4 ⟨k3, a2, rfl, -, hfr, b1, hk3⟩ n5 f3
 simp only [uzF, Nat.reduceAdd] at hfr; subst hfr
 refine sk fun n6 c0 => ?_
 by_cases i5 : k3 < 24
 refine fA ?_
 refine wn c0 ?_
 refine aF fun n7 f4 => ?_
 refine aK ?_
 refine aI ?_
 refine f4 _ _ ?_
 refine aF fun n8 f5 => ?_
 refine aM ?_
 refine aF fun n9 f6 => ?_
 have hgo := VX k3 (by omega)
 refine aB ?_
 refine dx ?_
 refine dr (nI (lI k3)) (Dy (i := k3) Tryz.underlying235 (eR _) rfl rfl (by omega) (bU _) (Av (by omega))) ?_
 refine aC ?_
 refine wlK f6 ?_
 refine aQ F 13 [(6, .is (aR (oL ((qM A k3).2) (mO k3))))] (by kernel_rfl) (by kernel_rfl) ?_
 simp only [cV]
 iterate 2 refine gm ?_
 simp only [pq]
 iterate 2 refine gm ?_
 refine gv (pP 3 k3) (fun _ _ => fQ (i := k3) Tryz.underlying235 (eR _) rfl rfl (by omega)) ?_
 simp only [pq]
 refine gv _ (fun _ d2 => aE rfl (aT (bU _) (((hT.at (St.tells b1 d2).gr.below).2.1 k3 (by omega))))) ?_
 simp only [pq]
 refine jC rfl rfl (v := (aR (oL ((qM A k3).2) (mO k3)))) (fun o0 d2 _ => bX (cP (vs := #[(aR (qM A k3).2), (nI (mO k3))]) (iX rfl rfl) rfl (PV _ _)) (lM (EX _ ((qM A k3).2) (mO k3) (EY _ (by omega)).1 (EY _ (by omega)).2))) ?_
 iterate 2 refine gm ?_
 refine gi ?_
 simp only [pq]
 refine gv (pP rb ((lI k3))) (fun _ _ => fQ (i := (lI k3)) Tryz.underlying217 (cM _) rfl rfl (by omega)) ?_
 refine gv _ (fun _ d2 => aE rfl (aT (fH _) (St.cell (St.tells b1 d2) (i := 1) rfl (fI (Nat.lt_of_lt_of_eq (show (lI k3) < 25 by omega) (sU hAl _).symm))))) ?_
 refine gi ?_
 simp only [pq]
 refine bN ?_
 intro o1 f7 f8
 clear f8
 have i6 := St.tells b1 f7
 simp only [cW]
 refine dr (pP rb ((lI k3))) (fQ (i := (lI k3)) Tryz.underlying217 (cM _) rfl rfl (by omega)) ?_
 refine fK (i := 1) (v := aR (oL ((qM A k3).2) (mO k3))) i6 rfl rfl rfl rfl (qD) (mF rfl) (by rw [List.length_map, (sU hAl _)]; show (lI k3) + 1 ≤ 25; omega) (fun i7 c1 => ?_)
 simp only [pq]
 have c1 : St w0 F0 i7 F (⟨n2, ((cL Z 5).map aR), 233⟩ :: ⟨rb, (bQ (((qM A k3).1).map aR) (lI k3) [aR (oL ((qM A k3).2) (mO k3))]), 217⟩ :: L0) (M0) := c1
 rw [nK (Nat.lt_of_lt_of_eq (show (lI k3) < 25 by omega) (sU hAl _).symm)] at c1
 rw [Ba] at c1
 refine dy ?_
 refine wlK f5 ?_
 refine aB ?_
 refine cD (k3 + 1) ?_
 refine dx ?_
 simp only [pq]
 refine aH ?_
 exact f3 _ _ _ (by omega) ⟨(k3 + 1), _, rfl, rfl, rfl, c1, (by omega)⟩
 refine eM ?_
 refine wn c0 ?_
 refine aF fun o2 i8 => ?_
 refine aG ?_
 refine cS ?_
 refine f1 _ _ ?_
 refine aF fun o3 f9 => ?_
 refine aF fun o4 g0 => ?_
 obtain rfl : k3 = 24 := by omega
 obtain ⟨Q, hQ⟩ : ∃ Q, Q = (qM A 24).1 := ⟨_, rfl⟩
 have hQl : Q.length = 25 := by rw [hQ]; exact sU hAl _
 rw [← hQ] at b1
 refine aB ?_
 refine dy ?_
 refine wlK g0 ?_
 refine aM ?_
 have b1 : St w0 F0 i4 F (⟨n2, ((cL Z 5).map aR), 233⟩ :: ⟨rb, ((jY Q 0).map aR), 217⟩ :: L0) (M0) := by rw [RZ hQl]; exact b1
 refine aW (fun mm aa i9 => ∃ (y : Nat) (b2 : Nat → Value), mm = 25 - y ∧ b2 = dY aa ∧ aa = ⟨([(pP rb 0), (nI r), undef, undef, (pP n2 0), (u7 5), (a1 6), (a1 7), (aR (qM A 24).2), (a2 9), (a2 10), (nI y), (b2 12), (b2 13), (iI 5), bF] ++ (usF u7 16 37 ([(iI 25), bF] ++ (usF a1 55 24 ([(pP rb 0), (pP rb 0), (pP rb 1), (aR (at0 A 1)), (.agg yS), (iI 24), bF] ++ (usF a2 86 17 (usF b2 103 38 (udF 10 [])))))))).toArray, []⟩ ∧ St w0 F0 i9 F (⟨n2, ((cL Z 5).map aR), 233⟩ :: ⟨rb, ((jY Q y).map aR), 217⟩ :: L0) (M0) ∧ (y % 5 = 0) ∧ (y ≤ 25)) _ ⟨0, _, rfl, rfl, rfl, b1, (by omega), (by omega)⟩ ?_
 rintro o5 o6 o7 ⟨y, b2, rfl, -, hfr, c2, hy5, j0⟩ o8 g1
 simp only [uzF, Nat.reduceAdd] at hfr; subst hfr
 refine aF fun o9 g2 => ?_
 refine sk fun p0 c3 => ?_
 refine dx ?_
 simp only [pq]
 by_cases h2 : y < 25
 refine fA ?_
 refine wn c3 ?_
 refine aK ?_
 refine aI ?_
 refine g2 _ _ ?_
 refine aF fun p1 g3 => ?_
 refine aM ?_
 refine sk fun p2 g4 => ?_
 refine aC ?_
 refine cD (y + 5) ?_
 refine dr (.slice (aA rb y) ((y + 5) - y) (25 - y)) (SB (l := y) (h := (y + 5)) Tryz.underlying217 rfl (cM _) rfl rfl (by omega) (by omega) (by omega)) ?_
 simp only [pq]
 refine dr (pP rb y) (Dz Tryz.underlying233 rfl (by omega)) ?_
 refine dr (.agg #[(aR (at0 (jY Q y) y)), (aR (at0 (jY Q y) (y + 1))), (aR (at0 (jY Q y) (y + 2))), (aR (at0 (jY Q y) (y + 3))), (aR (at0 (jY Q y) (y + 4)))]) (aE rfl (WB (St.cellsAt c2 (i := 1) rfl) (show y + 5 ≤ (jY Q y).length from by rw [(qE _ _)]; omega))) ?_
 refine sA c2 (KF _) fun b3 p3 j1 => ?_
 simp only [pq]
 refine sW 0 j1 (VW) fun j2 d3 => ?_
 refine wn g4 ?_
 refine sk fun p4 g5 => ?_
 refine dx ?_
 refine wn g5 ?_
 refine aM ?_
 have d3 : St w0 F0 j2 F (⟨b3, ((oG (jY Q y) y).map aR), 233⟩ :: ⟨n2, ((cL Z 5).map aR), 233⟩ :: ⟨rb, ((jY Q y).map aR), 217⟩ :: L0) (M0) := d3
 rw [WC (by omega)] at d3
 refine aW (fun mm aa j3 => ∃ (k5 : Nat) (d4 : Nat → Value), mm = 5 - k5 ∧ d4 = dY aa ∧ aa = ⟨([(pP rb 0), (nI r), undef, undef, (pP n2 0), (u7 5), (a1 6), (a1 7), (aR (qM A 24).2), (a2 9), (a2 10), (nI y), (pP b3 0), (d4 13), (iI 5), bF] ++ (usF u7 16 37 ([(iI 25), bF] ++ (usF a1 55 24 ([(pP rb 0), (pP rb 0), (pP rb 1), (aR (at0 A 1)), (.agg yS), (iI 24), bF] ++ (usF a2 86 17 ([(nI y), bT, (b2 105), (b2 106), (pP rb 0), (pP rb 0), (nI y), (nI y), (nI (y + 5)), (.slice (aA rb y) ((y + 5) - y) (25 - y)), (pP rb y), (.agg #[(aR (at0 (jY Q y) y)), (aR (at0 (jY Q y) (y + 1))), (aR (at0 (jY Q y) (y + 2))), (aR (at0 (jY Q y) (y + 3))), (aR (at0 (jY Q y) (y + 4)))]), (nI k5)] ++ (usF d4 116 25 (udF 10 []))))))))).toArray, []⟩ ∧ St w0 F0 j3 F (⟨b3, ((oG Q y).map aR), 233⟩ :: ⟨n2, ((cL Z 5).map aR), 233⟩ :: ⟨rb, ((jY Q (y + k5)).map aR), 217⟩ :: L0) (M0) ∧ (k5 ≤ 5)) _ ⟨0, _, rfl, rfl, rfl, d3, (by omega)⟩ ?_
 rintro p5 p6 p7 ⟨k5, d4, rfl, -, hfr, b4, hk5⟩ j4 c4
 simp only [uzF, Nat.reduceAdd] at hfr; subst hfr
 refine sk fun j5 a9 => ?_
 by_cases h3 : k5 < 5
 refine fA ?_
 simp only [pq]
 refine wn a9 ?_
 refine aF fun j6 c5 => ?_
 refine aK ?_
 refine aI ?_
 refine c5 _ _ ?_
 refine aF fun j7 c6 => ?_
 refine aM ?_
 refine sk fun j8 c7 => ?_
 refine aC ?_
 refine wn c7 ?_
 refine aQ F 21 [] (by kernel_rfl) (by kernel_rfl) ?_
 simp only [cV]
 refine gm ?_
 simp only [pq]
 iterate 2 refine gm ?_
 refine gv (nI (y + k5)) (fun _ _ => fW (m := ((y : Nat) : Int)) (n := ((k5 : Nat) : Int)) (r := (((y + k5) : Nat) : Int)) rfl rfl (by omega) (by omega) (by omega)) ?_
 simp only [pq]
 refine gm ?_
 refine gv (pP b3 k5) (fun _ _ => fQ (i := k5) Tryz.underlying233 (cM _) rfl rfl (by omega)) ?_
 refine gv _ (fun _ a3 => aE rfl (aT (fH _) (St.cell (St.tells b4 a3) (i := 0) rfl (fI (Nat.lt_of_lt_of_eq (show k5 < 5 by omega) (CD _ _).symm))))) ?_
 simp only [pq]
 refine gm ?_
 refine gv (nI (k5 + 1)) (fun _ _ => fW (m := ((k5 : Nat) : Int)) (n := (1 : Int)) (r := (((k5 + 1) : Nat) : Int)) rfl rfl (by omega) (by omega) (by omega)) ?_
 refine gv (nI ((k5 + 1) % 5)) (fun _ _ => oZ (m := (k5 + 1)) (n := 5) rfl rfl (by decide) (by omega)) ?_
 simp only [pq]
 refine gv (pP b3 (((k5 + 1) % 5))) (fun _ _ => fQ (i := ((k5 + 1) % 5)) Tryz.underlying233 (cM _) rfl rfl (by omega)) ?_
 refine gv _ (fun _ a3 => aE rfl (aT (fH _) (St.cell (St.tells b4 a3) (i := 0) rfl (fI (Nat.lt_of_lt_of_eq (show ((k5 + 1) % 5) < 5 by omega) (CD _ _).symm))))) ?_
 refine gv (aR (~~~ (at0 (oG Q y) ((k5 + 1) % 5)))) (fun _ _ => Az rfl) ?_
 simp only [pq]
 refine gm ?_
 refine gv (nI (k5 + 2)) (fun _ _ => fW (m := ((k5 : Nat) : Int)) (n := (2 : Int)) (r := (((k5 + 2) : Nat) : Int)) rfl rfl (by omega) (by omega) (by omega)) ?_
 refine gv (nI ((k5 + 2) % 5)) (fun _ _ => oZ (m := (k5 + 2)) (n := 5) rfl rfl (by decide) (by omega)) ?_
 simp only [pq]
 refine gv (pP b3 (((k5 + 2) % 5))) (fun _ _ => fQ (i := ((k5 + 2) % 5)) Tryz.underlying233 (cM _) rfl rfl (by omega)) ?_
 refine gv _ (fun _ a3 => aE rfl (aT (fH _) (St.cell (St.tells b4 a3) (i := 0) rfl (fI (Nat.lt_of_lt_of_eq (show ((k5 + 2) % 5) < 5 by omega) (CD _ _).symm))))) ?_
 refine gv (aR ((~~~ (at0 (oG Q y) ((k5 + 1) % 5))) &&& (at0 (oG Q y) ((k5 + 2) % 5)))) (fun _ _ => Ay rfl rfl) ?_
 simp only [pq]
 refine gv (aR ((at0 (oG Q y) k5) ^^^ ((~~~ (at0 (oG Q y) ((k5 + 1) % 5))) &&& (at0 (oG Q y) ((k5 + 2) % 5))))) (fun _ _ => nF rfl rfl) ?_
 refine gi ?_
 refine bN ?_
 intro j9 c8 c9
 clear c9
 have g6 := St.tells b4 c8
 simp only [cW]
 refine dr (pP rb ((y + k5))) (fQ (i := (y + k5)) Tryz.underlying217 (cM _) rfl rfl (by omega)) ?_
 simp only [pq]
 refine fK (i := 2) (v := aR ((at0 (oG Q y) k5) ^^^ ((~~~ (at0 (oG Q y) ((k5 + 1) % 5))) &&& (at0 (oG Q y) ((k5 + 2) % 5))))) g6 rfl rfl rfl rfl (qD) (mF rfl) (by rw [List.length_map, (qE _ _)]; show (y + k5) + 1 ≤ 25; omega) (fun g7 a4 => ?_)
 simp only [pq]
 have a4 : St w0 F0 g7 F (⟨b3, ((oG Q y).map aR), 233⟩ :: ⟨n2, ((cL Z 5).map aR), 233⟩ :: ⟨rb, (bQ ((jY Q (y + k5)).map aR) (y + k5) [aR ((at0 (oG Q y) k5) ^^^ ((~~~ (at0 (oG Q y) ((k5 + 1) % 5))) &&& (at0 (oG Q y) ((k5 + 2) % 5))))]), 217⟩ :: L0) (M0) := a4
 rw [nK (Nat.lt_of_lt_of_eq (show (y + k5) < 25 by omega) (qE _ _).symm)] at a4
 rw [Bb hy5 (by omega), SA Q (by omega)] at a4
 refine wlK c6 ?_
 refine aB ?_
 refine cD (k5 + 1) ?_
 refine dx ?_
 refine aH ?_
 exact c4 _ _ _ (by omega) ⟨(k5 + 1), _, rfl, rfl, rfl, a4, (by omega)⟩
 refine eM ?_
 simp only [pq]
 refine wn a9 ?_
 refine aF fun k0 h4 => ?_
 refine aG ?_
 refine cS ?_
 refine g3 _ _ ?_
 obtain rfl : k5 = 5 := by omega
 refine aB ?_
 refine dx ?_
 refine cD (y + 5) ?_
 refine dy ?_
 simp only [pq]
 refine aH ?_
 have b4 := St.drop b4 (.cons _ (List.Sublist.refl _))
 exact g1 _ _ _ (by omega) ⟨(y + 5), _, rfl, rfl, rfl, b4, (by omega), (by omega)⟩
 refine eM ?_
 refine wn c3 ?_
 refine aG ?_
 refine cS ?_
 refine f9 _ _ ?_
 obtain rfl : y = 25 := by omega
 refine aQ F 9 [] (by kernel_rfl) (by kernel_rfl) ?_
 simp only [cV]
 refine gm ?_
 refine gi ?_
 simp only [pq]
 refine gv (pP rb 0) (fun _ _ => fQ (i := 0) Tryz.underlying217 (cM _) rfl rfl (by omega)) ?_
 refine gv _ (fun _ b5 => aE rfl (aT (fH _) (St.cell (St.tells c2 b5) (i := 1) rfl (fI (Nat.lt_of_lt_of_eq (show 0 < 25 by omega) (qE _ _).symm))))) ?_
 refine gm ?_
 simp only [pq]
 refine gv (pP 4 r) (fun _ _ => fQ (i := r) Tryz.underlying218 (cM _) rfl rfl (by omega)) ?_
 refine gv _ (fun _ b5 => aE rfl (aT (fH _) (((hT.at (St.tells c2 b5).gr.below).2.2 r hr)))) ?_
 refine gv (aR ((at0 (jY Q 25) 0) ^^^ (xJ r))) (fun _ _ => nF rfl rfl) ?_
 simp only [pq]
 refine gi ?_
 refine bN ?_
 intro k4 d0 d1
 clear d1
 have g8 := St.tells c2 d0
 simp only [cW]
 refine dr (pP rb 0) (fQ (i := 0) Tryz.underlying217 (cM _) rfl rfl (by omega)) ?_
 refine fK (i := 1) (v := aR ((at0 (jY Q 25) 0) ^^^ (xJ r))) g8 rfl rfl rfl rfl (qD) (mF rfl) (by rw [List.length_map, (qE _ _)]; show 0 + 1 ≤ 25; omega) (fun g9 a0 => ?_)
 simp only [pq]
 have a0 : St w0 F0 g9 F (⟨n2, ((cL Z 5).map aR), 233⟩ :: ⟨rb, (bQ ((jY Q 25).map aR) 0 [aR ((at0 (jY Q 25) 0) ^^^ (xJ r))]), 217⟩ :: L0) (M0) := a0
 rw [nK (Nat.lt_of_lt_of_eq (show 0 < 25 by omega) (qE _ _).symm)] at a0
 refine aH ?_
 try simp only [xt]
 refine bE (Fc rfl) ?_
 rw [WA] at a0
 have a0 := St.drop a0 (.cons _ (List.Sublist.refl _))
 rw [hQ, hA, Dw] at a0
 exact ⟨rfl, a0⟩
theorem Fd {E base : Nat} {w : World} {F : Fz} {l : By} {a : Option Addr} {n c : Nat} (h : Own 1 ByC E base w F (.slice a n c) l) {i : Nat} {b : UInt8} (hp : l[i]? = some b) : ∃ g, a = some ⟨g, 0, none⟩ ∧ w.cell? ⟨g, 0 + i * 1, none⟩ = some (bv b) := by
 obtain ⟨g, cs, e, _, r, hr⟩ := h.at hp
 have r : cs = [bv b] := r
 subst r
 refine ⟨g, e, ?_⟩
 have := hr 0 _ rfl
 rw [Nat.zero_add]
 simpa using this
section
variable {P : Program} {ρ : Operand → Value} {w : World} {d : Option Tmp} {t X Y E : TypeId} {pos : String} {after : Array Edge} {guard : Option (Nat × Bool)} {x y : Operand}
theorem Fe (b : UInt8) : bits .or .u8 (b.toNat : Int) 128 = ((b ||| 128).toNat : Int) := by
 have e1 : BitVec.ofInt 8 (b.toNat : Int) = b.toBitVec := by rw [BitVec.ofInt_natCast]; simp
 have e2 : BitVec.ofInt 8 (128 : Int) = (128 : UInt8).toBitVec := by decide
 have e3 : (b ||| 128).toNat = (b.toBitVec ||| (128 : UInt8).toBitVec).toNat := by rw [← UInt8.toBitVec_or]; rfl
 have hlt := (b ||| 128).toNat_lt
 unfold bits
 show IntKind.u8.wrap (((BitVec.ofInt 8 (b.toNat : Int) ||| BitVec.ofInt 8 (128 : Int)).toNat : Nat) : Int) = _
 rw [e1, e2, ← e3, show IntKind.u8.wrap (((b ||| 128).toNat : Nat) : Int) = (((b ||| 128).toNat : Nat) : Int) % 256 from rfl]
 omega
theorem Ea {b : UInt8} (hx : ρ x = bv b) (hy : ρ y = .int .u8 128) : (execOp ρ ⟨d, .binOp .or X x y Y, t, pos, after, guard⟩).run P w = .ok (.value (bv (b ||| 128))) w := by
 refine iW hx hy ?_
 rw [dP _ (by simp)]
 show Result.ok (Value.int .u8 (bits .or .u8 (b.toNat : Int) 128)) w = _
 rw [Fe]; rfl
theorem QG {m n : Nat} (hx : ρ x = .int .i64 (m : Int)) (hy : ρ y = .int .i64 (n : Int)) (hn : 0 < n) (hm : m ≤ 9223372036854775807) : (execOp ρ ⟨d, .binOp .quo X x y Y, t, pos, after, guard⟩).run P w = .ok (.value (.int .i64 ((m / n : Nat) : Int))) w := by
 refine iW hx hy ?_
 rw [dP _ (by simp)]
 show (Op.intDiv .quo .i64 m n).run P w = _
 unfold Op.intDiv
 rw [if_neg (by omega)]
 show Result.ok (Value.int .i64 (IntKind.i64.wrap (Int.tdiv (m : Int) (n : Int)))) w = _
 have hle : m / n ≤ m := Nat.div_le_self m n
 rw [Int.tdiv_eq_ediv_of_nonneg (by omega), ← Int.natCast_ediv]
 generalize m / n = q at *
 rw [jN (by omega) (by omega)]
theorem Bc {a : BitVec 64} {n : Nat} (hx : ρ x = aR a) (hy : ρ y = .int .i64 (n : Int)) (hn : n ≤ 64) : (execOp ρ ⟨d, .binOp .shl X x y Y, t, pos, after, guard⟩).run P w = .ok (.value (aR (a <<< n))) w := by
 have e : (eqGuard .shl X x y (.int .u64 (gC a)) (.int .i64 (n : Int))).run P w = .ok () w := rfl
 have h : (binOp .shl X (.int .u64 (gC a)) (.int .i64 (n : Int))).run P w = .ok (aR (a <<< n)) w := by
  show (Op.shift .shl .u64 (gC a) .i64 (n : Int)).run P w = _
  unfold Op.shift
  rw [if_neg (by omega)]
  show Result.ok (Value.int .u64 (IntKind.u64.wrap (gC a * 2 ^ (min (n : Int).toNat 64)))) w = _
  rw [Int.toNat_natCast, Nat.min_eq_left hn, KD]
 simp only [execOp, hx, hy, Sem.run_bind, e, Result.andThen_ok, h, Sem.run_pure]
theorem Bd {a : BitVec 64} {n : Nat} (hx : ρ x = aR a) (hy : ρ y = .int .i64 (n : Int)) (hn : n ≤ 64) : (execOp ρ ⟨d, .binOp .shr X x y Y, t, pos, after, guard⟩).run P w = .ok (.value (aR (a >>> n))) w := by
 have e : (eqGuard .shr X x y (.int .u64 (gC a)) (.int .i64 (n : Int))).run P w = .ok () w := rfl
 have h : (binOp .shr X (.int .u64 (gC a)) (.int .i64 (n : Int))).run P w = .ok (aR (a >>> n)) w := by
  show (Op.shift .shr .u64 (gC a) .i64 (n : Int)).run P w = _
  unfold Op.shift
  rw [if_neg (by omega)]
  show Result.ok (Value.int .u64 (Int.fdiv (gC a) (2 ^ (min (n : Int).toNat 64)))) w = _
  rw [Int.toNat_natCast, Nat.min_eq_left hn, Int.fdiv_eq_ediv_of_nonneg _ (show (0 : Int) ≤ 2 ^ n from Int.le_of_lt (Int.pow_pos (by decide))), KE]
 simp only [execOp, hx, hy, Sem.run_bind, e, Result.andThen_ok, h, Sem.run_pure]
theorem WD (b : UInt8) (w : World) : (convert 5 215 (bv b)).run Tryz.prog w = .ok (aR (BitVec.ofNat 64 b.toNat)) w := by
 have : (convert 5 215 (bv b)).run Tryz.prog w = .ok (.int .u64 (IntKind.u64.wrap (b.toNat : Int))) w := by kernel_rfl
 have hb := b.toNat_lt
 have e : IntKind.u64.wrap (b.toNat : Int) = gC (BitVec.ofNat 64 b.toNat) := by
  rw [KC]; unfold gC; simp; omega
 rw [this, e]
theorem WE (a : BitVec 64) (w : World) : (convert 215 5 (aR a)).run Tryz.prog w = .ok (bv (UInt8.ofNat (a.toNat % 256))) w := by
 have : (convert 215 5 (aR a)).run Tryz.prog w = .ok (.int .u8 (IntKind.u8.wrap (gC a))) w := by kernel_rfl
 have e : IntKind.u8.wrap (gC a) = ((UInt8.ofNat (a.toNat % 256)).toNat : Int) := by
  rw [show IntKind.u8.wrap (gC a) = gC a % 256 from rfl]; unfold gC; simp
 rw [this, e]; rfl
end
def dS (b : By) (k : Nat) : By := (b ++ [6]) ++ List.replicate k 0
def eB (b : By) : Nat := (136 - (b.length + 1) % 136) % 136
theorem WF (b : By) (k : Nat) : (dS b k).length = b.length + 1 + k := by simp [dS]; omega
theorem SD (b : By) (k : Nat) : dS b k ++ [0] = dS b (k + 1) := by
 unfold dS
 rw [List.append_assoc, List.replicate_succ']
theorem SE (b : By) : b ++ [6] = dS b 0 := by simp [dS]
theorem Be {b : By} {x : UInt8} (h : (dS b (eB b))[(dS b (eB b)).length - 1]? = some x) : (dS b (eB b)).set ((dS b (eB b)).length - 1) (x ||| 128) = CX b := by
 have e : (dS b (eB b)).getD ((dS b (eB b)).length - 1) 0 = x := by rw [List.getD_eq_getElem?_getD, h]; rfl
 rw [← e]
 unfold CX dS eB
 simp only [List.length_append, List.length_singleton]
theorem KI (b : By) : (CX b).length = b.length + 1 + eB b := by
 unfold CX eB
 simp only [List.length_set, List.length_append, List.length_singleton, List.length_replicate]
theorem zX (S : List (BitVec 64)) (p : By) : ∀ n, (rP S p n).length = S.length := by
 intro n
 induction n with
 | zero => rfl
 | succ n ih => unfold rP at *; rw [List.range_succ, List.foldl_append]; simpa using ih
theorem WG (S : List (BitVec 64)) {p : By} {n : Nat} {x : UInt8} (h : p[n]? = some x) : (rP S p n).set (n / 8) (at0 (rP S p n) (n / 8) ^^^ (BitVec.ofNat 64 x.toNat <<< (n % 8 * 8))) = rP S p (n + 1) := by
 have e : p.getD n 0 = x := by rw [List.getD_eq_getElem?_getD, h]; rfl
 rw [← e]
 unfold rP
 rw [List.range_succ, List.foldl_append]
 rfl
theorem SF (S : List (BitVec 64)) (r : Nat) : (DZ S r).length = 25 := by
 unfold DZ
 simp [YO, qL]
theorem CE (S : List (BitVec 64)) (n : Nat) : DZ (mP S n) n = mP S (n + 1) := by
 unfold mP
 rw [List.range_succ, List.foldl_append]
 rfl
theorem EZ {S : List (BitVec 64)} (h : S.length = 25) : ∀ n, (mP S n).length = 25
  | 0 => h
  | n + 1 => by rw [← CE]; exact SF _ _
theorem KJ {Z : List (BitVec 64)} {p : By} (h : 136 ≤ p.length) : mZ Z p (p.length / 136) = mZ (mP (rP Z p 136) 24) (p.drop 136) ((p.drop 136).length / 136) := by
 rw [List.length_drop, show p.length / 136 = (p.length - 136) / 136 + 1 from by omega]
 rfl
def WH (Z : List (BitVec 64)) (i : Nat) : UInt8 := UInt8.ofNat ((at0 Z (i / 8) >>> (i % 8 * 8)).toNat % 256)
def wU (Z : List (BitVec 64)) (k : Nat) : By := (List.range 32).map fun i => if i < k then WH Z i else 0
theorem KK (Z : List (BitVec 64)) (k : Nat) : (wU Z k).length = 32 := by simp [wU]
theorem SG (Z : List (BitVec 64)) : wU Z 0 = List.replicate 32 0 := by unfold wU; rfl
theorem WI (Z : List (BitVec 64)) : wU Z 32 = IL Z := by
 unfold wU IL
 exact List.map_congr_left fun i hi => by rw [if_pos (List.mem_range.1 hi)]; rfl
theorem SH (Z : List (BitVec 64)) {k : Nat} (h : k < 32) : (wU Z k).set k (WH Z k) = wU Z (k + 1) := by
 apply List.ext_getElem (by simp [wU])
 intro i h1 h2
 simp only [wU, List.getElem_set, List.getElem_map, List.getElem_range]
 by_cases e : k = i
 ·subst e; simp
 ·rw [if_neg e]
  by_cases e2 : i < k
  ·rw [if_pos e2, if_pos (by omega)]
  ·rw [if_neg e2, if_neg (by omega)]
theorem SI {l : By} {j : Nat} {x : UInt8} (h : j < l.length) : bQ (l.map bv) j [bv x] = (l.set j x).map bv := by
 unfold bQ
 rw [List.map_set, List.set_eq_take_append_cons_drop, if_pos (by simpa using h)]
 simp
theorem WJ (w : World) : (zeroValue 217).run Tryz.prog w = .ok (.agg ((List.replicate 25 (0 : BitVec 64)).map aR).toArray) w := by kernel_rfl
theorem Eb {P : Program} {w0 w : World} {F0 F : Fz} {rb : Nat} {T : TypeId} {L0 : List Blk} {M0 : List RowP} {Z : List (BitVec 64)} {ops : Array Oper} {Q : Exit → Act → World → Prop} {a : Act} {rest : List Oper} {o : Oper} {k : FuncId} {vs : Array Value} (hw : Region.wanted o (yielded ops a.tmps) = true)
    (hr : (execOp a.eval o).run P w = .ok (.enter k vs) w) (hc : Calls P k vs w fun e w' => e = .returned (.tuple #[]) ∧ St w0 F0 w' F (⟨rb, Z.map aR, T⟩ :: L0) M0)
    (h : ∀ w', St w0 F0 w' F (⟨rb, Z.map aR, T⟩ :: L0) M0 → WL P ops Q rest (a.put o.dst (.tuple #[])) w') : WL P ops Q (o :: rest) a w :=
  doC hw hr hc fun e w' ⟨he, hS⟩ => ⟨_, he, h w' hS⟩
theorem Sl.dropD {α : Type} {k : Nat} {R : Fz → List Value → α → Prop} {F : Fz} {a : Option Addr} {n c m : Nat} {l : List α} (hk : 0 < k) (h : Sl k R F (.slice a n c) l) (hm : m ≤ n) : Sl k R F (.slice (if c = m then a else a.map (·.add (m * k))) (n - m) (c - m)) (l.drop m) := by
 have hn := Sl.len h
 obtain ⟨el, h1, h2, h3⟩ := h
 obtain ⟨a0, c0, e1, q1, q2, q3, q4⟩ := h1
 injection e1 with e1 e2 e3
 subst e1; subst e3
 have hll := h2.len
 by_cases hmn : m = l.length
 have e : l.drop m = [] := List.drop_of_length_le (by omega)
 have e0 : n - m = 0 := by omega
 rw [e, e0]
 refine ⟨[], ⟨_, c - m, rfl, by simp, by omega, fun e => ?_, .inl rfl⟩, trivial, by simp⟩
 cases a with
 | none => have := q3 rfl; exact ⟨rfl, by omega⟩
 | some ad => split at e <;> cases e
 have hpos : el.flatten ≠ [] := by
  intro e
  have := congrArg List.length e
  rw [eY h3, hll] at this
  have := Nat.mul_pos (show 0 < l.length by omega) hk
  simp at *
  omega
 obtain ⟨b, o, e, hc⟩ := q4.resolve_left hpos
 subst e
 rw [if_neg (by omega)]
 have hs : Sl k R F (.slice (some ⟨b, o, none⟩) n c) l := ⟨el, ⟨_, _, by rw [hn], q1, q2, q3, .inr ⟨b, o, rfl, hc⟩⟩, h2, h3⟩
 have := Sl.dropN (m := m) hs hm rfl rfl
 show Sl k R F (.slice (some (Addr.add ⟨b, o, none⟩ (m * k))) _ _) _
 rw [Addr.add_mid]
 exact this
theorem Bs.restD {F : Fz} {a : Option Addr} {m c n : Nat} {l : By} (h : Bs F (.slice a m c) l) (hn : n ≤ m) : Bs F (.slice (if c = n then a else a.map (·.add (n * 1))) (m - n) (c - n)) (l.drop n) := eA (Sl.dropD (by decide) h.sl hn)
theorem NU (n : Nat) : (madeCells (Value.int .u8 0).cells (n * 1)).toList = (List.replicate n (0 : UInt8)).map bv := by
 rw [show (Value.int .u8 0).cells = #[.int .u8 0] from rfl, toList_madeCells_one]; simp [bv]
theorem NV (S : List (BitVec 64)) : mP S 0 = S := rfl
theorem WK (S : List (BitVec 64)) (p : By) : rP S p 0 = S := rfl
theorem SJ {Z X R : List (BitVec 64)} {p : By} (hX : X = rP Z p 136) (h : 136 ≤ p.length) (e : mZ Z p (p.length / 136) = R) : mZ (mP X 24) (p.drop 136) ((p.drop 136).length / 136) = R := by
 rw [hX, ← KJ h]; exact e
theorem NW {Z R : List (BitVec 64)} {p : By} (h : p.length / 136 = 0) (e : mZ Z p (p.length / 136) = R) : Z = R := by
 rw [h] at e; rw [← e]; cases p <;> rfl
theorem wV (Z : List (BitVec 64)) : (IL Z).length = 32 := by simp [IL]
theorem QH (F : Fz) (w : World) (v : Value) (b : By) (hs : Sat w F) (hT : Tabs w) (hb : Bs F v b) (hn : b.length ≤ 100000) :
    Calls Tryz.prog 117 #[v] w (rX w F 1 ByC 5 (mQ b)) := by
 obtain ⟨x, y, rfl, hc1', hc2'⟩ := hb.shape
 unfold maxLen at hc2'
 obtain ⟨i5, hi5, hz5, hs5, hb5⟩ := info_parts qH
 have S := St.start hs
 go_enter Tryz.func117, Tryz.ntmps117
 refine wp_seq_k (fun K1 hK1 => aB ?_)
 refine aC ?_
 refine wlK hK1 ?_
 refine wp_seq_k (fun K2 hK2 => aB ?_)
 refine aC ?_
 have S3 := St.addNil S 1 ByC ByC.mono 5 w.heap.size
 refine eG (r := 0) (u := (.slice x b.length y)) S3 rfl i5 (.int .u8 0) 1 Tryz.underlying25 hi5 hz5 hs5 hb5 rfl (by decide) rfl rfl rfl (Sl.toW (Bs.sl hb) (S3).sat) ByC.one (Nat.le_refl _) S3.gr.below.size (by unfold maxLen; simp only [List.length_nil]; omega) (by simp only [List.length_nil]; omega) ?_
 intro v4 w5 S6 hn7
 simp only [pq]
 have S6 : St w F w5 F [] [bV 1 ByC ByC.mono 5 w.heap.size v4 ([] ++ b)] := S6
 refine aZ S6 (v := fun n => .slice (some ⟨n, 0, none⟩) 1 1) rfl (bS (ps := #[(0, (.int .u8 6))]) (cells := #[(.int .u8 6)]) (E := 5) (cG rfl) (fun w => by kernel_rfl)) (fun n8 w9 c2 => ?_)
 simp only [pq]
 have c2 : St w F w9 F [⟨n8, [(.int .u8 6)], 5⟩] [bV 1 ByC ByC.mono 5 w.heap.size v4 ([] ++ b)] := c2
 rw [List.nil_append] at c2
 refine eK (i := 0) (r := 0) (p := (6 : UInt8)) (cs := [(.int .u8 6)]) c2 rfl i5 (.int .u8 0) 1 Tryz.underlying25 hi5 hz5 hs5 hb5 rfl (by decide) rfl rfl rfl rfl rfl (rB 6) (rfl) (Nat.le_refl _) c2.gr.below.size (by unfold maxLen; omega) (by omega) ?_
 intro b5 h8 c0 h9
 simp only [pq]
 have c0 := St.drop c0 (L' := []) (.cons _ (List.Sublist.refl _))
 have c0 : St w F h8 F [] [bV 1 ByC ByC.mono 5 w.heap.size b5 (b ++ [(6 : UInt8)])] := c0
 refine aC ?_
 refine wlK hK2 ?_
 refine aF fun m0 e4 => ?_
 refine aM ?_
 rw [SE] at c0
 refine aW (fun mm aa i0 => ∃ (k : Nat) (v : Value) (b6 : Nat → Value), mm = eB b - k ∧ b6 = dY aa ∧ aa = ⟨([(.slice x b.length y), undef, (.slice none 0 0), v] ++ (udF 5 ([(.slice x b.length y), v4, (.slice (some ⟨n8, 0, none⟩) 1 1), b5] ++ (usF b6 13 7 (udF 58 []))))).toArray, []⟩ ∧ St w F i0 F [] [bV 1 ByC ByC.mono 5 w.heap.size v (dS b k)] ∧ (k ≤ eB b)) _ ⟨0, b5, _, rfl, rfl, rfl, c0, (Nat.zero_le _)⟩ ?_
 rintro m1 m2 m3 ⟨k, v, b6, rfl, -, hfr, d9, hk⟩ m4 e5
 simp only [uzF, Nat.reduceAdd] at hfr; subst hfr
 refine aF fun m5 e6 => ?_
 refine aF fun m6 c3 => ?_
 have hpl := WF b k
 have hpn : eB b < 136 := by unfold eB; omega
 obtain ⟨i1, a0, rfl, m7, i2⟩ := (d9.own (i := 0) rfl).shape
 unfold maxLen at i2
 refine aB ?_
 refine aC ?_
 refine do_ rfl (.int .i64 ((((dS b k).length % 136) : Nat) : Int)) (oZ (m := ((dS b k).length)) (n := 136) rfl rfl (by decide) (by omega)) ?_
 simp only [pq]
 by_cases i3 : ((dS b k).length % 136) = 0
 ·refine do_ rfl (.bool false) (cC (m := ((((dS b k).length % 136) : Nat) : Int)) (n := (0 : Int)) (b := false) rfl rfl (bne_eq_false_iff_eq.2 (by omega))) ?_
  simp only [pq]
  refine wlK c3 ?_
  refine aG ?_
  refine cS ?_
  refine e4 _ _ ?_
  refine aF fun m8 e7 => ?_
  have hkk : k = eB b := by unfold eB at *; omega
  subst hkk
  obtain ⟨xb, hxb⟩ : ∃ x, (dS b (eB b))[(dS b (eB b)).length - 1]? = some x := ⟨_, List.getElem?_eq_getElem (by omega)⟩
  obtain ⟨a2, e8, i4⟩ := Fd (St.own d9 (i := 0) rfl) hxb
  subst e8
  refine aB ?_
  refine aC ?_
  refine do_ rfl (.int .i64 ((((dS b (eB b)).length - 1) : Nat) : Int)) (uM (m := (((dS b (eB b)).length : Nat) : Int)) (n := (1 : Int)) (r := ((((dS b (eB b)).length - 1) : Nat) : Int)) rfl rfl (by omega) (by omega) (by omega)) ?_
  simp only [pq]
  refine do_ rfl (.pointer (some ⟨a2, 0 + ((dS b (eB b)).length - 1) * 1, none⟩)) (bK (i := ((dS b (eB b)).length - 1)) (sz := 1) Tryz.underlying25 (aV _) rfl rfl rfl (by omega) rfl) ?_
  simp only [pq]
  refine do_ rfl (bv xb) (aE rfl (aT (fG _) i4)) ?_
  simp only [pq]
  refine do_ rfl (bv (xb ||| 128)) (Ea rfl rfl) ?_
  simp only [pq]
  refine do_ rfl (.pointer (some ⟨a2, 0 + ((dS b (eB b)).length - 1) * 1, none⟩)) (bK (i := ((dS b (eB b)).length - 1)) (sz := 1) Tryz.underlying25 (aV _) rfl rfl rfl (by omega) rfl) ?_
  simp only [pq]
  refine AV (r := 0) (i := ((dS b (eB b)).length - 1)) (p := (xb ||| 128)) (u := (bv (xb ||| 128))) d9 rfl rfl (by omega) rfl rfl (by omega) (UL) (mF rfl) rfl rfl (Nat.le_refl _) (fun h4 e0 => ?_)
  simp only [pq]
  have e0 : St w F h4 F [] [bV 1 ByC ByC.mono 5 w.heap.size (.slice (some ⟨a2, 0, none⟩) (dS b (eB b)).length a0) ((dS b (eB b)).set ((dS b (eB b)).length - 1) (xb ||| 128))] := e0
  rw [Be hxb] at e0
  refine wlK e7 ?_
  refine aF fun m9 e9 => ?_
  obtain ⟨a5, f0, i6, b7⟩ := St.freeze e0 (i := 0) rfl (Nat.le_refl _)
  have f0 : St w F h4 a5 [] [] := f0
  have b7 : Bys _ (.slice (some ⟨a2, 0, none⟩) (dS b (eB b)).length a0) (CX b) := b7
  have i7 := eA b7
  refine aB ?_
  refine aZ f0 (v := fun n => .pointer (some ⟨n, 0, none⟩)) rfl (AS (WJ _)) (fun a3 i8 f1 => ?_)
  simp only [pq]
  have f1 : St w F i8 a5 [⟨a3, ((List.replicate 25 (0 : BitVec 64)).map aR), 217⟩] [] := f1
  refine wlK e9 ?_
  refine aF fun n0 f2 => ?_
  refine aM ?_
  refine aW (fun mm aa i9 => ∃ (Z : List (BitVec 64)) (ra : Option Addr) (rn : Nat) (rc : Nat) (rest : By) (a7 : Nat → Value), mm = rest.length ∧ a7 = dY aa ∧ aa = ⟨([(.slice x b.length y), undef, (.slice none 0 0), (.slice ra rn rc), (.pointer (some ⟨a3, 0, none⟩)), (a7 5), (a7 6), undef, undef, (.slice x b.length y), v4, (.slice (some ⟨n8, 0, none⟩) 1 1), b5, (.slice (some ⟨a2, 0, none⟩) (dS b (eB b)).length a0), (.int .i64 (((dS b (eB b)).length : Nat) : Int)), (.int .i64 ((((dS b (eB b)).length % 136) : Nat) : Int)), (.bool false)] ++ (usF b6 17 3 ([(.slice (some ⟨a2, 0, none⟩) (dS b (eB b)).length a0), (.slice (some ⟨a2, 0, none⟩) (dS b (eB b)).length a0), (.int .i64 (((dS b (eB b)).length : Nat) : Int)), (.int .i64 ((((dS b (eB b)).length - 1) : Nat) : Int)), (.pointer (some ⟨a2, 0 + ((dS b (eB b)).length - 1) * 1, none⟩)), (bv xb), (bv (xb ||| 128)), (.pointer (some ⟨a2, 0 + ((dS b (eB b)).length - 1) * 1, none⟩))] ++ (usF a7 28 30 (udF 20 []))))).toArray, []⟩ ∧ St w F i9 a5 [⟨a3, (Z.map aR), 217⟩] [] ∧ (Z.length = 25) ∧ (Bs a5 (.slice ra rn rc) rest) ∧ (rest.length % 136 = 0) ∧ (rest.length ≤ 200000) ∧ (mZ Z rest (rest.length / 136) = mZ (List.replicate 25 0) (CX b) ((CX b).length / 136))) _ ⟨(List.replicate 25 0), (some ⟨a2, 0, none⟩), (dS b (eB b)).length, a0, (CX b), _, rfl, rfl, rfl, f1, (by simp), i7, (by rw [KI]; unfold eB; omega), (by rw [KI]; unfold eB; omega), rfl⟩ ?_
  rintro n1 n2 j0 ⟨Z, ra, rn, rc, rest, a7, rfl, -, hfr, e1, hZ, hrest, hrm, hrl, hab⟩ n3 f3
  simp only [uzF, Nat.reduceAdd] at hfr; subst hfr
  refine aF fun n4 f4 => ?_
  refine aF fun n5 c4 => ?_
  have hrn := hrest.len
  refine aB ?_
  refine aC ?_
  by_cases j1 : 0 < rn
  ·refine do_ rfl (.bool true) (rW (m := ((rn : Nat) : Int)) (n := (0 : Int)) (b := true) rfl rfl (decide_eq_true (by omega))) ?_
   simp only [pq]
   refine wlK c4 ?_
   refine aK ?_
   refine aI ?_
   refine f4 _ _ ?_
   refine aF fun n6 f5 => ?_
   refine aM ?_
   refine aF fun n7 f6 => ?_
   refine wp_seq_k (fun n9 f7 => aB ?_)
   refine aC ?_
   refine wlK f7 ?_
   refine aM ?_
   have e1 : St w F j0 a5 [⟨a3, ((rP Z rest 0).map aR), 217⟩] [] := by rw [WK]; exact e1
   refine aW (fun mm aa j2 => ∃ (i : Nat) (c1 : Nat → Value), mm = 136 - i ∧ c1 = dY aa ∧ aa = ⟨([(.slice x b.length y), undef, (.slice none 0 0), (.slice ra rn rc), (.pointer (some ⟨a3, 0, none⟩)), (c1 5), (a7 6), undef, undef, (.slice x b.length y), v4, (.slice (some ⟨n8, 0, none⟩) 1 1), b5, (.slice (some ⟨a2, 0, none⟩) (dS b (eB b)).length a0), (.int .i64 (((dS b (eB b)).length : Nat) : Int)), (.int .i64 ((((dS b (eB b)).length % 136) : Nat) : Int)), (.bool false)] ++ (usF b6 17 3 ([(.slice (some ⟨a2, 0, none⟩) (dS b (eB b)).length a0), (.slice (some ⟨a2, 0, none⟩) (dS b (eB b)).length a0), (.int .i64 (((dS b (eB b)).length : Nat) : Int)), (.int .i64 ((((dS b (eB b)).length - 1) : Nat) : Int)), (.pointer (some ⟨a2, 0 + ((dS b (eB b)).length - 1) * 1, none⟩)), (bv xb), (bv (xb ||| 128)), (.pointer (some ⟨a2, 0 + ((dS b (eB b)).length - 1) * 1, none⟩)), (.slice ra rn rc), (.int .i64 ((rn : Nat) : Int)), (.bool true), (a7 31), (a7 32), (.int .i64 ((i : Nat) : Int))] ++ (usF c1 34 18 (usF a7 52 6 (udF 20 [])))))).toArray, []⟩ ∧ St w F j2 a5 [⟨a3, ((rP Z rest i).map aR), 217⟩] [] ∧ (i ≤ 136)) _ ⟨0, _, rfl, rfl, rfl, e1, (by omega)⟩ ?_
   rintro o0 o1 j3 ⟨i, c1, rfl, -, hfr, b9, hi⟩ o2 f8
   simp only [uzF, Nat.reduceAdd] at hfr; subst hfr
   refine wp_seq_k (fun o3 c5 => aB ?_)
   by_cases j4 : i < 136
   ·refine do_ rfl (.bool true) (nS (m := ((i : Nat) : Int)) (n := (136 : Int)) (b := true) rfl rfl (decide_eq_true (by omega))) ?_
    simp only [pq]
    refine wlK c5 ?_
    refine aF fun o4 f9 => ?_
    refine aK ?_
    refine aI ?_
    refine f9 _ _ ?_
    refine aF fun o5 g0 => ?_
    refine aM ?_
    refine wp_seq_k (fun o6 g1 => aB ?_)
    refine aC ?_
    refine wlK g1 ?_
    obtain ⟨xi, hxi⟩ : ∃ x, rest[i]? = some x := ⟨_, List.getElem?_eq_getElem (by omega)⟩
    obtain ⟨j5, j6, g2, j7⟩ := Bs.get hrest hxi
    refine aQ a5 13 [] (by kernel_rfl) (by kernel_rfl) ?_
    simp only [cV]
    refine gQ rfl rfl (.int .i64 ((i : Nat) : Int)) (fun b0 a1 => aN (gF _)) ?_
    simp only [pq]
    refine gQ rfl rfl (.int .i64 (((i / 8) : Nat) : Int)) (fun b0 a1 => aN (QG (m := i) (n := 8) rfl rfl (by decide) (by omega))) ?_
    simp only [pq]
    refine gQ rfl rfl (.pointer (some ⟨a3, (i / 8), none⟩)) (fun b0 a1 => aN (fQ (i := (i / 8)) Tryz.underlying217 (cM _) rfl rfl (by omega))) ?_
    simp only [pq]
    refine gQ rfl rfl (aR (at0 (rP Z rest i) (i / 8))) (fun b0 a1 => aN (aE rfl (aT (fH _) (St.cell (St.tells b9 a1) (i := 0) rfl (fI (Nat.lt_of_lt_of_eq (show (i / 8) < 25 by omega) ((zX _ _ _).trans hZ).symm)))))) ?_
    simp only [pq]
    refine gQ rfl rfl (.slice ra rn rc) (fun b0 a1 => aN (gF _)) ?_
    simp only [pq]
    refine gQ rfl rfl (.int .i64 ((i : Nat) : Int)) (fun b0 a1 => aN (gF _)) ?_
    simp only [pq]
    refine gQ rfl rfl (.pointer (some ⟨j5, j6 + i * 1, none⟩)) (fun b0 a1 => aN (bK (i := i) (sz := 1) Tryz.underlying25 (aV _) rfl g2 rfl (by omega) rfl)) ?_
    simp only [pq]
    refine gQ rfl rfl (bv xi) (fun b0 a1 => aN (aE rfl (aT (fG _) (St.fz (St.tells b9 a1) j7)))) ?_
    simp only [pq]
    refine gQ rfl rfl (aR (BitVec.ofNat 64 xi.toNat)) (fun b0 a1 => aN (aX (v := (bv xi)) rfl (WD xi _))) ?_
    simp only [pq]
    refine gQ rfl rfl (.int .i64 ((i : Nat) : Int)) (fun b0 a1 => aN (gF _)) ?_
    simp only [pq]
    refine gQ rfl rfl (.int .i64 (((i % 8) : Nat) : Int)) (fun b0 a1 => aN (oZ (m := i) (n := 8) rfl rfl (by decide) (by omega))) ?_
    simp only [pq]
    refine gQ rfl rfl (.int .i64 ((((i % 8) * 8) : Nat) : Int)) (fun b0 a1 => aN (UC (m := (((i % 8) : Nat) : Int)) (n := (8 : Int)) (r := ((((i % 8) * 8) : Nat) : Int)) rfl rfl (by omega) (by omega) (by omega))) ?_
    simp only [pq]
    refine gQ rfl rfl (aR ((BitVec.ofNat 64 xi.toNat) <<< ((i % 8) * 8))) (fun b0 a1 => aN (Bc (n := ((i % 8) * 8)) rfl rfl (by omega))) ?_
    simp only [pq]
    refine bN ?_
    intro o7 g3 g4
    clear g4
    have j8 := St.tells b9 g3
    simp only [cW]
    refine do_ rfl (aR ((at0 (rP Z rest i) (i / 8)) ^^^ ((BitVec.ofNat 64 xi.toNat) <<< ((i % 8) * 8)))) (nF rfl rfl) ?_
    simp only [pq]
    refine do_ rfl (.pointer (some ⟨a3, (i / 8), none⟩)) (fQ (i := (i / 8)) Tryz.underlying217 (cM _) rfl rfl (by omega)) ?_
    simp only [pq]
    refine fK (i := 0) (v := aR ((at0 (rP Z rest i) (i / 8)) ^^^ ((BitVec.ofNat 64 xi.toNat) <<< ((i % 8) * 8)))) j8 rfl rfl rfl rfl (qD) (mF rfl) (by rw [List.length_map, ((zX _ _ _).trans hZ)]; show (i / 8) + 1 ≤ 25; omega) (fun j9 c6 => ?_)
    simp only [pq]
    have c6 : St w F j9 a5 [⟨a3, (bQ ((rP Z rest i).map aR) (i / 8) [aR ((at0 (rP Z rest i) (i / 8)) ^^^ ((BitVec.ofNat 64 xi.toNat) <<< ((i % 8) * 8)))]), 217⟩] [] := c6
    rw [nK (Nat.lt_of_lt_of_eq (show (i / 8) < 25 by omega) ((zX _ _ _).trans hZ).symm)] at c6
    rw [WG Z hxi] at c6
    refine wlK g0 ?_
    refine aB ?_
    refine do_ rfl (.int .i64 (((i + 1) : Nat) : Int)) (fW (m := ((i : Nat) : Int)) (n := (1 : Int)) (r := (((i + 1) : Nat) : Int)) rfl rfl (by omega) (by omega) (by omega)) ?_
    refine aC ?_
    refine aH ?_
    exact f8 _ _ _ (by omega) ⟨(i + 1), _, rfl, rfl, rfl, c6, (by omega)⟩
   ·refine do_ rfl (.bool false) (nS (m := ((i : Nat) : Int)) (n := (136 : Int)) (b := false) rfl rfl (decide_eq_false (by omega))) ?_
    simp only [pq]
    refine wlK c5 ?_
    refine aF fun o8 k0 => ?_
    refine aG ?_
    refine cS ?_
    refine f6 _ _ ?_
    refine aF fun o9 g5 => ?_
    obtain rfl : i = 136 := by omega
    obtain ⟨Xm, hXm⟩ : ∃ X, X = rP Z rest 136 := ⟨_, rfl⟩
    have hXl : Xm.length = 25 := by rw [hXm]; exact (zX _ _ _).trans hZ
    rw [← hXm] at b9
    refine aB ?_
    refine aC ?_
    refine wlK g5 ?_
    refine aM ?_
    have b9 : St w F j3 a5 [⟨a3, ((mP Xm 0).map aR), 217⟩] [] := by rw [NV]; exact b9
    refine aW (fun mm aa k1 => ∃ (q : Nat) (e2 : Nat → Value), mm = 24 - q ∧ e2 = dY aa ∧ aa = ⟨([(.slice x b.length y), undef, (.slice none 0 0), (.slice ra rn rc), (.pointer (some ⟨a3, 0, none⟩)), (c1 5), (e2 6), undef, undef, (.slice x b.length y), v4, (.slice (some ⟨n8, 0, none⟩) 1 1), b5, (.slice (some ⟨a2, 0, none⟩) (dS b (eB b)).length a0), (.int .i64 (((dS b (eB b)).length : Nat) : Int)), (.int .i64 ((((dS b (eB b)).length % 136) : Nat) : Int)), (.bool false)] ++ (usF b6 17 3 ([(.slice (some ⟨a2, 0, none⟩) (dS b (eB b)).length a0), (.slice (some ⟨a2, 0, none⟩) (dS b (eB b)).length a0), (.int .i64 (((dS b (eB b)).length : Nat) : Int)), (.int .i64 ((((dS b (eB b)).length - 1) : Nat) : Int)), (.pointer (some ⟨a2, 0 + ((dS b (eB b)).length - 1) * 1, none⟩)), (bv xb), (bv (xb ||| 128)), (.pointer (some ⟨a2, 0 + ((dS b (eB b)).length - 1) * 1, none⟩)), (.slice ra rn rc), (.int .i64 ((rn : Nat) : Int)), (.bool true), (a7 31), (a7 32), (.int .i64 136), (.bool false)] ++ (usF c1 35 17 ([(.int .i64 ((q : Nat) : Int))] ++ (usF e2 53 5 (udF 20 []))))))).toArray, []⟩ ∧ St w F k1 a5 [⟨a3, ((mP Xm q).map aR), 217⟩] [] ∧ (q ≤ 24)) _ ⟨0, _, rfl, rfl, rfl, b9, (by omega)⟩ ?_
    rintro p0 p1 p2 ⟨q, e2, rfl, -, hfr, h5, hq⟩ p3 g6
    simp only [uzF, Nat.reduceAdd] at hfr; subst hfr
    refine wp_seq_k (fun p4 c7 => aB ?_)
    by_cases k2 : q < 24
    ·refine do_ rfl (.bool true) (nS (m := ((q : Nat) : Int)) (n := (24 : Int)) (b := true) rfl rfl (decide_eq_true (by omega))) ?_
     simp only [pq]
     refine wlK c7 ?_
     refine aF fun p5 g7 => ?_
     refine aK ?_
     refine aI ?_
     refine g7 _ _ ?_
     refine aF fun p6 g8 => ?_
     refine aM ?_
     refine wp_seq_k (fun p7 g9 => aB ?_)
     refine aC ?_
     refine wlK g9 ?_
     refine aB ?_
     refine aC ?_
     refine Eb rfl (cP (vs := #[(.pointer (some ⟨a3, 0, none⟩)), (.int .i64 ((q : Nat) : Int))]) (iX rfl rfl) rfl (Ap _ _)) (SC h5 (EZ hXl _) hT (by omega)) (fun k3 e3 => ?_)
     simp only [pq]
     have e3 : St w F k3 a5 [⟨a3, ((DZ (mP Xm q) q).map aR), 217⟩] [] := e3
     rw [CE] at e3
     refine wlK g8 ?_
     refine aB ?_
     refine do_ rfl (.int .i64 (((q + 1) : Nat) : Int)) (fW (m := ((q : Nat) : Int)) (n := (1 : Int)) (r := (((q + 1) : Nat) : Int)) rfl rfl (by omega) (by omega) (by omega)) ?_
     refine aC ?_
     refine aH ?_
     exact g6 _ _ _ (by omega) ⟨(q + 1), _, rfl, rfl, rfl, e3, (by omega)⟩
    ·refine do_ rfl (.bool false) (nS (m := ((q : Nat) : Int)) (n := (24 : Int)) (b := false) rfl rfl (decide_eq_false (by omega))) ?_
     simp only [pq]
     refine wlK c7 ?_
     refine aF fun p8 k4 => ?_
     refine aG ?_
     refine cS ?_
     refine f5 _ _ ?_
     obtain rfl : q = 24 := by omega
     refine aB ?_
     refine aC ?_
     have hcap : rest.length ≤ rc := by obtain ⟨_, _, e, q, _⟩ := hrest.shape; injection e with _ _ e; rw [e]; exact q
     have k5 : Bs _ (.slice (if rc = 136 then ra else ra.map (·.add (136 * 1))) (rn - 136) (rc - 136)) (rest.drop 136) := Bs.restD hrest (by omega)
     refine do_ rfl (.slice (if rc = 136 then ra else ra.map (·.add (136 * 1))) (rn - 136) (rc - 136)) (bA (l := 136) (h := rn) (sz := 1) Tryz.underlying25 rfl (aV _) (.inr ⟨_, rfl, rfl⟩) (.inl ⟨rfl, rfl⟩) (by omega) (by omega) (rfl)) ?_
     refine aC ?_
     refine aH ?_
     have hdl : (rest.drop 136).length = rest.length - 136 := by simp
     exact f3 _ _ _ (by omega) ⟨(mP Xm 24), (if rc = 136 then ra else ra.map (·.add (136 * 1))), (rn - 136), (rc - 136), (rest.drop 136), _, rfl, rfl, rfl, h5, (EZ hXl 24), k5, (by omega), (by omega), (SJ hXm (by omega) hab)⟩
  ·refine do_ rfl (.bool false) (rW (m := ((rn : Nat) : Int)) (n := (0 : Int)) (b := false) rfl rfl (decide_eq_false (by omega))) ?_
   simp only [pq]
   refine wlK c4 ?_
   refine aG ?_
   refine cS ?_
   refine f2 _ _ ?_
   refine aF fun k6 c8 => ?_
   have hZa := NW (by omega) hab
   refine aB ?_
   refine FY (k := 1) (n := 32) (m := 32) e1 rfl i5 (.int .u8 0) 1 Tryz.underlying25 hi5 hz5 hs5 hb5 rfl rfl (by omega) (by omega) (by omega) ?_
   intro a4 c9 a8
   rw [NU] at a8
   simp only [pq]
   have a8 : St w F c9 a5 [⟨a4, ((List.replicate 32 (0 : UInt8)).map bv), 5⟩, ⟨a3, (Z.map aR), 217⟩] [] := a8
   have a8 : St w F c9 a5 [⟨a4, ((wU Z 0).map bv), 5⟩, ⟨a3, (Z.map aR), 217⟩] [] := by rw [SG]; exact a8
   refine aC ?_
   refine wlK c8 ?_
   refine aF fun k7 d0 => ?_
   refine wp_seq_k (fun k8 d1 => aB ?_)
   refine aC ?_
   refine wlK d1 ?_
   refine aM ?_
   refine aW (fun mm aa h0 => ∃ (j : Nat) (b2 : Nat → Value), mm = 32 - j ∧ b2 = dY aa ∧ aa = ⟨([(.slice x b.length y), undef, (.slice none 0 0), (.slice ra rn rc), (.pointer (some ⟨a3, 0, none⟩)), (a7 5), (a7 6), (.slice (some ⟨a4, 0, none⟩) 32 32), (b2 8), (.slice x b.length y), v4, (.slice (some ⟨n8, 0, none⟩) 1 1), b5, (.slice (some ⟨a2, 0, none⟩) (dS b (eB b)).length a0), (.int .i64 (((dS b (eB b)).length : Nat) : Int)), (.int .i64 ((((dS b (eB b)).length % 136) : Nat) : Int)), (.bool false)] ++ (usF b6 17 3 ([(.slice (some ⟨a2, 0, none⟩) (dS b (eB b)).length a0), (.slice (some ⟨a2, 0, none⟩) (dS b (eB b)).length a0), (.int .i64 (((dS b (eB b)).length : Nat) : Int)), (.int .i64 ((((dS b (eB b)).length - 1) : Nat) : Int)), (.pointer (some ⟨a2, 0 + ((dS b (eB b)).length - 1) * 1, none⟩)), (bv xb), (bv (xb ||| 128)), (.pointer (some ⟨a2, 0 + ((dS b (eB b)).length - 1) * 1, none⟩)), (.slice ra rn rc), (.int .i64 ((rn : Nat) : Int)), (.bool false)] ++ (usF a7 31 27 ([(.slice (some ⟨a4, 0, none⟩) 32 32), (.slice (some ⟨a4, 0, none⟩) 32 32), (.int .i64 32), (.int .i64 ((j : Nat) : Int))] ++ (usF b2 62 15 [undef])))))).toArray, []⟩ ∧ St w F h0 a5 [⟨a4, ((wU Z j).map bv), 5⟩, ⟨a3, (Z.map aR), 217⟩] [] ∧ (j ≤ 32)) _ ⟨0, _, rfl, rfl, rfl, a8, (by omega)⟩ ?_
   rintro k9 l0 l1 ⟨j, b2, rfl, -, hfr, b1, hj⟩ l2 d2
   simp only [uzF, Nat.reduceAdd] at hfr; subst hfr
   refine wp_seq_k (fun l3 b4 => aB ?_)
   by_cases l4 : j < 32
   ·refine do_ rfl (.bool true) (nS (m := ((j : Nat) : Int)) (n := (32 : Int)) (b := true) rfl rfl (decide_eq_true (by omega))) ?_
    simp only [pq]
    refine wlK b4 ?_
    refine aF fun l5 d3 => ?_
    refine aK ?_
    refine aI ?_
    refine d3 _ _ ?_
    refine aF fun l6 d4 => ?_
    refine aM ?_
    refine wp_seq_k (fun l7 d5 => aB ?_)
    refine aC ?_
    refine wlK d5 ?_
    refine aB ?_
    refine aC ?_
    refine do_ rfl (.int .i64 (((j / 8) : Nat) : Int)) (QG (m := j) (n := 8) rfl rfl (by decide) (by omega)) ?_
    simp only [pq]
    refine do_ rfl (.pointer (some ⟨a3, (j / 8), none⟩)) (fQ (i := (j / 8)) Tryz.underlying217 (cM _) rfl rfl (by omega)) ?_
    simp only [pq]
    refine do_ rfl (aR (at0 Z (j / 8))) (aE rfl (aT (fH _) (St.cell b1 (i := 1) rfl (fI (Nat.lt_of_lt_of_eq (show (j / 8) < 25 by omega) hZ.symm))))) ?_
    refine aC ?_
    refine do_ rfl (.int .i64 (((j % 8) : Nat) : Int)) (oZ (m := j) (n := 8) rfl rfl (by decide) (by omega)) ?_
    simp only [pq]
    refine do_ rfl (.int .i64 ((((j % 8) * 8) : Nat) : Int)) (UC (m := (((j % 8) : Nat) : Int)) (n := (8 : Int)) (r := ((((j % 8) * 8) : Nat) : Int)) rfl rfl (by omega) (by omega) (by omega)) ?_
    simp only [pq]
    refine do_ rfl (aR ((at0 Z (j / 8)) >>> ((j % 8) * 8))) (Bd (n := ((j % 8) * 8)) rfl rfl (by omega)) ?_
    simp only [pq]
    refine do_ rfl (bv (UInt8.ofNat (((at0 Z (j / 8)) >>> ((j % 8) * 8)).toNat % 256))) (aX (v := (aR ((at0 Z (j / 8)) >>> ((j % 8) * 8)))) rfl (WE ((at0 Z (j / 8)) >>> ((j % 8) * 8)) _)) ?_
    simp only [pq]
    refine do_ rfl (.pointer (some ⟨a4, 0 + j * 1, none⟩)) (bK (i := j) (sz := 1) Tryz.underlying25 (aV _) rfl rfl rfl (by omega) rfl) ?_
    simp only [pq]
    refine fK (i := 0) (v := bv (UInt8.ofNat (((at0 Z (j / 8)) >>> ((j % 8) * 8)).toNat % 256))) b1 rfl rfl rfl rfl (UL) (mF rfl) (by rw [List.length_map, KK]; show 0 + j * 1 + 1 ≤ 32; omega) (fun d6 a6 => ?_)
    simp only [pq]
    have a6 : St w F d6 a5 [⟨a4, (bQ ((wU Z j).map bv) (0 + j * 1) [bv (UInt8.ofNat (((at0 Z (j / 8)) >>> ((j % 8) * 8)).toNat % 256))]), 5⟩, ⟨a3, (Z.map aR), 217⟩] [] := a6
    rw [Nat.zero_add, Nat.mul_one, SI (by rw [KK]; omega)] at a6
    have a6 : St w F d6 a5 [⟨a4, (((wU Z j).set j (WH Z j)).map bv), 5⟩, ⟨a3, (Z.map aR), 217⟩] [] := a6
    rw [SH Z (by omega)] at a6
    refine wlK d4 ?_
    refine aB ?_
    refine do_ rfl (.int .i64 (((j + 1) : Nat) : Int)) (fW (m := ((j : Nat) : Int)) (n := (1 : Int)) (r := (((j + 1) : Nat) : Int)) rfl rfl (by omega) (by omega) (by omega)) ?_
    refine aC ?_
    refine aH ?_
    exact d2 _ _ _ (by omega) ⟨(j + 1), _, rfl, rfl, rfl, a6, (by omega)⟩
   ·refine do_ rfl (.bool false) (nS (m := ((j : Nat) : Int)) (n := (32 : Int)) (b := false) rfl rfl (decide_eq_false (by omega))) ?_
    simp only [pq]
    refine wlK b4 ?_
    refine aF fun l8 h6 => ?_
    refine aG ?_
    refine cS ?_
    refine d0 _ _ ?_
    refine aF fun l9 d7 => ?_
    obtain rfl : j = 32 := by omega
    rw [WI] at b1
    refine aB ?_
    refine aC ?_
    refine wlK d7 ?_
    refine aO ?_
    try simp only [xt]
    refine bodyPost_ret (v := (.slice (some ⟨a4, 0, none⟩) 32 32)) ?_ rfl ?_
    ·exact bC rfl rfl
    ·have hB := St.blkRow (k := 1) (l := IL Z) (el := (IL Z).map fun b => [bv b]) (hR := ByC.mono) (cap := 32) b1 (by rw [rC, List.take_of_length_le (by rw [List.length_map, wV]; decide)]) (rD _ _) (by simp) (by rw [List.length_map, wV]) (by rw [wV]; decide) (by unfold maxLen; decide) (b1.blk _ (List.mem_cons_self ..)).2.2
     rw [wV] at hB
     refine ⟨_, _, rfl, hB.gr, ?_⟩
     have hO := St.own (i := 0) hB rfl
     unfold mQ
     rw [← hZa]
     exact hO
 ·refine do_ rfl (.bool true) (cC (m := ((((dS b k).length % 136) : Nat) : Int)) (n := (0 : Int)) (b := true) rfl rfl (bne_iff_ne.2 (by omega))) ?_
  simp only [pq]
  refine wlK c3 ?_
  refine aK ?_
  refine aI ?_
  refine e6 _ _ ?_
  refine aM ?_
  refine aB ?_
  refine aC ?_
  refine aZ d9 (v := fun n => .slice (some ⟨n, 0, none⟩) 1 1) rfl (bS (ps := #[(0, (.int .u8 0))]) (cells := #[(.int .u8 0)]) (E := 5) (cG rfl) (fun w => by kernel_rfl)) (fun h1 h2 b3 => ?_)
  simp only [pq]
  have b3 : St w F h2 F [⟨h1, [(.int .u8 0)], 5⟩] [bV 1 ByC ByC.mono 5 w.heap.size (.slice i1 (dS b k).length a0) (dS b k)] := b3
  refine eK (i := 0) (r := 0) (p := (0 : UInt8)) (cs := [(.int .u8 0)]) b3 rfl i5 (.int .u8 0) 1 Tryz.underlying25 hi5 hz5 hs5 hb5 rfl (by decide) rfl rfl rfl rfl rfl (rB 0) (rfl) (Nat.le_refl _) b3.gr.below.size (by unfold maxLen; omega) (by omega) ?_
  intro d8 h3 a9 h7
  simp only [pq]
  have a9 := St.drop a9 (L' := []) (.cons _ (List.Sublist.refl _))
  have a9 : St w F h3 F [] [bV 1 ByC ByC.mono 5 w.heap.size d8 ((dS b k) ++ [(0 : UInt8)])] := a9
  refine aC ?_
  refine aH ?_
  rw [SD] at a9
  have hk2 : k + 1 ≤ eB b := by unfold eB at *; omega
  exact e5 _ _ _ (by omega) ⟨(k + 1), d8, _, rfl, rfl, rfl, a9, hk2⟩
theorem WM (F : Fz) (w : World) (v : Value) (b : By) (hs : Sat w F) (hT : Tabs w) (hb : Bs F v b) (hn : b.length ≤ 100000) :
    Calls Tryz.prog 117 #[v] w (dO w F fun F' u => Bs F' u (mQ b)) :=
  (wO ByC.mono (QH F w v b hs hT hb hn)).mono fun e w' ⟨u, F', he, g, hu⟩ => ⟨u, F', he, g, eA hu⟩
def LsC (F : Fz) (cs : List Value) (p : By) : Prop := ∃ a, cs = [a] ∧ Bs F a p
theorem LsC.mono (F F' : Fz) (x : List Value) (p : By) (hl : Le F F') (h : LsC F x p) : LsC F' x p := by
 obtain ⟨a, h1, h2⟩ := h
 exact ⟨a, h1, h2.mono hl⟩
abbrev Lss (F : Fz) (v : Value) (l : List By) : Prop := Sl 1 LsC F v l
theorem Lss.get {F : Fz} {a : Option Addr} {n c : Nat} {l : List By} (h : Lss F (.slice a n c) l) {i : Nat} {p : By} (hp : l[i]? = some p) :
    ∃ b o, a = some ⟨b, o, none⟩ ∧ ∃ xa xc, bH F b (o + i * 1) = some (.slice xa p.length xc) ∧ Bs F (.slice xa p.length xc) p := by
 obtain ⟨hi, rfl⟩ := List.getElem?_eq_some_iff.1 hp
 have hn := h.len
 obtain ⟨b, o, e, h1⟩ := Sl.at h (by omega) (by omega)
 obtain ⟨cs, q1, ⟨x, rfl, r1⟩, q4⟩ := h1 i hi
 obtain ⟨xa, xc, rfl, _⟩ := r1.shape
 exact ⟨b, o, e, xa, xc, by have := q4 0 (by simp); simpa using this, r1⟩
theorem Lss.mono {F F' : Fz} {v : Value} {l : List By} (h : Lss F v l) (hl : Le F F') : Lss F' v l := Sl.mono LsC.mono h hl
def Fx (b : By) (e : Int) (F : Fz) (u : Value) : Prop := ∃ x, u = .tuple #[x, .int .i64 e] ∧ Bs F x b
theorem WN (F : Fz) (w : World) (v : Value) (b : By) (hs : Sat w F) (hT : Tabs w) (hb : Bs F v b) (hn : b.length ≤ 4000) :
    Calls Tryz.prog 96 #[v] w (dO w F (Fx (mQ b) 0)) := by
 obtain ⟨x, y, rfl, hc1', hc2'⟩ := hb.shape
 unfold maxLen at hc2'
 have S := St.start hs
 go_enter Tryz.func96, Tryz.ntmps96
 refine sk fun K1 hK1 => ?_
 iterate 2 refine dy ?_
 refine wn hK1 ?_
 refine aF fun K2 hK2 => ?_
 refine sk fun K3 hK3 => ?_
 refine aC ?_
 refine lF ?_
 simp only [pq]
 refine wn hK3 ?_
 refine aG ?_
 refine aI ?_
 refine hK2 _ _ ?_
 refine sk fun K4 hK4 => ?_
 refine dx ?_
 refine aY S rfl (fn1 (PQ _ _)) (WM _ _ _ b (S).sat (hT.at S.gr.below) hb (by omega)) ?_
 intro a2 w5 F7 S6 le8 R9
 obtain ⟨a0, a1, rfl, _⟩ := R9.shape
 refine aC ?_
 refine wn hK4 ?_
 refine aO ?_
 try simp only [xt]
 refine bR (cI rfl (gD rfl) (gD rfl)) ?_
 exact ⟨_, _, rfl, S6.gr, _, rfl, R9⟩
section
variable {P : Program} {ops : Array Oper} {Q : Exit → Act → World → Prop} {a : Act} {w w' : World} {rest : List Oper} {o : Oper} {n : Nat}
end
def KeepC (b : Nat) (W W' : World) : Prop := ∀ k o, k ≠ b → W.heap[k]? = some o → o.isCells = true → W'.heap[k]? = some o
theorem KeepC.trans {b : Nat} {X Y Z : World} (h : KeepC b X Y) (k : KeepC b Y Z) : KeepC b X Z := fun j o hj ho hc => k j o hj (h j o hj ho hc) hc
theorem KeepC.put {b : Nat} {B : Nat} (W : World) (l : Nat) (o o' : Obj) (_ : B ≤ l) (h : W.heap[l]? = some o) (hc : o.isCells = false) (_ : o.isWalk = false) : KeepC b W (W.putObj l o') := fun k x _ hk hx => by
  rw [World.putObj_heap_other (fun e => by rw [e, h] at hk; cases hk; rw [hc] at hx; cases hx)]
  exact hk
def SatC (F : Fz) (W : World) : Prop := ∀ b c t fr, F b = some (.cells c t fr) → W.heap[b]? = some (.cells c t fr)
theorem SatC.cell {F : Fz} {W : World} (h : SatC F W) {b o : Nat} {v : Value} (hc : bH F b o = some v) : W.cell? ⟨b, o, none⟩ = some v := by
 unfold bH at hc
 split at hc
 ·rename_i c t fr hb
  simp [World.cell?, h b _ _ _ hb, hc]
 ·cases hc
theorem SatC.keep {F : Fz} {W W' : World} {b : Nat} (h : SatC F W) (hF : F b = none) (hk : KeepC b W W') : SatC F W' := fun k c t fr hb => hk k _ (fun e => by rw [e, hF] at hb; cases hb) (h k c t fr hb) rfl
theorem Sat.c {F : Fz} {W : World} (h : Sat W F) : SatC F W := fun b c t fr hb => h b _ hb
theorem SatC.below {F : Fz} {w W : World} (h : SatC F w) (hW : Below w.heap.size w W) : SatC F W := fun b c t fr hb => by
  have := h b c t fr hb
  rw [hW.block b (Array.getElem?_eq_some_iff.1 this).1]
  exact this
def BkX (F : Fz) := { x : Nat × Option Addr × Nat × Stp // Bs F (.slice x.2.1 x.2.2.2.other.length x.2.2.1) x.2.2.2.other ∧ x.2.2.2.bit < 145 ∧ x.2.2.2.other.length = 32 }
def bkS {F : Fz} (x : BkX F) : Stp := x.1.2.2.2
def bkV {F : Fz} (x : BkX F) : Value := .slice x.1.2.1 (bkS x).other.length x.1.2.2.1
theorem Bs.cells {F F' : Fz} {v : Value} {l : By} (h : Bs F v l) (hc : ∀ b o u, bH F b o = some u → bH F' b o = some u) : Bs F' v l := by
 obtain ⟨a, c, h1, h2, h3, h4, h5⟩ := h
 exact ⟨a, c, h1, h2, h3, h4, h5.imp id fun ⟨b, o, h6, h7⟩ => ⟨b, o, h6, fun j u hu => hc _ _ _ (h7 j u hu)⟩⟩
def UpI {F1 : Fz} (w0 : World) (F0 : Fz) (B b5 : Nat) (d0 : By) (pre : List (BkX F1)) (W : World) : Prop :=
  (w0.heap.size ≤ b5 ∧ b5 < B ∧ w0.heap.size ≤ B ∧ B ≤ W.heap.size) ∧ ∃ F da dc, Gr w0 F0 W F ∧ Le F1 F ∧ (∀ r o, B ≤ r → W.heap[r]? = some o → o.isCells = false → F r = none) ∧ F b5 = none ∧ W.heap[b5]? = some (.cells #[.slice da (pre.foldl (fun d x => up1 (bkS x) d) d0).length dc] 25 (0, 0)) ∧ Bs F (.slice da (pre.foldl (fun d x => up1 (bkS x) d) d0).length dc) (pre.foldl (fun d x => up1 (bkS x) d) d0)
theorem UpI.own {F1 : Fz} {w0 : World} {F0 : Fz} {B b5 : Nat} {d0 : By} : OwnFrom B (UpI (F1 := F1) w0 F0 B b5 d0) := by
 intro pre W W' row ⟨⟨hb1, hb2, hb3, hB⟩, F, da, dc, hG, hle, hcl, h5n, h5, hbs⟩ hg hr
 have hrow : ∀ k, row = some k → F k = none := fun k e => by
  obtain ⟨h1, o, h2, h3⟩ := hr k e
  exact hcl k o h1 h2 h3
 have h5' : W'.heap[b5]? = some (.cells #[.slice da (pre.foldl (fun d x => up1 (bkS x) d) d0).length dc] 25 (0, 0)) := by
  rw [hg.block b5 (Array.getElem?_eq_some_iff.1 h5).1 (fun e => by have := (hr b5 e.symm).1; omega)]
  exact h5
 refine ⟨⟨hb1, hb2, hb3, Nat.le_trans hB hg.size⟩, F, da, dc, ⟨hG.below.grown hg (by omega) (fun k e => by have := (hr k e).1; omega), hG.old, hG.sat.grown hg hrow⟩, hle, fun r o hrB ho hc => ?_, h5n, h5', hbs⟩
 by_cases hlt : r < W.heap.size
 by_cases e : some r = row
 exact hrow r e.symm
 rw [hg.block r hlt e] at ho
 exact hcl r o hrB ho hc
 exact hG.sat.out (by omega)
def UpX {F1 : Fz} (B : Nat) (fr : Nat → BkX F1 → Array Value) (x : BkX F1) (a' : Act) (W : World) : Prop :=
  ∃ Bx, B ≤ Bx ∧ W.heap[Bx]? = some (.cells #[.int .i64 (((bkS x).bit : Nat) : Int), .bool (bkS x).right, bkV x] 204 (0, 0)) ∧ a' = ⟨fr Bx x, []⟩
theorem UpX.own {F1 : Fz} {B B' : Nat} {fr : Nat → BkX F1 → Array Value} {x : BkX F1} {a' : Act} : OwnFrom B' (fun (_ : Unit) W => UpX B fr x a' W) := by
 rintro _ W W' row ⟨Bx, h1, h2, h3⟩ hg hr
 refine ⟨Bx, h1, ?_, h3⟩
 rw [hg.block Bx (Array.getElem?_eq_some_iff.1 h2).1 (fun e => by obtain ⟨_, o, ho, hc⟩ := hr Bx e.symm; rw [h2] at ho; cases ho; cases hc)]
 exact h2
theorem UpI.below {F1 : Fz} {w0 W w : World} {F0 : Fz} {B b5 : Nat} {d0 : By} {pre : List (BkX F1)} (h : UpI w0 F0 B b5 d0 pre W) (hb : Below W.heap.size W w) : UpI w0 F0 B b5 d0 pre w := by
 obtain ⟨⟨hb1, hb2, hb3, hB⟩, F, da, dc, hG, hle, hcl, h5n, h5, hbs⟩ := h
 refine ⟨⟨hb1, hb2, hb3, Nat.le_trans hB hb.size⟩, F, da, dc, hG.trans (Gr.of_below hG.sat hb), hle, fun r o hrB ho hc => ?_, h5n, (hb.block b5 (Array.getElem?_eq_some_iff.1 h5).1).trans h5, hbs⟩
 by_cases hlt : r < W.heap.size
 rw [hb.block r hlt] at ho
 exact hcl r o hrB ho hc
 exact hG.sat.out (by omega)
theorem UpI.end {F1 : Fz} {w0 W : World} {F0 : Fz} {B b5 D : Nat} {d0 : By} {pre : List (BkX F1)} (h : UpI w0 F0 B b5 d0 pre W) (hD : B ≤ D) (hK : W.heap[D]? = some (.deferred (some []))) :
    ∃ da dc F, W.cell? ⟨b5, 0, none⟩ = some (.slice da (pre.foldl (fun d x => up1 (bkS x) d) d0).length dc) ∧ Gr w0 F0 (W.putObj D (.deferred none)) F ∧ Bs F (.slice da (pre.foldl (fun d x => up1 (bkS x) d) d0).length dc) (pre.foldl (fun d x => up1 (bkS x) d) d0) := by
 obtain ⟨⟨hb1, hb2, hb3, hB⟩, F, da, dc, hG, hle, hcl, h5n, h5, hbs⟩ := h
 exact ⟨da, dc, F, by simp [World.cell?, h5], ⟨hG.below.grown (grownBy_putObj' W D _) (by omega) (fun k e => by cases e; omega), hG.old, hG.sat.grown (grownBy_putObj' W D _) (fun k e => by cases e; exact hcl D _ hD hK rfl)⟩, hbs⟩
def WO (l : aP) : List Pr := l.map fun t => (t.1, TW t.2)
def Ff (l : aP) : By := TW (WO l)
theorem WP {P : Program} {Q : Exit → Act → World → Prop} {F : Fz} {fuel : Nat} {listed : Array Bool} {a : Act} {w : World} {l : List Oper} {o1 o2 : Oper} (i j : Nat) (hr : Region.ready .any l.toArray listed = [i, j]) (hi : l[i]? = some o1) (hj : l[j]? = some o2)
    (h1 : WL P l.toArray (Exit.then (fun a' w' => Sat w' F ∧ Go.wpAnyH P .any l.toArray Q (fun w => Sat w F) fuel (listed.setIfInBounds i true) a' w') Q) [o1] a w)
    (h2 : WL P l.toArray (Exit.then (fun a' w' => Sat w' F ∧ Go.wpAnyH P .any l.toArray Q (fun w => Sat w F) fuel (listed.setIfInBounds j true) a' w') Q) [o2] a w) : HL P l.toArray Q F (fuel + 1) listed a w := by
 refine ⟨Go.wpAnyH_all hr (by simp) fun k hk => ?_⟩
 have key : ∀ (m : Nat) (o : Oper), l[m]? = some o → WL P l.toArray (Exit.then (fun a' w' => Sat w' F ∧ Go.wpAnyH P .any l.toArray Q (fun w => Sat w F) fuel (listed.setIfInBounds m true) a' w') Q) [o] a w → wpOp P l.toArray Q m (fun a' w' => Sat w' F ∧ Go.wpAnyH P .any l.toArray Q (fun w => Sat w F) fuel (listed.setIfInBounds m true) a' w') a w := by
  intro m o hm h
  have h1 := h.out
  unfold wpList at h1
  unfold wpOp
  have hi' : l.toArray[m]? = some o := by simpa using hm
  simp only [hi']
  split
  rename_i hw
  rw [if_pos hw] at h1
  rcases h1 with h1 | h1
  left
  refine Oper.wp_mono (fun a' w' hk => ?_) (Oper.wp_exit h1)
  exact hk
  exact .inr h1
  rename_i hw
  rw [if_neg hw] at h1
  exact h1
 rcases (by simpa using hk : k = i ∨ k = j) with rfl | rfl
 exact key _ _ hi h1
 exact key _ _ hj h2

structure Tp where
  data : By
  synced : Nat
def gY (m : Cm) : By := b8 ((eJ m.turn m.writes).length / 256) :: b8 (eJ m.turn m.writes).length :: eJ m.turn m.writes
def bJ (m : Cm) : By := gY m ++ (mQ (gY m)).take 4
def dG (cs : List Cm) : By := cs.flatMap bJ
def jS (r : By) (k : Nat) : Option (Cm × Nat) :=
  if r.length < 2 then none else
  if 4000 < 2 + (r.getD 0 0).toNat * 256 + (r.getD 1 0).toNat ∨ r.length < 2 + (r.getD 0 0).toNat * 256 + (r.getD 1 0).toNat + 4 then none else
  if (mQ (r.take (2 + (r.getD 0 0).toNat * 256 + (r.getD 1 0).toNat))).take 4 ≠ (r.drop (2 + (r.getD 0 0).toNat * 256 + (r.getD 1 0).toNat)).take 4 then none else
  if uX ((r.take (2 + (r.getD 0 0).toNat * 256 + (r.getD 1 0).toNat)).drop 2) ≠ 0 ∨ (sS ((r.take (2 + (r.getD 0 0).toNat * 256 + (r.getD 1 0).toNat)).drop 2)).turn ≠ k + 1 then none else
  some (sS ((r.take (2 + (r.getD 0 0).toNat * 256 + (r.getD 1 0).toNat)).drop 2), 2 + (r.getD 0 0).toNat * 256 + (r.getD 1 0).toNat + 4)
def rQ : Nat → By → Nat → List Cm × Nat
  | 0, _, _ => ([], 0)
  | f + 1, r, k => match jS r k with
    | none => ([], 0)
    | some p => (p.1 :: (rQ f (r.drop p.2) (k + 1)).1, p.2 + (rQ f (r.drop p.2) (k + 1)).2)
def iH (d : By) : List Cm × Nat := rQ d.length d 0
theorem FB {r : By} {k : Nat} (h : jS r k = none) (f : Nat) : rQ f r k = ([], 0) := by
 cases f with
 | zero => rfl
 | succ f => rw [rQ, h]
theorem FC {r : By} {k f : Nat} {p : Cm × Nat} (h : jS r k = some p) : rQ (f + 1) r k = (p.1 :: (rQ f (r.drop p.2) (k + 1)).1, p.2 + (rQ f (r.drop p.2) (k + 1)).2) := by rw [rQ, h]
theorem lW {m : Cm} (hm : CmOk m) : (gY m).length = 2 + (eJ m.turn m.writes).length ∧ (gY m).length ≤ 596 ∧ 6 ≤ (gY m).length := by
 have := EW hm
 have h : (gY m).length = 2 + (eJ m.turn m.writes).length := by simp [gY]; omega
 omega
theorem lX {m : Cm} (hm : CmOk m) : (bJ m).length = 6 + (eJ m.turn m.writes).length ∧ (bJ m).length = (gY m).length + 4 := by
 have := lW hm
 have : (bJ m).length = (gY m).length + 4 := by
  unfold bJ
  rw [List.length_append, List.length_take, rU]
  omega
 omega
theorem KL {m : Cm} (hm : CmOk m) {t : By} : 2 + (((bJ m) ++ t).getD 0 0).toNat * 256 + (((bJ m) ++ t).getD 1 0).toNat = (gY m).length := by
 have h1 := EW hm
 have h2 := lW hm
 have e0 : ((bJ m) ++ t).getD 0 0 = b8 ((eJ m.turn m.writes).length / 256) := by simp [bJ, gY]
 have e1 : ((bJ m) ++ t).getD 1 0 = b8 (eJ m.turn m.writes).length := by simp [bJ, gY]
 rw [e0, e1, mD (by omega)]
 have : (b8 (eJ m.turn m.writes).length).toNat = (eJ m.turn m.writes).length % 256 := by simp [b8]
 omega
theorem KM {m : Cm} (hm : CmOk m) {t : By} {k : Nat} : jS (bJ m ++ t) k = if m.turn = k + 1 then some (m, (bJ m).length) else none := by
 have h2 := lW hm
 have h3 := lX hm
 have hl : (bJ m ++ t).length = (gY m).length + 4 + t.length := by rw [List.length_append]; omega
 have ht : (bJ m ++ t).take (gY m).length = gY m := by
  rw [show bJ m = gY m ++ (mQ (gY m)).take 4 from rfl, List.append_assoc, List.take_left']
  rfl
 have hd : ((bJ m ++ t).drop (gY m).length).take 4 = (mQ (gY m)).take 4 := by
  rw [show bJ m = gY m ++ (mQ (gY m)).take 4 from rfl, List.append_assoc, List.drop_left' rfl, List.take_append_of_le_length (by rw [List.length_take, rU]; omega), List.take_take]
  simp
 have hb : (gY m).drop 2 = eJ m.turn m.writes := rfl
 obtain ⟨d1, d2⟩ := VU hm
 unfold jS
 rw [KL hm, if_neg (by omega), if_neg (by omega), ht, hd, if_neg (by simp), hb, d1, d2]
 by_cases h : m.turn = k + 1
 ·rw [if_neg (by simp [h]), if_pos h, h3.2]
 ·rw [if_pos (.inr h), if_neg h]
theorem NX {m : Cm} (hm : CmOk m) {n k : Nat} (hn : n < (bJ m).length) : jS ((bJ m).take n) k = none := by
 have h2 := lW hm
 have h3 := lX hm
 unfold jS
 have hl : ((bJ m).take n).length = n := by rw [List.length_take]; omega
 rw [hl]
 by_cases h : n < 2
 ·rw [if_pos h]
 ·rw [if_neg h]
  have e : 2 + (((bJ m).take n).getD 0 0).toNat * 256 + (((bJ m).take n).getD 1 0).toNat = (gY m).length := by
   rw [← KL hm (t := [])]
   have q : ∀ i, i < 2 → ((bJ m).take n).getD i 0 = (bJ m ++ []).getD i 0 := by
    intro i hi
    rw [List.append_nil, List.getD_eq_getElem?_getD, List.getD_eq_getElem?_getD, List.getElem?_take_of_lt (by omega)]
   rw [q 0 (by omega), q 1 (by omega)]
  rw [e, if_pos (.inr (by omega))]
theorem wW (a b : List Cm) : dG (a ++ b) = dG a ++ dG b := by simp [dG]
theorem WQ : ∀ (cs : List Cm) (f k : Nat) (t : By), (∀ c ∈ cs, CmOk c) → (∀ (i : Nat) (h : i < cs.length), cs[i].turn = k + i + 1) → jS t (k + cs.length) = none → (dG cs ++ t).length ≤ f → rQ f (dG cs ++ t) k = (cs, (dG cs).length)
  | [], f, k, t, _, _, ht, _ => by
    rw [show dG ([] : List Cm) ++ t = t from rfl, FB (by simpa using ht)]
    rfl
  | c :: cs, f, k, t, hok, htn, ht, hf => by
    have hc := hok c (by simp)
    have h3 := lX hc
    have hb := lW hc
    have e : dG (c :: cs) ++ t = bJ c ++ (dG cs ++ t) := by simp [dG]
    have ht0 : c.turn = k + 1 := by have := htn 0 (by simp); simpa using this
    have hch := KM hc (t := dG cs ++ t) (k := k)
    rw [if_pos ht0] at hch
    rw [e] at hf ⊢
    match f, hf with
    | 0, hf => rw [List.length_append] at hf; omega
    | f + 1, hf =>
      rw [FC hch]
      simp only
      rw [List.drop_left' rfl, WQ cs f (k + 1) t (fun x hx => hok x (by simp [hx])) (fun i hi => by have := htn (i + 1) (by simpa using hi); simp at this; omega) (by rw [show k + 1 + cs.length = k + (c :: cs).length from by simp; omega]; exact ht) (by rw [List.length_append] at hf; omega)]
      refine Prod.ext rfl ?_
      simp [dG]
def fJ : List Cm → Nat → Nat
  | [], _ => 0
  | c :: cs, n => if (bJ c).length ≤ n then 1 + fJ cs (n - (bJ c).length) else 0
theorem xX : ∀ (cs : List Cm) (n : Nat), fJ cs n ≤ cs.length
  | [], _ => by simp [fJ]
  | c :: cs, n => by
    unfold fJ
    split
    · have := xX cs (n - (bJ c).length); simp; omega
    · simp
theorem xY : ∀ (cs : List Cm) (n k : Nat), (∀ c ∈ cs, CmOk c) → n ≤ (dG cs).length → ∃ t, (dG cs).take n = dG (cs.take (fJ cs n)) ++ t ∧ (∀ k, jS t k = none) ∧ (t = [] ∨ fJ cs n < cs.length) ∧ (n = (dG cs).length → fJ cs n = cs.length)
  | [], n, k, _, _ => ⟨[], by simp [dG], fun k => by unfold jS; rw [if_pos (by simp)], .inl rfl, fun _ => rfl⟩
  | c :: cs, n, k, hok, hn => by
    have hc := hok c (by simp)
    have h3 := lX hc
    have e : dG (c :: cs) = bJ c ++ dG cs := by simp [dG]
    rw [e, List.length_append] at hn
    by_cases hw : (bJ c).length ≤ n
    · obtain ⟨t, h1, h2, h4, h5⟩ := xY cs (n - (bJ c).length) k (fun x hx => hok x (by simp [hx])) (by omega)
      have ew : fJ (c :: cs) n = fJ cs (n - (bJ c).length) + 1 := by rw [fJ, if_pos hw]; omega
      refine ⟨t, ?_, h2, ?_, fun h => ?_⟩
      · rw [e, ew, List.take_succ_cons, show n = (bJ c).length + (n - (bJ c).length) from by omega, List.take_append]
        simp only [Nat.add_sub_cancel_left]
        rw [List.take_of_length_le (by omega), h1]
        simp [dG]
      · rw [ew, List.length_cons]
        rcases h4 with h4 | h4
        · exact .inl h4
        · exact .inr (by omega)
      · rw [ew, List.length_cons, h5 (by rw [e, List.length_append] at h; omega)]
    · have ew : fJ (c :: cs) n = 0 := by rw [fJ, if_neg hw]
      refine ⟨(bJ c).take n, ?_, fun k => NX hc (by omega), ?_, fun h => ?_⟩
      · rw [e, ew, List.take_append_of_le_length (by omega)]
        simp [dG]
      · rw [ew]; exact .inr (by simp)
      · rw [e, List.length_append] at h; omega
theorem KN {m : Nat} {cs : List Cm} (hh : HistOk m cs) {n : Nat} (hn : n ≤ (dG cs).length) : iH ((dG cs).take n) = (cs.take (fJ cs n), (dG (cs.take (fJ cs n))).length) := by
 obtain ⟨t, h1, h2, _, _⟩ := xY cs n 0 hh.ok hn
 unfold iH
 rw [h1]
 refine WQ _ _ 0 t (fun c hc => hh.ok c (List.mem_of_mem_take hc)) (fun i hi => ?_) (h2 _) (Nat.le_refl _)
 rw [List.getElem_take]
 have := hh.turn i (by rw [List.length_take] at hi; omega)
 omega
theorem rG {cs : List Cm} (hok : ∀ c ∈ cs, CmOk c) : (dG cs).length ≤ 600 * cs.length := by
 induction cs with
 | nil => simp [dG]
 | cons c cs ih =>
  have h3 := lX (hok c (by simp))
  have hb := lW (hok c (by simp))
  have := ih (fun x hx => hok x (by simp [hx]))
  have e : dG (c :: cs) = bJ c ++ dG cs := by simp [dG]
  rw [e, List.length_append, List.length_cons]
  omega
theorem FD : ∀ (cs : List Cm) (n : Nat), (dG (cs.take (fJ cs n))).length ≤ n
  | [], n => by simp [dG, fJ]
  | c :: cs, n => by
    unfold fJ
    split
    · rename_i h
      have := FD cs (n - (bJ c).length)
      rw [Nat.add_comm, List.take_succ_cons, show dG (c :: cs.take (fJ cs (n - (bJ c).length))) = bJ c ++ dG (cs.take (fJ cs (n - (bJ c).length))) from by simp [dG], List.length_append]
      omega
    · simp [dG]
theorem KO : ∀ (cs : List Cm) (k n : Nat), k ≤ cs.length → (dG (cs.take k)).length ≤ n → k ≤ fJ cs n
  | _, 0, _, _, _ => Nat.zero_le _
  | [], k + 1, _, h, _ => by simp at h
  | c :: cs, k + 1, n, hk, h => by
    rw [List.take_succ_cons, show dG (c :: cs.take k) = bJ c ++ dG (cs.take k) from by simp [dG], List.length_append] at h
    rw [fJ, if_pos (by omega)]
    have := KO cs k (n - (bJ c).length) (by simpa using hk) (by omega)
    omega
theorem KP (F : Fz) (w : World) (v : Value) (l : List UInt8) (hs : Sat w F) (hv : Bs F v l) (hm : l.length ≤ 100000) :
    Calls Tryz.prog 45 #[v] w (rX w F 1 ByC 5 l) := by
 obtain ⟨a, c, rfl, hlc, hcm⟩ := hv.shape
 obtain ⟨i, hi, hz0, hz1, hz2⟩ := info_parts qH
 have hr := hv
 unfold Bs at hr
 have hnil := Lib.run_eql_slice_nil (P := Tryz.prog) w 25 5 a l.length c 0 0 Tryz.underlying25
 cases a with
 | none =>
  have hl : l = [] := by
   obtain ⟨a', c', h1, _, _, h4, _⟩ := hr
   cases h1
   exact List.eq_nil_of_length_eq_zero (h4 rfl).1
  subst hl
  simp only [List.length_nil] at hnil
  go_enter Tryz.func45, Tryz.ntmps45
  go_wp2_with fail
  go_ret
  exact ⟨_, F, rfl, Gr.refl hs, Own.nil _ _⟩
 | some a =>
  have hown := World.ownsRow_lit (base := w.heap.size) (e := 5) (size := 1) w #[] 0 (Nat.le_refl _) (Nat.zero_le _) rfl
  have hsa := hs.alloc (.cells #[] 5)
  go_enter Tryz.func45, Tryz.ntmps45
  go_wp2_with (at_builtin; go_loud (refine oK rfl _ _ 25 rfl w.heap.size 5 i (.int .u8 0) 1 1 Tryz.underlying25 hi hz0 hz1 hz2 rfl (by decide) rfl hown rfl hsa hr (by simp) (AC _) (by unfold maxLen; omega) (by omega) (by simp) ?_))
  intro v1 w1 hown1 hg _
  have hb : Below w.heap.size w w1 := ((Below.refl _ _).alloc (Nat.le_refl _) _).grown hg (by simp) (fun g hg' => (hown.lt g hg').1)
  clear hg hown
  go_wp2_with fail
  go_ret
  refine ⟨_, F, rfl, Gr.of_below hs hb, ⟨l.map fun b => [bv b], ?_, rD F l, by simp⟩, fun g hg => hs.out (hown1.lt g hg).1⟩
  rw [rC]
  simpa using hown1
def TpV (F : Fz) (v : Value) (t : Tp) : Prop := ∃ a c, v = .agg #[.slice a t.data.length c, .int .i64 (t.synced : Nat)] ∧ Bs F (.slice a t.data.length c) t.data
theorem TpV.mono {F F' : Fz} {v : Value} {t : Tp} (h : TpV F v t) (hl : Le F F') : TpV F' v t := by
 obtain ⟨a, c, h1, h2⟩ := h; exact ⟨a, c, h1, h2.mono hl⟩
def QI (w : World) (F : Fz) (t : Tp) (e : Ending) (w' : World) : Prop := ∃ v F', e = .returned (.tuple #[.agg #[v, .int .i64 (t.synced : Nat)], .bool true]) ∧ Gr w F w' F' ∧ Own 1 ByC 5 w.heap.size w' F' v t.data
theorem tU {P : Program} {ops : Array Oper} {Q : Exit → Act → World → Prop} {a : Act} {rest : List Oper} {o : Oper} {kf : FuncId} {vs : Array Value} {w0 w : World} {F0 F : Fz} {L : List Blk} {M : List RowP} {t : Tp} (S : St w0 F0 w F L M) (hw : Region.wanted o (yielded ops a.tmps) = true)
    (hr : (execOp a.eval o).run P w = .ok (.enter kf vs) w) (hc : Calls P kf vs w (QI w F t))
    (h : ∀ v w' F', St w0 F0 w' F' L (bV 1 ByC ByC.mono 5 w0.heap.size v t.data :: M) → Le F F' → WL P ops Q rest (a.put o.dst (.tuple #[.agg #[v, .int .i64 (t.synced : Nat)], .bool true])) w') : WL P ops Q (o :: rest) a w :=
  doC hw hr hc fun e w' ⟨v, F', he, g, ho⟩ => ⟨_, he, h v w' F' (S.addRow g ho) (g.le S.sat)⟩
structure TpOk (n : Nat) (t : Tp) : Prop where
  len : t.data.length ≤ n
  syn : t.synced ≤ t.data.length
def Bf (t : Tp) (e : Int) (F : Fz) (u : Value) : Prop := ∃ v, u = .tuple #[v, .int .i64 e] ∧ TpV F v t
def WR (w : World) (F G : Fz) : Fz := fun b => if b < w.heap.size then F b else G b
theorem Gr.mix {w w' : World} {F F1 G : Fz} (hl : Le F F1) (h : Gr w F1 w' G) (hs : Sat w F) : Gr w F w' (WR w F G) := by
 refine ⟨h.below, fun b hb => by unfold WR; rw [if_pos hb], fun b o hb => ?_⟩
 unfold WR at hb
 split at hb
 rename_i hlt
 exact h.sat b o (by rw [h.old b hlt]; exact hl b o hb)
 exact h.sat b o hb
theorem ByC.mix {base E : Nat} {w w' : World} {F G : Fz} {v : Value} {l : By} (h : Own 1 ByC E base w' G v l) (hb : w.heap.size ≤ base) : Own 1 ByC E base w' (WR w F G) v l := by
 obtain ⟨el, h1, h2, h3⟩ := h.ex
 refine ⟨⟨el, h1, h2.imp fun x p hx => hx, h3⟩, fun g hg => ?_⟩
 unfold WR
 rw [if_neg (by have := (h.lt g hg).1; omega)]
 exact h.out g hg
def GivesSum (w : World) (F : Fz) (b : By) (e : Ending) (w' : World) : Prop := ∃ v F', e = .returned (.tuple #[v, .int .i64 0]) ∧ Gr w F w' F' ∧ Own 1 ByC 5 w.heap.size w' F' v (mQ b)
theorem GivesSum.mix {w w' : World} {F F1 : Fz} {b : By} {e : Ending} (hs : Sat w F) (hl : Le F F1) (h : GivesSum w F1 b e w') : GivesSum w F b e w' := by
 obtain ⟨v, F', he, g, ho⟩ := h
 exact ⟨v, _, he, g.mix hl hs, ByC.mix ho (Nat.le_refl _)⟩
theorem NY {P : Program} {ops : Array Oper} {Q : Exit → Act → World → Prop} {a : Act} {rest : List Oper} {o : Oper} {kf : FuncId} {vs : Array Value} {w0 w : World} {F0 F F1 : Fz} {L : List Blk} {M : List RowP} {b : By} (S : St w0 F0 w F L M) (hl : Le F F1) (hw : Region.wanted o (yielded ops a.tmps) = true)
    (hr : (execOp a.eval o).run P w = .ok (.enter kf vs) w) (hc : Calls P kf vs w (GivesSum w F1 b))
    (h : ∀ v w' F', St w0 F0 w' F' L (bV 1 ByC ByC.mono 5 w0.heap.size v (mQ b) :: M) → Le F F' → WL P ops Q rest (a.put o.dst (.tuple #[v, .int .i64 0])) w') : WL P ops Q (o :: rest) a w :=
  doC hw hr hc fun e w' hg => by
    obtain ⟨v, F', he, g, ho⟩ := GivesSum.mix S.sat hl hg
    exact ⟨_, he, h v w' F' (S.addRow g ho) (g.le S.sat)⟩
theorem Bg (F : Fz) (w : World) (v : Value) (b : By) (hs : Sat w F) (hT : Tabs w) (hb : Bs F v b) (hn : b.length ≤ 4000) :
    Calls Tryz.prog 96 #[v] w (GivesSum w F b) := by
 obtain ⟨x, y, rfl, hc1', hc2'⟩ := hb.shape
 unfold maxLen at hc2'
 have S := St.start hs
 go_enter Tryz.func96, Tryz.ntmps96
 refine sk fun K1 hK1 => ?_
 iterate 2 refine dy ?_
 refine wn hK1 ?_
 refine aF fun K2 hK2 => ?_
 refine sk fun K3 hK3 => ?_
 refine aC ?_
 refine lF ?_
 simp only [pq]
 refine wn hK3 ?_
 refine aG ?_
 refine aI ?_
 refine hK2 _ _ ?_
 refine sk fun K4 hK4 => ?_
 refine dx ?_
 refine nT ByC.mono S rfl (fn1 (PQ _ _)) (QH _ _ _ b (S).sat (hT.at S.gr.below) hb (by omega)) ?_
 intro v9 w5 F7 S6 le8
 refine aC ?_
 refine wn hK4 ?_
 refine aO ?_
 try simp only [xt]
 refine bR (cI rfl (gD rfl) (gD rfl)) ?_
 exact ⟨_, _, rfl, S6.gr, St.own (i := 0) S6 rfl⟩
theorem tV (F : Fz) (w : World) (v : Value) (t : Tp) (hs : Sat w F) (hv : TpV F v t) (ok : TpOk 100000 t) :
    Calls Tryz.prog 95 #[v] w (QI w F t) := by
 obtain ⟨x, y, rfl, hv⟩ := hv
 have h1 := ok.len
 have h2 := ok.syn
 have S := St.start hs
 go_enter Tryz.func95, Tryz.ntmps95
 refine sk fun K1 hK1 => ?_
 refine aZ S (v := fun n => .pointer (aA n 0)) rfl (bW (v := (.agg #[(.slice x t.data.length y), (nI t.synced)])) rfl) (fun n2 w3 S4 => ?_)
 refine sA S4 (jF _) fun n5 w6 S7 => ?_
 refine dy ?_
 refine wn hK1 ?_
 refine aF fun K8 hK8 => ?_
 refine sk fun K9 hK9 => ?_
 refine aC ?_
 refine eM ?_
 refine aC ?_
 refine lF ?_
 refine aC ?_
 refine lF ?_
 refine dp ?_
 refine wn hK9 ?_
 refine aG ?_
 refine aI ?_
 refine hK8 _ _ ?_
 refine aF fun b3 a6 => ?_
 obtain ⟨b1, a7, a3⟩ := St.freezeBlk S7 (i := 1) rfl
 generalize addF F w6 n2 = b4 at *
 refine iG b1 (by kernel_rfl) (fun b5 a2 => ?_)
 refine bM 0 rfl _ a2.sat (fun _ _ => ef (jX _ _)) ?_
 simp only [pq]
 refine bM 1 rfl _ a2.sat (fun _ a8 => aE rfl (aT (bD _) (St.fz (St.start a8) (a3 0 _ rfl)))) ?_
 simp only [pq]
 refine bM 3 rfl _ a2.sat (fun _ _ => ef (mG _ _)) ?_
 simp only [pq]
 refine bM 4 rfl _ a2.sat (fun _ a9 => aE rfl (aT (bU _) (St.fz (St.start a9) (a3 1 _ rfl)))) ?_
 simp only [pq]
 refine dQ 2 (by kernel_rfl) rfl ?_
 refine nT ByC.mono a2 rfl (fn1 (gV _ _)) (KP _ _ _ t.data (a2).sat (hv.mono a7) (by omega)) ?_
 intro b6 b7 b9 a5 a0
 simp only [pq]
 obtain ⟨b0, a1, rfl, c0, b2⟩ := (a5.own (i := 0) rfl).shape
 unfold maxLen at b2
 refine aH (dB (Sat.le a5.sat a0) ?_)
 refine bM 5 rfl (.agg #[(.slice b0 t.data.length a1), (nI t.synced)]) (Sat.le a5.sat a0) (fun _ _ => aJ (ps := #[(0, (.slice b0 t.data.length a1)), (1, (nI t.synced))]) (eZ rfl rfl) (by kernel_rfl)) ?_
 simp only [pq]
 refine dQ 6 (by kernel_rfl) rfl ?_
 refine sW 0 a5 (bL) fun c1 a4 => ?_
 refine aH (dB (Sat.le a4.sat a0) ?_)
 refine gA 7 rfl (Sat.le a4.sat a0) ?_
 simp only [pq]
 refine jP (by kernel_rfl) ?_
 refine a6 _ _ ?_
 refine aO ?_
 try simp only [xt]
 refine bR (cZ rfl ⟨_, rfl, lR a4 0 Tryz.underlying108 (bL)⟩ (gD rfl)) ?_
 exact ⟨_, _, rfl, a4.gr, St.own (i := 0) a4 rfl⟩
theorem SK (F : Fz) (w : World) (v : Value) (t : Tp) (hs : Sat w F) (hv : TpV F v t) (ok : TpOk 100000 t) :
    Calls Tryz.prog 82 #[v] w (dO w F (Bf ⟨t.data, t.data.length⟩ 0)) := by
 obtain ⟨x, y, rfl, hv⟩ := hv
 have h1 := ok.len
 have h2 := ok.syn
 have S := St.start hs
 go_enter Tryz.func82, Tryz.ntmps82
 refine sk fun K1 hK1 => ?_
 refine aZ S (v := fun n => .pointer (aA n 0)) rfl (bW (v := (.agg #[(.slice x t.data.length y), (nI t.synced)])) rfl) (fun n2 w3 S4 => ?_)
 refine sA S4 (jF _) fun n5 w6 S7 => ?_
 refine dy ?_
 refine wn hK1 ?_
 refine sk fun K8 hK8 => ?_
 refine dR S7 1 Tryz.underlying108 (bL) ?_
 simp only [pq]
 refine tU S7 rfl (fn1 (GX _ _)) (tV _ _ _ t (S7).sat ⟨_, _, rfl, hv⟩ (⟨by omega, ok.syn⟩)) ?_
 intro v9 b7 b9 a6 a9
 simp only [pq]
 obtain ⟨b0, a1, rfl, c0, b1⟩ := (a6.own (i := 0) rfl).shape
 unfold maxLen at b1
 refine aC ?_
 refine sA a6 (jF _) fun c1 c2 b2 => ?_
 refine sW 0 b2 (bL) fun c3 b3 => ?_
 refine dy ?_
 simp only [pq]
 refine wn hK8 ?_
 refine aF fun c4 a2 => ?_
 refine sk fun c5 a3 => ?_
 refine aC ?_
 refine wn a3 ?_
 refine aG ?_
 refine aI ?_
 refine a2 _ _ ?_
 refine aF fun c6 a4 => ?_
 obtain ⟨c7, b4, b5, a0⟩ := St.freeze b3 (i := 0) rfl (Nat.le_refl _)
 have a0 : Bys _ (.slice b0 t.data.length a1) t.data := a0
 have b6 := eA a0
 refine aB ?_
 refine aC ?_
 refine sW 0 b4 (MU) fun c8 a7 => ?_
 refine wlK a4 ?_
 refine sk fun c9 a5 => ?_
 refine dR a7 0 Tryz.underlying108 (bL) ?_
 simp only [pq]
 refine sW 1 a7 (bL) fun d0 a8 => ?_
 refine dy ?_
 refine wn a5 ?_
 refine aO ?_
 try simp only [xt]
 refine bR (cZ rfl ⟨_, rfl, lR a8 1 Tryz.underlying108 (bL)⟩ (gD rfl)) ?_
 exact ⟨_, _, rfl, a8.gr, _, rfl, _, _, rfl, b6⟩
def cE (t : Tp) (k : Nat) : Nat := t.synced + min k (t.data.length - t.synced)
theorem NZ (F : Fz) (w : World) (v : Value) (t : Tp) (k : Nat) (hs : Sat w F) (hv : TpV F v t) (ok : TpOk 100000 t) (hk : k ≤ 100000) :
    Calls Tryz.prog 83 #[v, .int .i64 (k : Nat)] w (dO w F (Bf ⟨t.data.take (cE t k), cE t k⟩ 0)) := by
 obtain ⟨x, y, rfl, hv⟩ := hv
 have h1 := ok.len
 have h2 := ok.syn
 have S := St.start hs
 go_enter Tryz.func83, Tryz.ntmps83
 refine sk fun K1 hK1 => ?_
 refine aZ S (v := fun n => .pointer (aA n 0)) rfl (bW (v := (.agg #[(.slice x t.data.length y), (nI t.synced)])) rfl) (fun n2 w3 S4 => ?_)
 refine sA S4 (jF _) fun n5 w6 S7 => ?_
 refine dy ?_
 refine wn hK1 ?_
 refine sk fun K8 hK8 => ?_
 refine dR S7 1 Tryz.underlying108 (bL) ?_
 simp only [pq]
 refine tU S7 rfl (fn1 (GX _ _)) (tV _ _ _ t (S7).sat ⟨_, _, rfl, hv⟩ (⟨by omega, ok.syn⟩)) ?_
 intro v9 b9 c0 a8 b0
 simp only [pq]
 obtain ⟨a2, a1, rfl, c1, b1⟩ := (a8.own (i := 0) rfl).shape
 unfold maxLen at b1
 refine aC ?_
 refine sA a8 (jF _) fun c2 c3 b2 => ?_
 refine sW 0 b2 (bL) fun c4 b3 => ?_
 refine dy ?_
 simp only [pq]
 refine wn hK8 ?_
 refine aF fun c5 a3 => ?_
 refine aM ?_
 refine sk fun c6 a4 => ?_
 refine aC ?_
 refine wn a4 ?_
 refine aG ?_
 refine sk fun c7 a5 => ?_
 refine dx ?_
 refine eM ?_
 refine dy ?_
 simp only [pq]
 refine wn a5 ?_
 refine aG ?_
 refine aI ?_
 refine a3 _ _ ?_
 refine aF fun c8 a6 => ?_
 obtain ⟨c9, b4, b5, a0⟩ := St.freeze b3 (i := 0) rfl (Nat.le_refl _)
 have a0 : Bys _ (.slice a2 t.data.length a1) t.data := a0
 have b6 := eA a0
 refine aB ?_
 refine aC ?_
 refine dr (nI (t.data.length - t.synced)) (uM (m := ((t.data.length : Nat) : Int)) (n := ((t.synced : Nat) : Int)) (r := (((t.data.length - t.synced) : Nat) : Int)) rfl rfl (by omega) (by omega) (by omega)) ?_
 simp only [pq]
 refine dr (nI (min k (t.data.length - t.synced))) (uN (m := ((k : Nat) : Int)) (n := (((t.data.length - t.synced) : Nat) : Int)) (r := (((min k (t.data.length - t.synced)) : Nat) : Int)) rfl rfl (by omega)) ?_
 refine cD (((t.synced + (min k (t.data.length - t.synced))) : Nat) : Int) ?_
 refine dy ?_
 simp only [pq]
 refine wlK a6 ?_
 refine sk fun d0 a7 => ?_
 refine aC ?_
 have b7 : Bs _ (.slice a2 (t.synced + (min k (t.data.length - t.synced))) (t.synced + (min k (t.data.length - t.synced)))) (t.data.take (t.synced + (min k (t.data.length - t.synced)))) := Bs.cut b6 (by omega)
 refine dr (.slice a2 (t.synced + (min k (t.data.length - t.synced))) (t.synced + (min k (t.data.length - t.synced)))) (iK (h := (t.synced + (min k (t.data.length - t.synced)))) (m := (t.synced + (min k (t.data.length - t.synced)))) (sz := 1) Tryz.underlying25 rfl (aV _) rfl rfl (by omega) (by omega) rfl) ?_
 refine dx ?_
 refine dr (.agg #[(.slice a2 (t.synced + (min k (t.data.length - t.synced))) (t.synced + (min k (t.data.length - t.synced)))), (.int .i64 (((t.synced + (min k (t.data.length - t.synced))) : Nat) : Int))]) (aJ (eZ rfl rfl) (by kernel_rfl)) ?_
 simp only [pq]
 refine sW 1 b4 (bL) fun d1 a9 => ?_
 refine dy ?_
 refine wn a7 ?_
 refine aO ?_
 try simp only [xt]
 refine bR (cZ rfl ⟨_, rfl, lR a9 1 Tryz.underlying108 (bL)⟩ (gD rfl)) ?_
 exact ⟨_, _, rfl, a9.gr, _, rfl, _, _, by rw [List.length_take, Nat.min_eq_left (show cE t k ≤ t.data.length by unfold cE; omega)]; rfl, by rw [List.length_take, Nat.min_eq_left (show cE t k ≤ t.data.length by unfold cE; omega)]; exact b7⟩
theorem KQ (F : Fz) (w : World) (v u : Value) (t : Tp) (m : Cm) (hs : Sat w F) (hT : Tabs w) (hv : TpV F v t) (hc : CmV F u m) (ok : TpOk 90000 t) (hm : CmOk m) :
    Calls Tryz.prog 110 #[v, u] w (dO w F (Bf ⟨t.data ++ bJ m, t.synced⟩ 0)) := by
 obtain ⟨x, y, rfl, hv⟩ := hv
 have h1' := ok.len
 have h2' := ok.syn
 obtain ⟨x1, y1, rfl, h1⟩ := hc
 obtain ⟨_, _, e1, q2, q3⟩ := Sl.shape h1
 injection e1 with _ _ e1
 subst e1
 unfold maxLen at q3
 obtain ⟨i5, hi5, hz5, hs5, hb5⟩ := info_parts qH
 have S := St.start hs
 go_enter Tryz.func110, Tryz.ntmps110
 refine sk fun K1 hK1 => ?_
 refine aZ S (v := fun n => .pointer (aA n 0)) rfl (bW (v := (.agg #[(.slice x t.data.length y), (nI t.synced)])) rfl) (fun n2 w3 S4 => ?_)
 refine aZ S4 (v := fun n => .pointer (aA n 0)) rfl (bW (v := (.agg #[(nI m.turn), (.slice x1 m.writes.length y1)])) rfl) (fun n5 w6 S7 => ?_)
 simp only [pq]
 refine sA S7 (jF _) fun n8 w9 a9 => ?_
 refine dy ?_
 refine wn hK1 ?_
 refine sk fun h3 b0 => ?_
 refine dR a9 2 Tryz.underlying108 (bL) ?_
 simp only [pq]
 refine tU a9 rfl (fn1 (GX _ _)) (tV _ _ _ t (a9).sat ⟨_, _, rfl, hv⟩ (⟨by omega, ok.syn⟩)) ?_
 intro h5 h6 h7 d7 b1
 simp only [pq]
 obtain ⟨d8, a1, rfl, h8, e9⟩ := (d7.own (i := 0) rfl).shape
 unfold maxLen at e9
 refine aC ?_
 refine sA d7 (jF _) fun f0 h9 f1 => ?_
 refine sW 0 f1 (bL) fun i0 b2 => ?_
 refine dy ?_
 simp only [pq]
 refine wn b0 ?_
 refine aF fun i1 b3 => ?_
 refine sk fun i2 b4 => ?_
 refine aC ?_
 refine wn b4 ?_
 refine aG ?_
 refine aI ?_
 refine b3 _ _ ?_
 refine sk fun i3 b5 => ?_
 refine dR b2 2 Tryz.underlying168 (eN) ?_
 simp only [pq]
 refine aY b2 rfl (fn1 (Al _ _)) (JW _ _ _ (⟨m.turn, m.writes⟩ : Cm) (b2).sat ⟨_, _, rfl, (h1.mono b1)⟩ hm) ?_
 intro i4 i6 f2 f3 f4 f5
 obtain ⟨_, rfl, a7⟩ := f5
 obtain ⟨d9, b6, rfl, e0, _⟩ := a7.shape
 have e0 : (eJ m.turn m.writes).length ≤ b6 := e0
 have a7 : Bs _ (.slice d9 (eJ m.turn m.writes).length b6) (eJ m.turn m.writes) := a7
 refine aC ?_
 refine wn b5 ?_
 refine aF fun i7 b7 => ?_
 refine sk fun i8 b9 => ?_
 refine dx ?_
 refine dr bF (cC (b := false) rfl rfl (by decide)) ?_
 simp only [pq]
 refine wn b9 ?_
 refine aG ?_
 refine aI ?_
 refine b7 _ _ ?_
 refine aF fun i9 c0 => ?_
 obtain ⟨hb1, hb2, hb3⟩ := lW hm
 obtain ⟨hf1, hf2⟩ := lX hm
 refine aB ?_
 refine aC ?_
 refine dr (nI ((eJ m.turn m.writes).length / 256)) (HJ (m := ((eJ m.turn m.writes).length)) (n := 8) rfl rfl (by decide)) ?_
 simp only [pq]
 refine dr (bv (b8 ((eJ m.turn m.writes).length / 256))) (aX (v := (nI ((eJ m.turn m.writes).length / 256))) rfl (kD ((eJ m.turn m.writes).length / 256) _)) ?_
 refine aC ?_
 refine dr (bv (b8 ((eJ m.turn m.writes).length))) (aX (v := (.int .i64 (((eJ m.turn m.writes).length : Nat) : Int))) rfl (kD ((eJ m.turn m.writes).length) _)) ?_
 refine aZ f3 (v := fun n => .slice (aA n 0) 2 2) rfl (bS (ps := #[(0, (bv (b8 ((eJ m.turn m.writes).length / 256)))), (1, (bv (b8 ((eJ m.turn m.writes).length))))]) (cells := #[(bv (b8 ((eJ m.turn m.writes).length / 256))), (bv (b8 ((eJ m.turn m.writes).length)))]) (E := 5) (eZ rfl rfl) (fun w => by kernel_rfl)) (fun f6 f7 e2 => ?_)
 refine dx ?_
 simp only [pq]
 have c1 : St w F f7 f2 [⟨f0, [(.slice d8 t.data.length a1), (nI t.synced)], 108⟩, ⟨n8, [Zn, (iI 0)], 108⟩, ⟨n5, [(nI m.turn), (.slice x1 m.writes.length y1)], 168⟩, ⟨n2, [(.slice x t.data.length y), (nI t.synced)], 108⟩] [bV 1 ByC ByC.mono 5 w.heap.size (.slice (aA f6 0) 2 2) [b8 ((eJ m.turn m.writes).length / 256), b8 (eJ m.turn m.writes).length], bV 1 ByC ByC.mono 5 w.heap.size (.slice d8 t.data.length a1) t.data] := St.blkRow (k := 1) (l := [b8 ((eJ m.turn m.writes).length / 256), b8 (eJ m.turn m.writes).length]) (el := [[(bv (b8 ((eJ m.turn m.writes).length / 256)))], [(bv (b8 ((eJ m.turn m.writes).length)))]]) (hR := ByC.mono) e2 rfl ⟨rfl, rfl, trivial⟩ (by simp) rfl (by simp) (by unfold maxLen; decide) (e2.blk _ (List.mem_cons_self ..)).2.2
 refine eG (r := 0) (u := (.slice d9 (eJ m.turn m.writes).length b6)) c1 rfl i5 (.int .u8 0) 1 Tryz.underlying25 hi5 hz5 hs5 hb5 rfl (by decide) rfl rfl rfl (Sl.toW (Bs.sl a7) (c1).sat) ByC.one (Nat.le_refl _) c1.gr.below.size (by unfold maxLen; (try simp only [List.length_append, List.length_cons, List.length_nil]); omega) (by (try simp only [List.length_append, List.length_cons, List.length_nil]); omega) ?_
 intro j0 j1 c2 f8
 refine dy ?_
 refine wlK c0 ?_
 refine sk fun j2 c3 => ?_
 refine dx ?_
 simp only [pq]
 obtain ⟨j3, c4, c5, a5⟩ := nU c2 (i := 0) rfl
 refine NY c2 c5 rfl (fn1 (VE _ _)) (Bg _ _ _ (gY m) c4 (hT.at c2.gr.below) (eA a5) (by omega)) ?_
 intro f9 j4 j5 g0 g1
 refine aC ?_
 refine wn c3 ?_
 refine aF fun j6 c6 => ?_
 obtain ⟨j7, c7, g2, a3⟩ := St.freeze g0 (i := 0) rfl (Nat.le_refl _)
 have a3 : Bys _ f9 (mQ (gY m)) := a3
 have c8 := eA a3
 obtain ⟨c9, a8, rfl, _⟩ := c8.shape
 have hsl := rU (gY m)
 have h4 : ((mQ (gY m)).take 4).length = 4 := by rw [List.length_take, hsl]; rfl
 have hcs : 32 ≤ a8 := by obtain ⟨_, _, e, q, _⟩ := c8.shape; injection e with _ _ e; omega
 refine aB ?_
 refine aC ?_
 have g3 : Bs _ (.slice c9 4 a8) ((mQ (gY m)).take 4) := eA (Sl.takeN (Bs.sl c8) (by rw [rU]; decide))
 refine dr (.slice c9 4 a8) (bA (l := 0) (h := 4) (sz := 1) Tryz.underlying25 rfl (aV _) (.inl ⟨rfl, rfl⟩) (.inr ⟨_, rfl, rfl⟩) (by omega) (by omega) (fE)) ?_
 refine eG (r := 0) (u := (.slice c9 4 a8)) c7 rfl i5 (.int .u8 0) 1 Tryz.underlying25 hi5 hz5 hs5 hb5 rfl (by decide) rfl rfl rfl (Sl.toW (Bs.sl g3) (c7).sat) ByC.one (Nat.le_refl _) c7.gr.below.size (by unfold maxLen; (try simp only [List.length_append, List.length_cons, List.length_nil]); omega) (by (try simp only [List.length_append, List.length_cons, List.length_nil]); omega) ?_
 intro j8 j9 e3 g4
 refine dy ?_
 refine wlK c6 ?_
 refine aF fun k0 d0 => ?_
 refine aF fun k1 d1 => ?_
 obtain ⟨e4, a2, rfl, k2, g5⟩ := (e3.own (i := 0) rfl).shape
 unfold maxLen at g5
 refine aB ?_
 refine aC ?_
 refine dr (nI (t.data.length + (bJ m).length)) (fW (m := ((t.data.length : Nat) : Int)) (n := (((bJ m).length : Nat) : Int)) (r := (((t.data.length + (bJ m).length) : Nat) : Int)) rfl rfl (by omega) (by omega) (by omega)) ?_
 simp only [pq]
 refine lF ?_
 refine wlK d1 ?_
 refine aG ?_
 refine aI ?_
 refine d0 _ _ ?_
 refine aF fun k3 d2 => ?_
 obtain ⟨k4, d3, g6, a4⟩ := St.freeze e3 (i := 0) rfl (Nat.le_refl _)
 have a4 : Bys _ (.slice e4 (bJ m).length a2) (bJ m) := a4
 have g7 := eA a4
 refine aB ?_
 refine aC ?_
 refine eG (r := 0) (u := (.slice e4 (bJ m).length a2)) d3 rfl i5 (.int .u8 0) 1 Tryz.underlying25 hi5 hz5 hs5 hb5 rfl (by decide) rfl rfl rfl (Sl.toW (Bs.sl g7) (d3).sat) ByC.one (Nat.le_refl _) d3.gr.below.size (by unfold maxLen; (try simp only [List.length_append, List.length_cons, List.length_nil]); omega) (by (try simp only [List.length_append, List.length_cons, List.length_nil]); omega) ?_
 intro k5 k6 e5 g8
 simp only [pq]
 obtain ⟨g9, a6, rfl, k7, h0⟩ := (e5.own (i := 0) rfl).shape
 unfold maxLen at h0
 refine df (jX _ _) ?_
 refine sW 0 e5 (oR) fun k8 e6 => ?_
 refine wlK d2 ?_
 refine sk fun k9 d4 => ?_
 refine dR e6 0 Tryz.underlying108 (bL) ?_
 simp only [pq]
 refine sW 1 e6 (bL) fun l0 e7 => ?_
 refine dy ?_
 refine wn d4 ?_
 refine aO ?_
 try simp only [xt]
 refine bR (cZ rfl ⟨_, rfl, lR e7 1 Tryz.underlying108 (bL)⟩ (gD rfl)) ?_
 ·obtain ⟨h2, d5, e8, a0⟩ := St.freeze e7 (i := 0) rfl (Nat.le_refl _)
  have a0 : Bys _ (.slice g9 (t.data ++ (bJ m)).length a6) (t.data ++ (bJ m)) := a0
  have d6 := eA a0
  exact ⟨_, _, rfl, d5.gr, _, rfl, _, _, rfl, d6⟩
end Go.Proofs.YtilgpdpooildcaaGreatDoor
