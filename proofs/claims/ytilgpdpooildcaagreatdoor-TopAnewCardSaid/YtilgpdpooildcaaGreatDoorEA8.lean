/- Rules, plain laws and walks: DG2 DG3 DG4 DG5 RT1 RT2 RP1 -/
import Derived.Test.YtilgpdpooildcaaGreatDoorEA7
namespace Go.Proofs.YtilgpdpooildcaaGreatDoor
set_option maxHeartbeats 8000000
open Go.RowKit
set_option maxRecDepth 100000
set_option linter.unusedVariables false
set_option linter.unusedSimpArgs false
theorem VV {P : Program} {ρ : Operand → Value} {w : World} {d : Option Tmp} {t X E : TypeId} {n : Nat} {pos : String} {after : Array Edge} {guard : Option (Nat × Bool)} {x lo hi : Operand} {b l h : Nat} (hX : P.underlying X = some (.array n E)) (hx : ρ x = .pointer (some ⟨b, 0, none⟩)) (hsz : (sizeOf E).run P w = .ok 1 w) (hl : ρ lo = .int .i64 (l : Int)) (hh : ρ hi = .int .i64 (h : Int)) (h1 : l ≤ h) (h2 : h ≤ n) (h3 : l < n) :
    (execOp ρ ⟨d, .slice X x (some lo) (some hi) none, t, pos, after, guard⟩).run P w = .ok (.value (.slice (some ⟨b, l, none⟩) (h - l) (n - l))) w := by
 have b1 : ∀ (z y : Nat) (code : BoundsCode), z ≤ y → (Instr.sliceBound (.int .i64 z) y code).run P w = .ok z w := by
  intro z y code hzy
  have : (0 : Int) ≤ (z : Int) ∧ (z : Int) ≤ (y : Int) := by omega
  simp [Instr.sliceBound, asIntOf, this]
 have hb : (Instr.sliceBounds false n n (some (.int .i64 l)) (some (.int .i64 h)) none).run P w = .ok (l, h, n) w := by
  simp [Instr.sliceBounds, b1 _ _ _ h2, b1 _ _ _ h1]
 have hadd : (⟨b, 0, none⟩ : Addr).add l = ⟨b, l, none⟩ := by have := Addr.add_mid b 0 l; simpa using this
 have hn : ¬ n = l := by omega
 simp [execOp, hx, hl, hh, Instr.sliceAt, Instr.sureAddr, Sem.run_bind, Sem.run_pure, Result.andThen_ok, run_underlying hX w, hb, hsz, hadd, hn]
theorem Hx {P : Program} {ρ : Operand → Value} {w : World} {d : Option Tmp} {t X E : TypeId} {n : Nat} {pos : String} {after : Array Edge} {guard : Option (Nat × Bool)} {x : Operand} {a : Option Addr} {l c : Nat} (hX : P.underlying X = some (.array n E)) (hx : ρ x = .slice a l c) (hl : n ≤ l) :
    (execOp ρ ⟨d, .sliceToArrayPointer X x, t, pos, after, guard⟩).run P w = .ok (.value (.pointer a)) w := by
 have : ¬ l < n := by omega
 simp [execOp, hx, Instr.arrayAt, Sem.run_bind, Sem.run_pure, run_underlying hX w, this]
theorem St.cellsAt {w0 w : World} {F0 F : Fz} {L : List Blk} {M : List RowP} (S : St w0 F0 w F L M) {i : Nat} {n : Nat} {c : List Value} {t : TypeId} (h : L[i]? = some ⟨n, c, t⟩) : ∀ j v, c[j]? = some v → w.cell? ⟨n, j, none⟩ = some v := fun j v hv => St.cell S h hv
theorem ZU {w : World} {n : Nat} {X : List (BitVec 64)} {y : Nat} (h : ∀ (j : Nat) v, (X.map aS)[j]? = some v → w.cell? ⟨n, j, none⟩ = some v) (hy : y + 5 ≤ X.length) :
    (Instr.loadAt 233 (.pointer (some ⟨n, y, none⟩))).run Tryz.prog w = .ok (.agg #[aS (at0 X y), aS (at0 X (y + 1)), aS (at0 X (y + 2)), aS (at0 X (y + 3)), aS (at0 X (y + 4))]) w := by
 refine run_loadAt_mid (P := Tryz.prog) w n y 233 [aS (at0 X y), aS (at0 X (y + 1)), aS (at0 X (y + 2)), aS (at0 X (y + 3)), aS (at0 X (y + 4))] (.array 5 215) (fun j v hj => ?_) (by kernel_rfl) rfl (by kernel_rfl)
 refine h _ _ ?_
 have hj5 : j < 5 := by have := (List.getElem?_eq_some_iff.1 hj).1; simpa using this
 rw [fX (by omega), ← hj]
 rcases (by omega : j = 0 ∨ j = 1 ∨ j = 2 ∨ j = 3 ∨ j = 4) with rfl | rfl | rfl | rfl | rfl <;> rfl
theorem En (A : List (BitVec 64)) (k : Nat) : (rM A k).1.set (mK k) (pU (rM A k).2 (nM k)) = (rM A (k + 1)).1 := rfl
def pK (Q : List (BitVec 64)) (y : Nat) : List (BitVec 64) := [at0 Q y, at0 Q (y + 1), at0 Q (y + 2), at0 Q (y + 3), at0 Q (y + 4)]
theorem ET (Q : List (BitVec 64)) (y : Nat) : (pK Q y).length = 5 := rfl
theorem KV {Q : List (BitVec 64)} {y x : Nat} (h : x < 5) : at0 (pK Q y) x = at0 Q (y + x) := by
 rcases (by omega : x = 0 ∨ x = 1 ∨ x = 2 ∨ x = 3 ∨ x = 4) with rfl | rfl | rfl | rfl | rfl <;> rfl
theorem ZV {Q : List (BitVec 64)} {y : Nat} (h : y + 5 ≤ 25) : pK (kU Q y) y = pK Q y := by
 unfold pK
 rw [yN (by omega) (by omega), yN (by omega) (by omega), yN (by omega) (by omega), yN (by omega) (by omega), yN (by omega) (by omega)]
theorem Eo {Q : List (BitVec 64)} {y x : Nat} (hy : y % 5 = 0) (hx : x < 5) : at0 (pK Q y) x ^^^ (~~~ (at0 (pK Q y) ((x + 1) % 5)) &&& at0 (pK Q y) ((x + 2) % 5)) = LQ Q (y + x) := by
 unfold LQ
 rw [KV hx, KV (by omega), KV (by omega), show (y + x) / 5 * 5 = y from by omega, show (y + x) % 5 = x from by omega]
theorem It {fn : Func} {tmps : Array Value} {P : Program} {w : World} (h : fn.results = #[]) : (results fn tmps).run P w = .ok (.tuple #[]) w := by simp [results, h]
theorem VW {w0 w : World} {F0 F : Fz} {L0 : List Blk} {M0 : List RowP} {rb r : Nat} {Z : List (BitVec 64)} (S : St w0 F0 w F (⟨rb, Z.map aS, 217⟩ :: L0) M0) (hl : Z.length = 25) (hT : Tabs w0) (hr : r < 24) :
    Calls Tryz.prog 138 #[.pointer (some ⟨rb, 0, none⟩), .int .i64 ((r : Nat) : Int)] w fun e w' => e = .returned (.tuple #[]) ∧ St w0 F0 w' F (⟨rb, (GU Z r).map aS, 217⟩ :: L0) M0 := by
 go_enter Tryz.func138, Tryz.ntmps138
 refine sk fun K1 hK1 => ?_
 refine sA S (NL _) fun n2 w3 S4 => ?_
 refine wn hK1 ?_
 refine aE fun K5 hK5 => ?_
 refine sk fun K6 hK6 => ?_
 refine dx ?_
 refine wn hK6 ?_
 refine aN ?_
 have S4 : St w0 F0 w3 F (⟨n2, ((cL Z 0).map aS), 233⟩ :: ⟨rb, (Z.map aS), 217⟩ :: L0) (M0) := by rw [Ek]; exact S4
 refine aX (fun mm aa w8 => ∃ (k1 : Nat) (u7 : Nat → Value), mm = 5 - k1 ∧ u7 = dX aa ∧ aa = ⟨([(pP rb 0), (nI r), undef, undef, (pP n2 0), (u7 5)] ++ (udF 8 ([(nI k1)] ++ (usF u7 15 38 (udF 98 []))))).toArray, []⟩ ∧ St w0 F0 w8 F (⟨n2, ((cL Z k1).map aS), 233⟩ :: ⟨rb, (Z.map aS), 217⟩ :: L0) (M0) ∧ (k1 ≤ 5)) _ ⟨0, _, rfl, rfl, rfl, S4, (by omega)⟩ ?_
 rintro m9 k6 h5 ⟨k1, u7, rfl, -, hfr, a5, hk1⟩ k7 d5
 simp only [uzF, Nat.reduceAdd] at hfr; subst hfr
 refine sk fun k8 b7 => ?_
 by_cases h6 : k1 < 5
 refine eS ?_
 simp only [pq]
 refine wn b7 ?_
 refine aE fun k9 d6 => ?_
 refine aI ?_
 refine aH ?_
 refine d6 _ _ ?_
 refine aE fun l0 d7 => ?_
 refine aN ?_
 refine sk fun l1 d8 => ?_
 refine aC ?_
 refine wn d8 ?_
 refine aP F 34 [] (by kernel_rfl) (by kernel_rfl) ?_
 simp only [dA]
 refine gm ?_
 simp only [pq]
 iterate 2 refine gm ?_
 refine gi ?_
 simp only [pq]
 refine gv (pP rb k1) (fun _ _ => gN (i := k1) Tryz.underlying217 (dC _) rfl rfl (by omega)) ?_
 refine gv _ (fun _ a6 => aD rfl (aQ (fW _) (St.cell (St.tells a5 a6) (i := 1) rfl (fX (Nat.lt_of_lt_of_eq (show k1 < 25 by omega) hl.symm))))) ?_
 refine gm ?_
 simp only [pq]
 refine gm ?_
 refine gv (nI (k1 + 5)) (fun _ _ => gG (m := ((k1 : Nat) : Int)) (n := (5 : Int)) (r := (((k1 + 5) : Nat) : Int)) rfl rfl (by omega) (by omega) (by omega)) ?_
 refine gi ?_
 simp only [pq]
 refine gv (pP rb ((k1 + 5))) (fun _ _ => gN (i := (k1 + 5)) Tryz.underlying217 (dC _) rfl rfl (by omega)) ?_
 refine gv _ (fun _ a6 => aD rfl (aQ (fW _) (St.cell (St.tells a5 a6) (i := 1) rfl (fX (Nat.lt_of_lt_of_eq (show (k1 + 5) < 25 by omega) hl.symm))))) ?_
 refine gv (aS ((at0 Z k1) ^^^ (at0 Z (k1 + 5)))) (fun _ _ => oC rfl rfl) ?_
 simp only [pq]
 iterate 2 refine gm ?_
 refine gv (nI (k1 + 10)) (fun _ _ => gG (m := ((k1 : Nat) : Int)) (n := (10 : Int)) (r := (((k1 + 10) : Nat) : Int)) rfl rfl (by omega) (by omega) (by omega)) ?_
 simp only [pq]
 refine gi ?_
 refine gv (pP rb ((k1 + 10))) (fun _ _ => gN (i := (k1 + 10)) Tryz.underlying217 (dC _) rfl rfl (by omega)) ?_
 refine gv _ (fun _ a6 => aD rfl (aQ (fW _) (St.cell (St.tells a5 a6) (i := 1) rfl (fX (Nat.lt_of_lt_of_eq (show (k1 + 10) < 25 by omega) hl.symm))))) ?_
 simp only [pq]
 refine gv (aS (((at0 Z k1) ^^^ (at0 Z (k1 + 5))) ^^^ (at0 Z (k1 + 10)))) (fun _ _ => oC rfl rfl) ?_
 iterate 2 refine gm ?_
 simp only [pq]
 refine gv (nI (k1 + 15)) (fun _ _ => gG (m := ((k1 : Nat) : Int)) (n := (15 : Int)) (r := (((k1 + 15) : Nat) : Int)) rfl rfl (by omega) (by omega) (by omega)) ?_
 refine gi ?_
 refine gv (pP rb ((k1 + 15))) (fun _ _ => gN (i := (k1 + 15)) Tryz.underlying217 (dC _) rfl rfl (by omega)) ?_
 simp only [pq]
 refine gv _ (fun _ a6 => aD rfl (aQ (fW _) (St.cell (St.tells a5 a6) (i := 1) rfl (fX (Nat.lt_of_lt_of_eq (show (k1 + 15) < 25 by omega) hl.symm))))) ?_
 refine gv (aS ((((at0 Z k1) ^^^ (at0 Z (k1 + 5))) ^^^ (at0 Z (k1 + 10))) ^^^ (at0 Z (k1 + 15)))) (fun _ _ => oC rfl rfl) ?_
 refine gm ?_
 simp only [pq]
 refine gm ?_
 refine gv (nI (k1 + 20)) (fun _ _ => gG (m := ((k1 : Nat) : Int)) (n := (20 : Int)) (r := (((k1 + 20) : Nat) : Int)) rfl rfl (by omega) (by omega) (by omega)) ?_
 refine gi ?_
 simp only [pq]
 refine gv (pP rb ((k1 + 20))) (fun _ _ => gN (i := (k1 + 20)) Tryz.underlying217 (dC _) rfl rfl (by omega)) ?_
 refine gv _ (fun _ a6 => aD rfl (aQ (fW _) (St.cell (St.tells a5 a6) (i := 1) rfl (fX (Nat.lt_of_lt_of_eq (show (k1 + 20) < 25 by omega) hl.symm))))) ?_
 refine gv (aS (((((at0 Z k1) ^^^ (at0 Z (k1 + 5))) ^^^ (at0 Z (k1 + 10))) ^^^ (at0 Z (k1 + 15))) ^^^ (at0 Z (k1 + 20)))) (fun _ _ => oC rfl rfl) ?_
 simp only [pq]
 refine bU ?_
 intro l2 d9 e0
 clear e0
 have h7 := St.tells a5 d9
 simp only [dB]
 refine dr (pP n2 k1) (gN (i := k1) Tryz.underlying233 (dC _) rfl rfl (by omega)) ?_
 refine fZ (i := 0) (v := aS (((((at0 Z k1) ^^^ (at0 Z (k1 + 5))) ^^^ (at0 Z (k1 + 10))) ^^^ (at0 Z (k1 + 15))) ^^^ (at0 Z (k1 + 20)))) h7 rfl rfl rfl rfl (rF) (mL rfl) (by rw [zZm, (KU _ _)]; show k1 + 1 ≤ 5; omega) (fun h0 b0 => ?_)
 simp only [pq]
 have b0 : St w0 F0 h0 F (⟨n2, (cK ((cL Z k1).map aS) k1 [aS (((((at0 Z k1) ^^^ (at0 Z (k1 + 5))) ^^^ (at0 Z (k1 + 10))) ^^^ (at0 Z (k1 + 15))) ^^^ (at0 Z (k1 + 20)))]), 233⟩ :: ⟨rb, (Z.map aS), 217⟩ :: L0) (M0) := b0
 rw [oG (Nat.lt_of_lt_of_eq (show k1 < 5 by omega) (KU _ _).symm)] at b0
 have b0 : St w0 F0 h0 F (⟨n2, (((cL Z k1).set k1 (XR Z k1)).map aS), 233⟩ :: ⟨rb, (Z.map aS), 217⟩ :: L0) (M0) := b0
 rw [Ej Z (by omega)] at b0
 refine wlK d7 ?_
 refine aB ?_
 refine cR (k1 + 1) ?_
 refine dx ?_
 refine aG ?_
 exact d5 _ _ _ (by omega) ⟨(k1 + 1), _, rfl, rfl, rfl, b0, (by omega)⟩
 refine eM ?_
 simp only [pq]
 refine wn b7 ?_
 refine aE fun l3 h8 => ?_
 refine aF ?_
 refine cP ?_
 refine hK5 _ _ ?_
 refine aE fun l4 e1 => ?_
 refine aE fun l5 e2 => ?_
 obtain rfl : k1 = 5 := by omega
 refine aB ?_
 refine dx ?_
 refine wlK e2 ?_
 refine aN ?_
 have a5 : St w0 F0 h5 F (⟨n2, ((cL Z 5).map aS), 233⟩ :: ⟨rb, ((thL Z (cL Z 5) 0).map aS), 217⟩ :: L0) (M0) := by rw [ZQ hl]; exact a5
 refine aX (fun mm aa h9 => ∃ (k2 : Nat) (a1 : Nat → Value), mm = 25 - k2 ∧ a1 = dX aa ∧ aa = ⟨([(pP rb 0), (nI r), undef, undef, (pP n2 0), (u7 5), (a1 6), (a1 7)] ++ (udF 6 ([(iI 5), bF] ++ (usF u7 16 37 ([(nI k2)] ++ (usF a1 54 25 (udF 72 []))))))).toArray, []⟩ ∧ St w0 F0 h9 F (⟨n2, ((cL Z 5).map aS), 233⟩ :: ⟨rb, ((thL Z (cL Z 5) k2).map aS), 217⟩ :: L0) (M0) ∧ (k2 ≤ 25)) _ ⟨0, _, rfl, rfl, rfl, a5, (by omega)⟩ ?_
 rintro l6 l7 l8 ⟨k2, a1, rfl, -, hfr, a7, hk2⟩ l9 e3
 simp only [uzF, Nat.reduceAdd] at hfr; subst hfr
 refine sk fun m0 b9 => ?_
 by_cases i0 : k2 < 25
 refine eS ?_
 refine wn b9 ?_
 refine aE fun m1 e4 => ?_
 refine aI ?_
 refine aH ?_
 refine e4 _ _ ?_
 refine aE fun m2 e5 => ?_
 refine aN ?_
 refine sk fun m3 e6 => ?_
 refine aC ?_
 refine wn e6 ?_
 refine sk fun m4 e7 => ?_
 refine dx ?_
 refine dr (nI (k2 % 5)) (qC (m := k2) (n := 5) rfl rfl (by decide) (by omega)) ?_
 refine dy ?_
 simp only [pq]
 refine wn e7 ?_
 refine aP F 19 [(15, .is (aS (pU (at0 (cL Z 5) (((k2 % 5) + 1) % 5)) 1)))] (by kernel_rfl) (by kernel_rfl) ?_
 simp only [dA]
 iterate 2 refine gm ?_
 refine gi ?_
 simp only [pq]
 refine gv (pP rb k2) (fun _ _ => gN (i := k2) Tryz.underlying217 (dC _) rfl rfl (by omega)) ?_
 refine gv _ (fun _ b6 => aD rfl (aQ (fW _) (St.cell (St.tells a7 b6) (i := 1) rfl (fX (Nat.lt_of_lt_of_eq (show k2 < 25 by omega) (CF _ _ _).symm))))) ?_
 refine gm ?_
 simp only [pq]
 refine gv (nI ((k2 % 5) + 4)) (fun _ _ => gG (m := (((k2 % 5) : Nat) : Int)) (n := (4 : Int)) (r := ((((k2 % 5) + 4) : Nat) : Int)) rfl rfl (by omega) (by omega) (by omega)) ?_
 refine gv (.int .i64 (((((k2 % 5) + 4) % 5) : Nat) : Int)) (fun _ _ => qC (m := ((k2 % 5) + 4)) (n := 5) rfl rfl (by decide) (by omega)) ?_
 refine gv (pP n2 ((((k2 % 5) + 4) % 5))) (fun _ _ => gN (i := (((k2 % 5) + 4) % 5)) Tryz.underlying233 (dC _) rfl rfl (by omega)) ?_
 simp only [pq]
 refine gv _ (fun _ b6 => aD rfl (aQ (fW _) (St.cell (St.tells a7 b6) (i := 0) rfl (fX (Nat.lt_of_lt_of_eq (show (((k2 % 5) + 4) % 5) < 5 by omega) (KU _ _).symm))))) ?_
 refine gm ?_
 refine gv (nI ((k2 % 5) + 1)) (fun _ _ => gG (m := (((k2 % 5) : Nat) : Int)) (n := (1 : Int)) (r := ((((k2 % 5) + 1) : Nat) : Int)) rfl rfl (by omega) (by omega) (by omega)) ?_
 simp only [pq]
 refine gv (.int .i64 (((((k2 % 5) + 1) % 5) : Nat) : Int)) (fun _ _ => qC (m := ((k2 % 5) + 1)) (n := 5) rfl rfl (by decide) (by omega)) ?_
 refine gv (pP n2 ((((k2 % 5) + 1) % 5))) (fun _ _ => gN (i := (((k2 % 5) + 1) % 5)) Tryz.underlying233 (dC _) rfl rfl (by omega)) ?_
 refine gv _ (fun _ b6 => aD rfl (aQ (fW _) (St.cell (St.tells a7 b6) (i := 0) rfl (fX (Nat.lt_of_lt_of_eq (show (((k2 % 5) + 1) % 5) < 5 by omega) (KU _ _).symm))))) ?_
 simp only [pq]
 refine fT rfl rfl (v := (aS (pU (at0 (cL Z 5) (((k2 % 5) + 1) % 5)) 1))) (fun m5 b6 _ => bQ (cB (vs := #[(aS (at0 (cL Z 5) (((k2 % 5) + 1) % 5))), (iI 1)]) (gK rfl rfl) rfl (TM _ _)) (fE (HZ _ (at0 (cL Z 5) (((k2 % 5) + 1) % 5)) 1 (by decide) (by decide)))) ?_
 refine gv (aS ((at0 (cL Z 5) (((k2 % 5) + 4) % 5)) ^^^ (pU (at0 (cL Z 5) (((k2 % 5) + 1) % 5)) 1))) (fun _ _ => oC rfl rfl) ?_
 refine gv (aS ((at0 (thL Z (cL Z 5) k2) k2) ^^^ ((at0 (cL Z 5) (((k2 % 5) + 4) % 5)) ^^^ (pU (at0 (cL Z 5) (((k2 % 5) + 1) % 5)) 1)))) (fun _ _ => oC rfl rfl) ?_
 refine gi ?_
 simp only [pq]
 refine bU ?_
 intro m6 e8 e9
 clear e9
 have i1 := St.tells a7 e8
 simp only [dB]
 refine dr (pP rb k2) (gN (i := k2) Tryz.underlying217 (dC _) rfl rfl (by omega)) ?_
 refine fZ (i := 1) (v := aS ((at0 (thL Z (cL Z 5) k2) k2) ^^^ ((at0 (cL Z 5) (((k2 % 5) + 4) % 5)) ^^^ (pU (at0 (cL Z 5) (((k2 % 5) + 1) % 5)) 1)))) i1 rfl rfl rfl rfl (rF) (mL rfl) (by rw [zZm, (CF _ _ _)]; show k2 + 1 ≤ 25; omega) (fun h1 a8 => ?_)
 simp only [pq]
 have a8 : St w0 F0 h1 F (⟨n2, ((cL Z 5).map aS), 233⟩ :: ⟨rb, (cK ((thL Z (cL Z 5) k2).map aS) k2 [aS ((at0 (thL Z (cL Z 5) k2) k2) ^^^ ((at0 (cL Z 5) (((k2 % 5) + 4) % 5)) ^^^ (pU (at0 (cL Z 5) (((k2 % 5) + 1) % 5)) 1)))]), 217⟩ :: L0) (M0) := a8
 rw [oG (Nat.lt_of_lt_of_eq (show k2 < 25 by omega) (CF _ _ _).symm)] at a8
 rw [Hv (S := Z) (C := (cL Z 5)) (i := k2) (by omega)] at a8
 have a8 : St w0 F0 h1 F (⟨n2, ((cL Z 5).map aS), 233⟩ :: ⟨rb, (((thL Z (cL Z 5) k2).set k2 (Gg Z (cL Z 5) k2)).map aS), 217⟩ :: L0) (M0) := a8
 rw [ZS Z _ (by omega)] at a8
 refine wlK e5 ?_
 refine aB ?_
 refine cR (k2 + 1) ?_
 refine dx ?_
 refine aG ?_
 exact e3 _ _ _ (by omega) ⟨(k2 + 1), _, rfl, rfl, rfl, a8, (by omega)⟩
 refine eM ?_
 simp only [pq]
 refine wn b9 ?_
 refine aE fun m7 i2 => ?_
 refine aF ?_
 refine cP ?_
 refine e1 _ _ ?_
 refine aE fun m8 f0 => ?_
 obtain rfl : k2 = 25 := by omega
 obtain ⟨A, hA⟩ : ∃ A, A = thL Z (cL Z 5) 25 := ⟨_, rfl⟩
 have hAl : A.length = 25 := by rw [hA]; exact CF _ _ _
 rw [← hA] at a7
 refine aB ?_
 refine aC ?_
 refine dr (pP rb 1) (gN (i := 1) Tryz.underlying217 (dC _) rfl rfl (by omega)) ?_
 simp only [pq]
 refine dr _ (aD rfl (aQ (fW _) (St.cell a7 (i := 1) rfl (fX (Nat.lt_of_lt_of_eq (show 1 < 25 by omega) hAl.symm))))) ?_
 refine dy ?_
 refine wlK f0 ?_
 refine aE fun n0 f1 => ?_
 refine sk fun n1 f2 => ?_
 refine dr (.agg AP) (aD rfl (VS (hT.at a7.gr.below))) ?_
 refine dx ?_
 simp only [pq]
 refine wn f2 ?_
 refine aN ?_
 refine aX (fun mm aa i3 => ∃ (k3 : Nat) (a2 : Nat → Value), mm = 24 - k3 ∧ a2 = dX aa ∧ aa = ⟨([(pP rb 0), (nI r), undef, undef, (pP n2 0), (u7 5), (a1 6), (a1 7), (aS (rM A k3).2), (a2 9), (a2 10), undef, undef, undef, (iI 5), bF] ++ (usF u7 16 37 ([(iI 25), bF] ++ (usF a1 55 24 ([(pP rb 0), (pP rb 0), (pP rb 1), (aS (at0 A 1)), (.agg AP), (nI k3)] ++ (usF a2 85 18 (udF 48 []))))))).toArray, []⟩ ∧ St w0 F0 i3 F (⟨n2, ((cL Z 5).map aS), 233⟩ :: ⟨rb, ((rM A k3).1.map aS), 217⟩ :: L0) (M0) ∧ (k3 ≤ 24)) _ ⟨0, _, rfl, rfl, rfl, a7, (by omega)⟩ ?_
 rintro n3 n4 i4 ⟨k3, a2, rfl, -, hfr, b1, hk3⟩ n5 f3
 simp only [uzF, Nat.reduceAdd] at hfr; subst hfr
 refine sk fun n6 c0 => ?_
 by_cases i5 : k3 < 24
 refine eS ?_
 refine wn c0 ?_
 refine aE fun n7 f4 => ?_
 refine aI ?_
 refine aH ?_
 refine f4 _ _ ?_
 refine aE fun n8 f5 => ?_
 refine aN ?_
 refine aE fun n9 f6 => ?_
 have hgo := ZP k3 (by omega)
 refine aB ?_
 refine dx ?_
 refine dr (nI (mK k3)) (Hw (i := k3) Tryz.underlying235 (fI _) rfl rfl (by omega) (bM _) (Ei (by omega))) ?_
 refine aC ?_
 refine wlK f6 ?_
 refine aP F 13 [(6, .is (aS (pU ((rM A k3).2) (nM k3))))] (by kernel_rfl) (by kernel_rfl) ?_
 simp only [dA]
 iterate 2 refine gm ?_
 simp only [pq]
 iterate 2 refine gm ?_
 refine gv (pP 3 k3) (fun _ _ => gN (i := k3) Tryz.underlying235 (fI _) rfl rfl (by omega)) ?_
 simp only [pq]
 refine gv _ (fun _ d2 => aD rfl (aQ (bM _) (((hT.at (St.tells b1 d2).gr.below).2.1 k3 (by omega))))) ?_
 simp only [pq]
 refine fT rfl rfl (v := (aS (pU ((rM A k3).2) (nM k3)))) (fun o0 d2 _ => bQ (cB (vs := #[(aS (rM A k3).2), (nI (nM k3))]) (gK rfl rfl) rfl (TM _ _)) (fE (HZ _ ((rM A k3).2) (nM k3) (IA _ (by omega)).1 (IA _ (by omega)).2))) ?_
 iterate 2 refine gm ?_
 refine gi ?_
 simp only [pq]
 refine gv (pP rb ((mK k3))) (fun _ _ => gN (i := (mK k3)) Tryz.underlying217 (dC _) rfl rfl (by omega)) ?_
 refine gv _ (fun _ d2 => aD rfl (aQ (fW _) (St.cell (St.tells b1 d2) (i := 1) rfl (fX (Nat.lt_of_lt_of_eq (show (mK k3) < 25 by omega) (uI hAl _).symm))))) ?_
 refine gi ?_
 simp only [pq]
 refine bU ?_
 intro o1 f7 f8
 clear f8
 have i6 := St.tells b1 f7
 simp only [dB]
 refine dr (pP rb ((mK k3))) (gN (i := (mK k3)) Tryz.underlying217 (dC _) rfl rfl (by omega)) ?_
 refine fZ (i := 1) (v := aS (pU ((rM A k3).2) (nM k3))) i6 rfl rfl rfl rfl (rF) (mL rfl) (by rw [zZm, (uI hAl _)]; show (mK k3) + 1 ≤ 25; omega) (fun i7 c1 => ?_)
 simp only [pq]
 have c1 : St w0 F0 i7 F (⟨n2, ((cL Z 5).map aS), 233⟩ :: ⟨rb, (cK (((rM A k3).1).map aS) (mK k3) [aS (pU ((rM A k3).2) (nM k3))]), 217⟩ :: L0) (M0) := c1
 rw [oG (Nat.lt_of_lt_of_eq (show (mK k3) < 25 by omega) (uI hAl _).symm)] at c1
 rw [En] at c1
 refine dy ?_
 refine wlK f5 ?_
 refine aB ?_
 refine cR (k3 + 1) ?_
 refine dx ?_
 simp only [pq]
 refine aG ?_
 exact f3 _ _ _ (by omega) ⟨(k3 + 1), _, rfl, rfl, rfl, c1, (by omega)⟩
 refine eM ?_
 refine wn c0 ?_
 refine aE fun o2 i8 => ?_
 refine aF ?_
 refine cP ?_
 refine f1 _ _ ?_
 refine aE fun o3 f9 => ?_
 refine aE fun o4 g0 => ?_
 obtain rfl : k3 = 24 := by omega
 obtain ⟨Q, hQ⟩ : ∃ Q, Q = (rM A 24).1 := ⟨_, rfl⟩
 have hQl : Q.length = 25 := by rw [hQ]; exact uI hAl _
 rw [← hQ] at b1
 refine aB ?_
 refine dy ?_
 refine wlK g0 ?_
 refine aN ?_
 have b1 : St w0 F0 i4 F (⟨n2, ((cL Z 5).map aS), 233⟩ :: ⟨rb, ((kU Q 0).map aS), 217⟩ :: L0) (M0) := by rw [VT hQl]; exact b1
 refine aX (fun mm aa i9 => ∃ (y : Nat) (b2 : Nat → Value), mm = 25 - y ∧ b2 = dX aa ∧ aa = ⟨([(pP rb 0), (nI r), undef, undef, (pP n2 0), (u7 5), (a1 6), (a1 7), (aS (rM A 24).2), (a2 9), (a2 10), (nI y), (b2 12), (b2 13), (iI 5), bF] ++ (usF u7 16 37 ([(iI 25), bF] ++ (usF a1 55 24 ([(pP rb 0), (pP rb 0), (pP rb 1), (aS (at0 A 1)), (.agg AP), (iI 24), bF] ++ (usF a2 86 17 (usF b2 103 38 (udF 10 [])))))))).toArray, []⟩ ∧ St w0 F0 i9 F (⟨n2, ((cL Z 5).map aS), 233⟩ :: ⟨rb, ((kU Q y).map aS), 217⟩ :: L0) (M0) ∧ (y % 5 = 0) ∧ (y ≤ 25)) _ ⟨0, _, rfl, rfl, rfl, b1, (by omega), (by omega)⟩ ?_
 rintro o5 o6 o7 ⟨y, b2, rfl, -, hfr, c2, hy5, j0⟩ o8 g1
 simp only [uzF, Nat.reduceAdd] at hfr; subst hfr
 refine aE fun o9 g2 => ?_
 refine sk fun p0 c3 => ?_
 refine dx ?_
 simp only [pq]
 by_cases h2 : y < 25
 refine eS ?_
 refine wn c3 ?_
 refine aI ?_
 refine aH ?_
 refine g2 _ _ ?_
 refine aE fun p1 g3 => ?_
 refine aN ?_
 refine sk fun p2 g4 => ?_
 refine aC ?_
 refine cR (y + 5) ?_
 refine dr (.slice (aA rb y) ((y + 5) - y) (25 - y)) (VV (l := y) (h := (y + 5)) Tryz.underlying217 rfl (dC _) rfl rfl (by omega) (by omega) (by omega)) ?_
 simp only [pq]
 refine dr (pP rb y) (Hx Tryz.underlying233 rfl (by omega)) ?_
 refine dr (.agg #[(aS (at0 (kU Q y) y)), (aS (at0 (kU Q y) (y + 1))), (aS (at0 (kU Q y) (y + 2))), (aS (at0 (kU Q y) (y + 3))), (aS (at0 (kU Q y) (y + 4)))]) (aD rfl (ZU (St.cellsAt c2 (i := 1) rfl) (show y + 5 ≤ (kU Q y).length from by rw [(rG _ _)]; omega))) ?_
 refine sA c2 (NL _) fun b3 p3 j1 => ?_
 simp only [pq]
 refine sW 0 j1 (ZO) fun j2 d3 => ?_
 refine wn g4 ?_
 refine sk fun p4 g5 => ?_
 refine dx ?_
 refine wn g5 ?_
 refine aN ?_
 have d3 : St w0 F0 j2 F (⟨b3, ((pK (kU Q y) y).map aS), 233⟩ :: ⟨n2, ((cL Z 5).map aS), 233⟩ :: ⟨rb, ((kU Q y).map aS), 217⟩ :: L0) (M0) := d3
 rw [ZV (by omega)] at d3
 refine aX (fun mm aa j3 => ∃ (k5 : Nat) (d4 : Nat → Value), mm = 5 - k5 ∧ d4 = dX aa ∧ aa = ⟨([(pP rb 0), (nI r), undef, undef, (pP n2 0), (u7 5), (a1 6), (a1 7), (aS (rM A 24).2), (a2 9), (a2 10), (nI y), (pP b3 0), (d4 13), (iI 5), bF] ++ (usF u7 16 37 ([(iI 25), bF] ++ (usF a1 55 24 ([(pP rb 0), (pP rb 0), (pP rb 1), (aS (at0 A 1)), (.agg AP), (iI 24), bF] ++ (usF a2 86 17 ([(nI y), bT, (b2 105), (b2 106), (pP rb 0), (pP rb 0), (nI y), (nI y), (nI (y + 5)), (.slice (aA rb y) ((y + 5) - y) (25 - y)), (pP rb y), (.agg #[(aS (at0 (kU Q y) y)), (aS (at0 (kU Q y) (y + 1))), (aS (at0 (kU Q y) (y + 2))), (aS (at0 (kU Q y) (y + 3))), (aS (at0 (kU Q y) (y + 4)))]), (nI k5)] ++ (usF d4 116 25 (udF 10 []))))))))).toArray, []⟩ ∧ St w0 F0 j3 F (⟨b3, ((pK Q y).map aS), 233⟩ :: ⟨n2, ((cL Z 5).map aS), 233⟩ :: ⟨rb, ((kU Q (y + k5)).map aS), 217⟩ :: L0) (M0) ∧ (k5 ≤ 5)) _ ⟨0, _, rfl, rfl, rfl, d3, (by omega)⟩ ?_
 rintro p5 p6 p7 ⟨k5, d4, rfl, -, hfr, b4, hk5⟩ j4 c4
 simp only [uzF, Nat.reduceAdd] at hfr; subst hfr
 refine sk fun j5 a9 => ?_
 by_cases h3 : k5 < 5
 refine eS ?_
 simp only [pq]
 refine wn a9 ?_
 refine aE fun j6 c5 => ?_
 refine aI ?_
 refine aH ?_
 refine c5 _ _ ?_
 refine aE fun j7 c6 => ?_
 refine aN ?_
 refine sk fun j8 c7 => ?_
 refine aC ?_
 refine wn c7 ?_
 refine aP F 21 [] (by kernel_rfl) (by kernel_rfl) ?_
 simp only [dA]
 refine gm ?_
 simp only [pq]
 iterate 2 refine gm ?_
 refine gv (nI (y + k5)) (fun _ _ => gG (m := ((y : Nat) : Int)) (n := ((k5 : Nat) : Int)) (r := (((y + k5) : Nat) : Int)) rfl rfl (by omega) (by omega) (by omega)) ?_
 simp only [pq]
 refine gm ?_
 refine gv (pP b3 k5) (fun _ _ => gN (i := k5) Tryz.underlying233 (dC _) rfl rfl (by omega)) ?_
 refine gv _ (fun _ a3 => aD rfl (aQ (fW _) (St.cell (St.tells b4 a3) (i := 0) rfl (fX (Nat.lt_of_lt_of_eq (show k5 < 5 by omega) (ET _ _).symm))))) ?_
 simp only [pq]
 refine gm ?_
 refine gv (nI (k5 + 1)) (fun _ _ => gG (m := ((k5 : Nat) : Int)) (n := (1 : Int)) (r := (((k5 + 1) : Nat) : Int)) rfl rfl (by omega) (by omega) (by omega)) ?_
 refine gv (nI ((k5 + 1) % 5)) (fun _ _ => qC (m := (k5 + 1)) (n := 5) rfl rfl (by decide) (by omega)) ?_
 simp only [pq]
 refine gv (pP b3 (((k5 + 1) % 5))) (fun _ _ => gN (i := ((k5 + 1) % 5)) Tryz.underlying233 (dC _) rfl rfl (by omega)) ?_
 refine gv _ (fun _ a3 => aD rfl (aQ (fW _) (St.cell (St.tells b4 a3) (i := 0) rfl (fX (Nat.lt_of_lt_of_eq (show ((k5 + 1) % 5) < 5 by omega) (ET _ _).symm))))) ?_
 refine gv (aS (~~~ (at0 (pK Q y) ((k5 + 1) % 5)))) (fun _ _ => Em rfl) ?_
 simp only [pq]
 refine gm ?_
 refine gv (nI (k5 + 2)) (fun _ _ => gG (m := ((k5 : Nat) : Int)) (n := (2 : Int)) (r := (((k5 + 2) : Nat) : Int)) rfl rfl (by omega) (by omega) (by omega)) ?_
 refine gv (nI ((k5 + 2) % 5)) (fun _ _ => qC (m := (k5 + 2)) (n := 5) rfl rfl (by decide) (by omega)) ?_
 simp only [pq]
 refine gv (pP b3 (((k5 + 2) % 5))) (fun _ _ => gN (i := ((k5 + 2) % 5)) Tryz.underlying233 (dC _) rfl rfl (by omega)) ?_
 refine gv _ (fun _ a3 => aD rfl (aQ (fW _) (St.cell (St.tells b4 a3) (i := 0) rfl (fX (Nat.lt_of_lt_of_eq (show ((k5 + 2) % 5) < 5 by omega) (ET _ _).symm))))) ?_
 refine gv (aS ((~~~ (at0 (pK Q y) ((k5 + 1) % 5))) &&& (at0 (pK Q y) ((k5 + 2) % 5)))) (fun _ _ => El rfl rfl) ?_
 simp only [pq]
 refine gv (aS ((at0 (pK Q y) k5) ^^^ ((~~~ (at0 (pK Q y) ((k5 + 1) % 5))) &&& (at0 (pK Q y) ((k5 + 2) % 5))))) (fun _ _ => oC rfl rfl) ?_
 refine gi ?_
 refine bU ?_
 intro j9 c8 c9
 clear c9
 have g6 := St.tells b4 c8
 simp only [dB]
 refine dr (pP rb ((y + k5))) (gN (i := (y + k5)) Tryz.underlying217 (dC _) rfl rfl (by omega)) ?_
 simp only [pq]
 refine fZ (i := 2) (v := aS ((at0 (pK Q y) k5) ^^^ ((~~~ (at0 (pK Q y) ((k5 + 1) % 5))) &&& (at0 (pK Q y) ((k5 + 2) % 5))))) g6 rfl rfl rfl rfl (rF) (mL rfl) (by rw [zZm, (rG _ _)]; show (y + k5) + 1 ≤ 25; omega) (fun g7 a4 => ?_)
 simp only [pq]
 have a4 : St w0 F0 g7 F (⟨b3, ((pK Q y).map aS), 233⟩ :: ⟨n2, ((cL Z 5).map aS), 233⟩ :: ⟨rb, (cK ((kU Q (y + k5)).map aS) (y + k5) [aS ((at0 (pK Q y) k5) ^^^ ((~~~ (at0 (pK Q y) ((k5 + 1) % 5))) &&& (at0 (pK Q y) ((k5 + 2) % 5))))]), 217⟩ :: L0) (M0) := a4
 rw [oG (Nat.lt_of_lt_of_eq (show (y + k5) < 25 by omega) (rG _ _).symm)] at a4
 rw [Eo hy5 (by omega), VU Q (by omega)] at a4
 refine wlK c6 ?_
 refine aB ?_
 refine cR (k5 + 1) ?_
 refine dx ?_
 refine aG ?_
 exact c4 _ _ _ (by omega) ⟨(k5 + 1), _, rfl, rfl, rfl, a4, (by omega)⟩
 refine eM ?_
 simp only [pq]
 refine wn a9 ?_
 refine aE fun k0 h4 => ?_
 refine aF ?_
 refine cP ?_
 refine g3 _ _ ?_
 obtain rfl : k5 = 5 := by omega
 refine aB ?_
 refine dx ?_
 refine cR (y + 5) ?_
 refine dy ?_
 simp only [pq]
 refine aG ?_
 have b4 := St.drop b4 (.cons _ (zZd _))
 exact g1 _ _ _ (by omega) ⟨(y + 5), _, rfl, rfl, rfl, b4, (by omega), (by omega)⟩
 refine eM ?_
 refine wn c3 ?_
 refine aF ?_
 refine cP ?_
 refine f9 _ _ ?_
 obtain rfl : y = 25 := by omega
 refine aP F 9 [] (by kernel_rfl) (by kernel_rfl) ?_
 simp only [dA]
 refine gm ?_
 refine gi ?_
 simp only [pq]
 refine gv (pP rb 0) (fun _ _ => gN (i := 0) Tryz.underlying217 (dC _) rfl rfl (by omega)) ?_
 refine gv _ (fun _ b5 => aD rfl (aQ (fW _) (St.cell (St.tells c2 b5) (i := 1) rfl (fX (Nat.lt_of_lt_of_eq (show 0 < 25 by omega) (rG _ _).symm))))) ?_
 refine gm ?_
 simp only [pq]
 refine gv (pP 4 r) (fun _ _ => gN (i := r) Tryz.underlying218 (dC _) rfl rfl (by omega)) ?_
 refine gv _ (fun _ b5 => aD rfl (aQ (fW _) (((hT.at (St.tells c2 b5).gr.below).2.2 r hr)))) ?_
 refine gv (aS ((at0 (kU Q 25) 0) ^^^ (yZ r))) (fun _ _ => oC rfl rfl) ?_
 simp only [pq]
 refine gi ?_
 refine bU ?_
 intro k4 d0 d1
 clear d1
 have g8 := St.tells c2 d0
 simp only [dB]
 refine dr (pP rb 0) (gN (i := 0) Tryz.underlying217 (dC _) rfl rfl (by omega)) ?_
 refine fZ (i := 1) (v := aS ((at0 (kU Q 25) 0) ^^^ (yZ r))) g8 rfl rfl rfl rfl (rF) (mL rfl) (by rw [zZm, (rG _ _)]; show 0 + 1 ≤ 25; omega) (fun g9 a0 => ?_)
 simp only [pq]
 have a0 : St w0 F0 g9 F (⟨n2, ((cL Z 5).map aS), 233⟩ :: ⟨rb, (cK ((kU Q 25).map aS) 0 [aS ((at0 (kU Q 25) 0) ^^^ (yZ r))]), 217⟩ :: L0) (M0) := a0
 rw [oG (Nat.lt_of_lt_of_eq (show 0 < 25 by omega) (rG _ _).symm)] at a0
 refine aG ?_
 try simp only [xt]
 refine bE (It rfl) ?_
 rw [ZT] at a0
 have a0 := St.drop a0 (.cons _ (zZd _))
 rw [hQ, hA, Hu] at a0
 exact ⟨rfl, a0⟩
theorem Iu {E base : Nat} {w : World} {F : Fz} {l : By} {a : Option Addr} {n c : Nat} (h : Own 1 ByC E base w F (.slice a n c) l) {i : Nat} {b : UInt8} (hp : l[i]? = some b) : ∃ g, a = some ⟨g, 0, none⟩ ∧ w.cell? ⟨g, 0 + i * 1, none⟩ = some (bv b) := by
 obtain ⟨g, cs, e, _, r, hr⟩ := h.at hp
 have r : cs = [bv b] := r
 subst r
 refine ⟨g, e, ?_⟩
 have := hr 0 _ rfl
 rw [Nat.zero_add]
 simpa using this
section
variable {P : Program} {ρ : Operand → Value} {w : World} {d : Option Tmp} {t X Y E : TypeId} {pos : String} {after : Array Edge} {guard : Option (Nat × Bool)} {x y : Operand}
theorem Iv (b : UInt8) : bits .or .u8 (b.toNat : Int) 128 = ((b ||| 128).toNat : Int) := by
 have e1 : BitVec.ofInt 8 (b.toNat : Int) = b.toBitVec := by rw [BitVec.ofInt_natCast]; simp
 have e2 : BitVec.ofInt 8 (128 : Int) = (128 : UInt8).toBitVec := by decide
 have e3 : (b ||| 128).toNat = (b.toBitVec ||| (128 : UInt8).toBitVec).toNat := by rw [← UInt8.toBitVec_or]; rfl
 have hlt := (b ||| 128).toNat_lt
 unfold bits
 show IntKind.u8.wrap (((BitVec.ofInt 8 (b.toNat : Int) ||| BitVec.ofInt 8 (128 : Int)).toNat : Nat) : Int) = _
 rw [e1, e2, ← e3, show IntKind.u8.wrap (((b ||| 128).toNat : Nat) : Int) = (((b ||| 128).toNat : Nat) : Int) % 256 from rfl]
 omega
theorem Hy {b : UInt8} (hx : ρ x = bv b) (hy : ρ y = .int .u8 128) : (execOp ρ ⟨d, .binOp .or X x y Y, t, pos, after, guard⟩).run P w = .ok (.value (bv (b ||| 128))) w := by
 refine kK hx hy ?_
 rw [eR _ (by simp)]
 show Result.ok (Value.int .u8 (bits .or .u8 (b.toNat : Int) 128)) w = _
 rw [Iv]; rfl
theorem TX {m n : Nat} (hx : ρ x = .int .i64 (m : Int)) (hy : ρ y = .int .i64 (n : Int)) (hn : 0 < n) (hm : m ≤ 9223372036854775807) : (execOp ρ ⟨d, .binOp .quo X x y Y, t, pos, after, guard⟩).run P w = .ok (.value (.int .i64 ((m / n : Nat) : Int))) w := by
 refine kK hx hy ?_
 rw [eR _ (by simp)]
 show (Op.intDiv .quo .i64 m n).run P w = _
 unfold Op.intDiv
 rw [zZa (by omega)]
 show Result.ok (Value.int .i64 (IntKind.i64.wrap (Int.tdiv (m : Int) (n : Int)))) w = _
 have hle : m / n ≤ m := Nat.div_le_self m n
 rw [Int.tdiv_eq_ediv_of_nonneg (by omega), ← Int.natCast_ediv]
 generalize m / n = q at *
 rw [kD (by omega) (by omega)]
theorem Ep {a : BitVec 64} {n : Nat} (hx : ρ x = aS a) (hy : ρ y = .int .i64 (n : Int)) (hn : n ≤ 64) : (execOp ρ ⟨d, .binOp .shl X x y Y, t, pos, after, guard⟩).run P w = .ok (.value (aS (a <<< n))) w := by
 have e : (eqGuard .shl X x y (.int .u64 (gW a)) (.int .i64 (n : Int))).run P w = .ok () w := rfl
 have h : (binOp .shl X (.int .u64 (gW a)) (.int .i64 (n : Int))).run P w = .ok (aS (a <<< n)) w := by
  show (Op.shift .shl .u64 (gW a) .i64 (n : Int)).run P w = _
  unfold Op.shift
  rw [zZa (by omega)]
  show Result.ok (Value.int .u64 (IntKind.u64.wrap (gW a * 2 ^ (min (n : Int).toNat 64)))) w = _
  rw [Int.toNat_natCast, Nat.min_eq_left hn, NJ]
 simp only [execOp, hx, hy, Sem.run_bind, e, Result.andThen_ok, h, Sem.run_pure]
theorem Es {a : BitVec 64} {n : Nat} (hx : ρ x = aS a) (hy : ρ y = .int .i64 (n : Int)) (hn : n ≤ 64) : (execOp ρ ⟨d, .binOp .shr X x y Y, t, pos, after, guard⟩).run P w = .ok (.value (aS (a >>> n))) w := by
 have e : (eqGuard .shr X x y (.int .u64 (gW a)) (.int .i64 (n : Int))).run P w = .ok () w := rfl
 have h : (binOp .shr X (.int .u64 (gW a)) (.int .i64 (n : Int))).run P w = .ok (aS (a >>> n)) w := by
  show (Op.shift .shr .u64 (gW a) .i64 (n : Int)).run P w = _
  unfold Op.shift
  rw [zZa (by omega)]
  show Result.ok (Value.int .u64 (Int.fdiv (gW a) (2 ^ (min (n : Int).toNat 64)))) w = _
  rw [Int.toNat_natCast, Nat.min_eq_left hn, Int.fdiv_eq_ediv_of_nonneg _ (show (0 : Int) ≤ 2 ^ n from Int.le_of_lt (Int.pow_pos (by decide))), NK]
 simp only [execOp, hx, hy, Sem.run_bind, e, Result.andThen_ok, h, Sem.run_pure]
theorem ZW (b : UInt8) (w : World) : (convert 5 215 (bv b)).run Tryz.prog w = .ok (aS (BitVec.ofNat 64 b.toNat)) w := by
 have : (convert 5 215 (bv b)).run Tryz.prog w = .ok (.int .u64 (IntKind.u64.wrap (b.toNat : Int))) w := by kernel_rfl
 have hb := b.toNat_lt
 have e : IntKind.u64.wrap (b.toNat : Int) = gW (BitVec.ofNat 64 b.toNat) := by
  rw [NI]; unfold gW; simp; omega
 rw [this, e]
theorem ZX (a : BitVec 64) (w : World) : (convert 215 5 (aS a)).run Tryz.prog w = .ok (bv (UInt8.ofNat (a.toNat % 256))) w := by
 have : (convert 215 5 (aS a)).run Tryz.prog w = .ok (.int .u8 (IntKind.u8.wrap (gW a))) w := by kernel_rfl
 have e : IntKind.u8.wrap (gW a) = ((UInt8.ofNat (a.toNat % 256)).toNat : Int) := by
  rw [show IntKind.u8.wrap (gW a) = gW a % 256 from rfl]; unfold gW; simp
 rw [this, e]; rfl
end
def eJ (b : By) (k : Nat) : By := (b ++ [6]) ++ List.replicate k 0
def eO (b : By) : Nat := (136 - (b.length + 1) % 136) % 136
theorem ZY (b : By) (k : Nat) : (eJ b k).length = b.length + 1 + k := by simp [eJ]; omega
theorem VX (b : By) (k : Nat) : eJ b k ++ [0] = eJ b (k + 1) := by
 unfold eJ
 rw [zZl, List.replicate_succ']
theorem VY (b : By) : b ++ [6] = eJ b 0 := by simp [eJ]
theorem Et {b : By} {x : UInt8} (h : (eJ b (eO b))[(eJ b (eO b)).length - 1]? = some x) : (eJ b (eO b)).set ((eJ b (eO b)).length - 1) (x ||| 128) = FT b := by
 have e : (eJ b (eO b)).getD ((eJ b (eO b)).length - 1) 0 = x := by rw [List.getD_eq_getElem?_getD, h]; rfl
 rw [← e]
 unfold FT eJ eO
 simp only [zZf, List.length_singleton]
theorem NO (b : By) : (FT b).length = b.length + 1 + eO b := by
 unfold FT eO
 simp only [List.length_set, zZf, List.length_singleton, List.length_replicate]
theorem CG (S : List (BitVec 64)) (p : By) : ∀ n, (sZ S p n).length = S.length := by
 intro n
 induction n with
 | zero => rfl
 | succ n ih => unfold sZ at *; rw [List.range_succ, List.foldl_append]; simpa using ih
theorem ZZ (S : List (BitVec 64)) {p : By} {n : Nat} {x : UInt8} (h : p[n]? = some x) : (sZ S p n).set (n / 8) (at0 (sZ S p n) (n / 8) ^^^ (BitVec.ofNat 64 x.toNat <<< (n % 8 * 8))) = sZ S p (n + 1) := by
 have e : p.getD n 0 = x := by rw [List.getD_eq_getElem?_getD, h]; rfl
 rw [← e]
 unfold sZ
 rw [List.range_succ, List.foldl_append]
 rfl
theorem VZ (S : List (BitVec 64)) (r : Nat) : (GU S r).length = 25 := by
 unfold GU
 simp [Cc, rL]
theorem EU (S : List (BitVec 64)) (n : Nat) : GU (nN S n) n = nN S (n + 1) := by
 unfold nN
 rw [List.range_succ, List.foldl_append]
 rfl
theorem IB {S : List (BitVec 64)} (h : S.length = 25) : ∀ n, (nN S n).length = 25
  | 0 => h
  | n + 1 => by rw [← EU]; exact VZ _ _
theorem NP {Z : List (BitVec 64)} {p : By} (h : 136 ≤ p.length) : nV Z p (p.length / 136) = nV (nN (sZ Z p 136) 24) (p.drop 136) ((p.drop 136).length / 136) := by
 rw [zZn, show p.length / 136 = (p.length - 136) / 136 + 1 from by omega]
 rfl
def Aa (Z : List (BitVec 64)) (i : Nat) : UInt8 := UInt8.ofNat ((at0 Z (i / 8) >>> (i % 8 * 8)).toNat % 256)
def yO (Z : List (BitVec 64)) (k : Nat) : By := (List.range 32).map fun i => if i < k then Aa Z i else 0
theorem NQ (Z : List (BitVec 64)) (k : Nat) : (yO Z k).length = 32 := by simp [yO]
theorem WA (Z : List (BitVec 64)) : yO Z 0 = List.replicate 32 0 := by unfold yO; rfl
theorem Ab (Z : List (BitVec 64)) : yO Z 32 = LR Z := by
 unfold yO LR
 exact List.map_congr_left fun i hi => by rw [zZb (List.mem_range.1 hi)]; rfl
theorem WB (Z : List (BitVec 64)) {k : Nat} (h : k < 32) : (yO Z k).set k (Aa Z k) = yO Z (k + 1) := by
 apply List.ext_getElem (by simp [yO])
 intro i h1 h2
 simp only [yO, List.getElem_set, List.getElem_map, List.getElem_range]
 by_cases e : k = i
 ·subst e; simp
 ·rw [zZa e]
  by_cases e2 : i < k
  ·rw [zZb e2, zZb (by omega)]
  ·rw [zZa e2, zZa (by omega)]
theorem WC {l : By} {j : Nat} {x : UInt8} (h : j < l.length) : cK (l.map bv) j [bv x] = (l.set j x).map bv := by
 unfold cK
 rw [List.map_set, List.set_eq_take_append_cons_drop, zZb (by simpa using h)]
 simp
theorem Ad (w : World) : (zeroValue 217).run Tryz.prog w = .ok (.agg ((List.replicate 25 (0 : BitVec 64)).map aS).toArray) w := by kernel_rfl
theorem Hz {P : Program} {w0 w : World} {F0 F : Fz} {rb : Nat} {T : TypeId} {L0 : List Blk} {M0 : List RowP} {Z : List (BitVec 64)} {ops : Array Oper} {Q : Exit → Act → World → Prop} {a : Act} {rest : List Oper} {o : Oper} {k : FuncId} {vs : Array Value} (hw : Region.wanted o (yielded ops a.tmps) = true)
    (hr : (execOp a.eval o).run P w = .ok (.enter k vs) w) (hc : Calls P k vs w fun e w' => e = .returned (.tuple #[]) ∧ St w0 F0 w' F (⟨rb, Z.map aS, T⟩ :: L0) M0)
    (h : ∀ w', St w0 F0 w' F (⟨rb, Z.map aS, T⟩ :: L0) M0 → WL P ops Q rest (a.put o.dst (.tuple #[])) w') : WL P ops Q (o :: rest) a w :=
  doC hw hr hc fun e w' ⟨he, hS⟩ => ⟨_, he, h w' hS⟩
theorem Sl.dropD {α : Type} {k : Nat} {R : Fz → List Value → α → Prop} {F : Fz} {a : Option Addr} {n c m : Nat} {l : List α} (hk : 0 < k) (h : Sl k R F (.slice a n c) l) (hm : m ≤ n) : Sl k R F (.slice (if c = m then a else a.map (·.add (m * k))) (n - m) (c - m)) (l.drop m) := by
 have hn := Sl.len h
 obtain ⟨el, h1, h2, h3⟩ := h
 obtain ⟨a0, c0, e1, q1, q2, q3, q4⟩ := h1
 injection e1 with e1 e2 e3
 subst e1; subst e3
 have hll := h2.len
 by_cases hmn : m = l.length
 have e : l.drop m = [] := List.drop_of_length_le (by omega)
 have e0 : n - m = 0 := by omega
 rw [e, e0]
 refine ⟨[], ⟨_, c - m, rfl, by simp, by omega, fun e => ?_, .inl rfl⟩, trivial, by simp⟩
 cases a with
 | none => have := q3 rfl; exact ⟨rfl, by omega⟩
 | some ad => split at e <;> cases e
 have hpos : el.flatten ≠ [] := by
  intro e
  have := congrArg List.length e
  rw [fV h3, hll] at this
  have := Nat.mul_pos (show 0 < l.length by omega) hk
  simp at *
  omega
 obtain ⟨b, o, e, hc⟩ := q4.resolve_left hpos
 subst e
 rw [zZa (by omega)]
 have hs : Sl k R F (.slice (some ⟨b, o, none⟩) n c) l := ⟨el, ⟨_, _, by rw [hn], q1, q2, q3, .inr ⟨b, o, rfl, hc⟩⟩, h2, h3⟩
 have := Sl.dropN (m := m) hs hm rfl rfl
 show Sl k R F (.slice (some (Addr.add ⟨b, o, none⟩ (m * k))) _ _) _
 rw [Addr.add_mid]
 exact this
theorem Bs.restD {F : Fz} {a : Option Addr} {m c n : Nat} {l : By} (h : Bs F (.slice a m c) l) (hn : n ≤ m) : Bs F (.slice (if c = n then a else a.map (·.add (n * 1))) (m - n) (c - n)) (l.drop n) := eF (Sl.dropD (by decide) h.sl hn)
theorem QZ (n : Nat) : (madeCells (Value.int .u8 0).cells (n * 1)).toList = (List.replicate n (0 : UInt8)).map bv := by
 rw [show (Value.int .u8 0).cells = #[.int .u8 0] from rfl, toList_madeCells_one]; simp [bv]
theorem RA (S : List (BitVec 64)) : nN S 0 = S := rfl
theorem Ae (S : List (BitVec 64)) (p : By) : sZ S p 0 = S := rfl
theorem WD {Z X R : List (BitVec 64)} {p : By} (hX : X = sZ Z p 136) (h : 136 ≤ p.length) (e : nV Z p (p.length / 136) = R) : nV (nN X 24) (p.drop 136) ((p.drop 136).length / 136) = R := by
 rw [hX, ← NP h]; exact e
theorem RB {Z R : List (BitVec 64)} {p : By} (h : p.length / 136 = 0) (e : nV Z p (p.length / 136) = R) : Z = R := by
 rw [h] at e; rw [← e]; cases p <;> rfl
theorem yP (Z : List (BitVec 64)) : (LR Z).length = 32 := by simp [LR]
theorem TY (F : Fz) (w : World) (v : Value) (b : By) (hs : Sat w F) (hT : Tabs w) (hb : Bs F v b) (hn : b.length ≤ 100000) :
    Calls Tryz.prog 117 #[v] w (qJ w F 1 ByC 5 (nP b)) := by
 obtain ⟨x, y, rfl, hc1', hc2'⟩ := hb.shape
 unfold maxLen at hc2'
 obtain ⟨i5, hi5, hz5, hs5, hb5⟩ := info_parts qG
 have S := St.start hs
 go_enter Tryz.func117, Tryz.ntmps117
 refine wp_seq_k (fun K1 hK1 => aB ?_)
 refine aC ?_
 refine wlK hK1 ?_
 refine wp_seq_k (fun K2 hK2 => aB ?_)
 refine aC ?_
 have S3 := St.addNil S 1 ByC ByC.mono 5 w.heap.size
 refine eH (r := 0) (u := (.slice x b.length y)) S3 rfl i5 (.int .u8 0) 1 Tryz.underlying25 hi5 hz5 hs5 hb5 rfl (by decide) rfl rfl rfl (Sl.toW (Bs.sl hb) (S3).sat) ByC.one (zZe _) S3.gr.below.size (by unfold maxLen; simp only [zZj]; omega) (by simp only [zZj]; omega) ?_
 intro v4 w5 S6 hn7
 simp only [pq]
 have S6 : St w F w5 F [] [cU 1 ByC ByC.mono 5 w.heap.size v4 ([] ++ b)] := S6
 refine bH S6 (v := fun n => .slice (some ⟨n, 0, none⟩) 1 1) rfl (cN (ps := #[(0, (.int .u8 6))]) (cells := #[(.int .u8 6)]) (E := 5) (cZ rfl) (fun w => by kernel_rfl)) (fun n8 w9 c2 => ?_)
 simp only [pq]
 have c2 : St w F w9 F [⟨n8, [(.int .u8 6)], 5⟩] [cU 1 ByC ByC.mono 5 w.heap.size v4 ([] ++ b)] := c2
 rw [List.nil_append] at c2
 refine fH (i := 0) (r := 0) (p := (6 : UInt8)) (cs := [(.int .u8 6)]) c2 rfl i5 (.int .u8 0) 1 Tryz.underlying25 hi5 hz5 hs5 hb5 rfl (by decide) rfl rfl rfl rfl rfl (sH 6) (rfl) (zZe _) c2.gr.below.size (by unfold maxLen; omega) (by omega) ?_
 intro b5 h8 c0 h9
 simp only [pq]
 have c0 := St.drop c0 (L' := []) (.cons _ (zZd _))
 have c0 : St w F h8 F [] [cU 1 ByC ByC.mono 5 w.heap.size b5 (b ++ [(6 : UInt8)])] := c0
 refine aC ?_
 refine wlK hK2 ?_
 refine aE fun m0 e4 => ?_
 refine aN ?_
 rw [VY] at c0
 refine aX (fun mm aa i0 => ∃ (k : Nat) (v : Value) (b6 : Nat → Value), mm = eO b - k ∧ b6 = dX aa ∧ aa = ⟨([(.slice x b.length y), undef, (.slice none 0 0), v] ++ (udF 5 ([(.slice x b.length y), v4, (.slice (some ⟨n8, 0, none⟩) 1 1), b5] ++ (usF b6 13 7 (udF 58 []))))).toArray, []⟩ ∧ St w F i0 F [] [cU 1 ByC ByC.mono 5 w.heap.size v (eJ b k)] ∧ (k ≤ eO b)) _ ⟨0, b5, _, rfl, rfl, rfl, c0, (Nat.zero_le _)⟩ ?_
 rintro m1 m2 m3 ⟨k, v, b6, rfl, -, hfr, d9, hk⟩ m4 e5
 simp only [uzF, Nat.reduceAdd] at hfr; subst hfr
 refine aE fun m5 e6 => ?_
 refine aE fun m6 c3 => ?_
 have hpl := ZY b k
 have hpn : eO b < 136 := by unfold eO; omega
 obtain ⟨i1, a0, rfl, m7, i2⟩ := (d9.own (i := 0) rfl).shape
 unfold maxLen at i2
 refine aB ?_
 refine aC ?_
 refine do_ rfl (.int .i64 ((((eJ b k).length % 136) : Nat) : Int)) (qC (m := ((eJ b k).length)) (n := 136) rfl rfl (by decide) (by omega)) ?_
 simp only [pq]
 by_cases i3 : ((eJ b k).length % 136) = 0
 ·refine do_ rfl (.bool false) (cH (m := ((((eJ b k).length % 136) : Nat) : Int)) (n := (0 : Int)) (b := false) rfl rfl (bne_eq_false_iff_eq.2 (by omega))) ?_
  simp only [pq]
  refine wlK c3 ?_
  refine aF ?_
  refine cP ?_
  refine e4 _ _ ?_
  refine aE fun m8 e7 => ?_
  have hkk : k = eO b := by unfold eO at *; omega
  subst hkk
  obtain ⟨xb, hxb⟩ : ∃ x, (eJ b (eO b))[(eJ b (eO b)).length - 1]? = some x := ⟨_, zZc (by omega)⟩
  obtain ⟨a2, e8, i4⟩ := Iu (St.own d9 (i := 0) rfl) hxb
  subst e8
  refine aB ?_
  refine aC ?_
  refine do_ rfl (.int .i64 ((((eJ b (eO b)).length - 1) : Nat) : Int)) (rU (m := (((eJ b (eO b)).length : Nat) : Int)) (n := (1 : Int)) (r := ((((eJ b (eO b)).length - 1) : Nat) : Int)) rfl rfl (by omega) (by omega) (by omega)) ?_
  simp only [pq]
  refine do_ rfl (.pointer (some ⟨a2, 0 + ((eJ b (eO b)).length - 1) * 1, none⟩)) (bN (i := ((eJ b (eO b)).length - 1)) (sz := 1) Tryz.underlying25 (bO _) rfl rfl rfl (by omega) rfl) ?_
  simp only [pq]
  refine do_ rfl (bv xb) (aD rfl (aQ (jR _) i4)) ?_
  simp only [pq]
  refine do_ rfl (bv (xb ||| 128)) (Hy rfl rfl) ?_
  simp only [pq]
  refine do_ rfl (.pointer (some ⟨a2, 0 + ((eJ b (eO b)).length - 1) * 1, none⟩)) (bN (i := ((eJ b (eO b)).length - 1)) (sz := 1) Tryz.underlying25 (bO _) rfl rfl rfl (by omega) rfl) ?_
  simp only [pq]
  refine DK (r := 0) (i := ((eJ b (eO b)).length - 1)) (p := (xb ||| 128)) (u := (bv (xb ||| 128))) d9 rfl rfl (by omega) rfl rfl (by omega) (YE) (mL rfl) rfl rfl (zZe _) (fun h4 e0 => ?_)
  simp only [pq]
  have e0 : St w F h4 F [] [cU 1 ByC ByC.mono 5 w.heap.size (.slice (some ⟨a2, 0, none⟩) (eJ b (eO b)).length a0) ((eJ b (eO b)).set ((eJ b (eO b)).length - 1) (xb ||| 128))] := e0
  rw [Et hxb] at e0
  refine wlK e7 ?_
  refine aE fun m9 e9 => ?_
  obtain ⟨a5, f0, i6, b7⟩ := St.freeze e0 (i := 0) rfl (zZe _)
  have f0 : St w F h4 a5 [] [] := f0
  have b7 : Bys _ (.slice (some ⟨a2, 0, none⟩) (eJ b (eO b)).length a0) (FT b) := b7
  have i7 := eF b7
  refine aB ?_
  refine bH f0 (v := fun n => .pointer (some ⟨n, 0, none⟩)) rfl (DG (Ad _)) (fun a3 i8 f1 => ?_)
  simp only [pq]
  have f1 : St w F i8 a5 [⟨a3, ((List.replicate 25 (0 : BitVec 64)).map aS), 217⟩] [] := f1
  refine wlK e9 ?_
  refine aE fun n0 f2 => ?_
  refine aN ?_
  refine aX (fun mm aa i9 => ∃ (Z : List (BitVec 64)) (ra : Option Addr) (rn : Nat) (rc : Nat) (rest : By) (a7 : Nat → Value), mm = rest.length ∧ a7 = dX aa ∧ aa = ⟨([(.slice x b.length y), undef, (.slice none 0 0), (.slice ra rn rc), (.pointer (some ⟨a3, 0, none⟩)), (a7 5), (a7 6), undef, undef, (.slice x b.length y), v4, (.slice (some ⟨n8, 0, none⟩) 1 1), b5, (.slice (some ⟨a2, 0, none⟩) (eJ b (eO b)).length a0), (.int .i64 (((eJ b (eO b)).length : Nat) : Int)), (.int .i64 ((((eJ b (eO b)).length % 136) : Nat) : Int)), (.bool false)] ++ (usF b6 17 3 ([(.slice (some ⟨a2, 0, none⟩) (eJ b (eO b)).length a0), (.slice (some ⟨a2, 0, none⟩) (eJ b (eO b)).length a0), (.int .i64 (((eJ b (eO b)).length : Nat) : Int)), (.int .i64 ((((eJ b (eO b)).length - 1) : Nat) : Int)), (.pointer (some ⟨a2, 0 + ((eJ b (eO b)).length - 1) * 1, none⟩)), (bv xb), (bv (xb ||| 128)), (.pointer (some ⟨a2, 0 + ((eJ b (eO b)).length - 1) * 1, none⟩))] ++ (usF a7 28 30 (udF 20 []))))).toArray, []⟩ ∧ St w F i9 a5 [⟨a3, (Z.map aS), 217⟩] [] ∧ (Z.length = 25) ∧ (Bs a5 (.slice ra rn rc) rest) ∧ (rest.length % 136 = 0) ∧ (rest.length ≤ 200000) ∧ (nV Z rest (rest.length / 136) = nV (List.replicate 25 0) (FT b) ((FT b).length / 136))) _ ⟨(List.replicate 25 0), (some ⟨a2, 0, none⟩), (eJ b (eO b)).length, a0, (FT b), _, rfl, rfl, rfl, f1, (by simp), i7, (by rw [NO]; unfold eO; omega), (by rw [NO]; unfold eO; omega), rfl⟩ ?_
  rintro n1 n2 j0 ⟨Z, ra, rn, rc, rest, a7, rfl, -, hfr, e1, hZ, hrest, hrm, hrl, hab⟩ n3 f3
  simp only [uzF, Nat.reduceAdd] at hfr; subst hfr
  refine aE fun n4 f4 => ?_
  refine aE fun n5 c4 => ?_
  have hrn := hrest.len
  refine aB ?_
  refine aC ?_
  by_cases j1 : 0 < rn
  ·refine do_ rfl (.bool true) (tL (m := ((rn : Nat) : Int)) (n := (0 : Int)) (b := true) rfl rfl (decide_eq_true (by omega))) ?_
   simp only [pq]
   refine wlK c4 ?_
   refine aI ?_
   refine aH ?_
   refine f4 _ _ ?_
   refine aE fun n6 f5 => ?_
   refine aN ?_
   refine aE fun n7 f6 => ?_
   refine wp_seq_k (fun n9 f7 => aB ?_)
   refine aC ?_
   refine wlK f7 ?_
   refine aN ?_
   have e1 : St w F j0 a5 [⟨a3, ((sZ Z rest 0).map aS), 217⟩] [] := by rw [Ae]; exact e1
   refine aX (fun mm aa j2 => ∃ (i : Nat) (c1 : Nat → Value), mm = 136 - i ∧ c1 = dX aa ∧ aa = ⟨([(.slice x b.length y), undef, (.slice none 0 0), (.slice ra rn rc), (.pointer (some ⟨a3, 0, none⟩)), (c1 5), (a7 6), undef, undef, (.slice x b.length y), v4, (.slice (some ⟨n8, 0, none⟩) 1 1), b5, (.slice (some ⟨a2, 0, none⟩) (eJ b (eO b)).length a0), (.int .i64 (((eJ b (eO b)).length : Nat) : Int)), (.int .i64 ((((eJ b (eO b)).length % 136) : Nat) : Int)), (.bool false)] ++ (usF b6 17 3 ([(.slice (some ⟨a2, 0, none⟩) (eJ b (eO b)).length a0), (.slice (some ⟨a2, 0, none⟩) (eJ b (eO b)).length a0), (.int .i64 (((eJ b (eO b)).length : Nat) : Int)), (.int .i64 ((((eJ b (eO b)).length - 1) : Nat) : Int)), (.pointer (some ⟨a2, 0 + ((eJ b (eO b)).length - 1) * 1, none⟩)), (bv xb), (bv (xb ||| 128)), (.pointer (some ⟨a2, 0 + ((eJ b (eO b)).length - 1) * 1, none⟩)), (.slice ra rn rc), (.int .i64 ((rn : Nat) : Int)), (.bool true), (a7 31), (a7 32), (.int .i64 ((i : Nat) : Int))] ++ (usF c1 34 18 (usF a7 52 6 (udF 20 [])))))).toArray, []⟩ ∧ St w F j2 a5 [⟨a3, ((sZ Z rest i).map aS), 217⟩] [] ∧ (i ≤ 136)) _ ⟨0, _, rfl, rfl, rfl, e1, (by omega)⟩ ?_
   rintro o0 o1 j3 ⟨i, c1, rfl, -, hfr, b9, hi⟩ o2 f8
   simp only [uzF, Nat.reduceAdd] at hfr; subst hfr
   refine wp_seq_k (fun o3 c5 => aB ?_)
   by_cases j4 : i < 136
   ·refine do_ rfl (.bool true) (oP (m := ((i : Nat) : Int)) (n := (136 : Int)) (b := true) rfl rfl (decide_eq_true (by omega))) ?_
    simp only [pq]
    refine wlK c5 ?_
    refine aE fun o4 f9 => ?_
    refine aI ?_
    refine aH ?_
    refine f9 _ _ ?_
    refine aE fun o5 g0 => ?_
    refine aN ?_
    refine wp_seq_k (fun o6 g1 => aB ?_)
    refine aC ?_
    refine wlK g1 ?_
    obtain ⟨xi, hxi⟩ : ∃ x, rest[i]? = some x := ⟨_, zZc (by omega)⟩
    obtain ⟨j5, j6, g2, j7⟩ := Bs.get hrest hxi
    refine aP a5 13 [] (by kernel_rfl) (by kernel_rfl) ?_
    simp only [dA]
    refine hY rfl rfl (.int .i64 ((i : Nat) : Int)) (fun b0 a1 => aM (fR _)) ?_
    simp only [pq]
    refine hY rfl rfl (.int .i64 (((i / 8) : Nat) : Int)) (fun b0 a1 => aM (TX (m := i) (n := 8) rfl rfl (by decide) (by omega))) ?_
    simp only [pq]
    refine hY rfl rfl (.pointer (some ⟨a3, (i / 8), none⟩)) (fun b0 a1 => aM (gN (i := (i / 8)) Tryz.underlying217 (dC _) rfl rfl (by omega))) ?_
    simp only [pq]
    refine hY rfl rfl (aS (at0 (sZ Z rest i) (i / 8))) (fun b0 a1 => aM (aD rfl (aQ (fW _) (St.cell (St.tells b9 a1) (i := 0) rfl (fX (Nat.lt_of_lt_of_eq (show (i / 8) < 25 by omega) ((CG _ _ _).trans hZ).symm)))))) ?_
    simp only [pq]
    refine hY rfl rfl (.slice ra rn rc) (fun b0 a1 => aM (fR _)) ?_
    simp only [pq]
    refine hY rfl rfl (.int .i64 ((i : Nat) : Int)) (fun b0 a1 => aM (fR _)) ?_
    simp only [pq]
    refine hY rfl rfl (.pointer (some ⟨j5, j6 + i * 1, none⟩)) (fun b0 a1 => aM (bN (i := i) (sz := 1) Tryz.underlying25 (bO _) rfl g2 rfl (by omega) rfl)) ?_
    simp only [pq]
    refine hY rfl rfl (bv xi) (fun b0 a1 => aM (aD rfl (aQ (jR _) (St.fz (St.tells b9 a1) j7)))) ?_
    simp only [pq]
    refine hY rfl rfl (aS (BitVec.ofNat 64 xi.toNat)) (fun b0 a1 => aM (aU (v := (bv xi)) rfl (ZW xi _))) ?_
    simp only [pq]
    refine hY rfl rfl (.int .i64 ((i : Nat) : Int)) (fun b0 a1 => aM (fR _)) ?_
    simp only [pq]
    refine hY rfl rfl (.int .i64 (((i % 8) : Nat) : Int)) (fun b0 a1 => aM (qC (m := i) (n := 8) rfl rfl (by decide) (by omega))) ?_
    simp only [pq]
    refine hY rfl rfl (.int .i64 ((((i % 8) * 8) : Nat) : Int)) (fun b0 a1 => aM (XX (m := (((i % 8) : Nat) : Int)) (n := (8 : Int)) (r := ((((i % 8) * 8) : Nat) : Int)) rfl rfl (by omega) (by omega) (by omega))) ?_
    simp only [pq]
    refine hY rfl rfl (aS ((BitVec.ofNat 64 xi.toNat) <<< ((i % 8) * 8))) (fun b0 a1 => aM (Ep (n := ((i % 8) * 8)) rfl rfl (by omega))) ?_
    simp only [pq]
    refine bU ?_
    intro o7 g3 g4
    clear g4
    have j8 := St.tells b9 g3
    simp only [dB]
    refine do_ rfl (aS ((at0 (sZ Z rest i) (i / 8)) ^^^ ((BitVec.ofNat 64 xi.toNat) <<< ((i % 8) * 8)))) (oC rfl rfl) ?_
    simp only [pq]
    refine do_ rfl (.pointer (some ⟨a3, (i / 8), none⟩)) (gN (i := (i / 8)) Tryz.underlying217 (dC _) rfl rfl (by omega)) ?_
    simp only [pq]
    refine fZ (i := 0) (v := aS ((at0 (sZ Z rest i) (i / 8)) ^^^ ((BitVec.ofNat 64 xi.toNat) <<< ((i % 8) * 8)))) j8 rfl rfl rfl rfl (rF) (mL rfl) (by rw [zZm, ((CG _ _ _).trans hZ)]; show (i / 8) + 1 ≤ 25; omega) (fun j9 c6 => ?_)
    simp only [pq]
    have c6 : St w F j9 a5 [⟨a3, (cK ((sZ Z rest i).map aS) (i / 8) [aS ((at0 (sZ Z rest i) (i / 8)) ^^^ ((BitVec.ofNat 64 xi.toNat) <<< ((i % 8) * 8)))]), 217⟩] [] := c6
    rw [oG (Nat.lt_of_lt_of_eq (show (i / 8) < 25 by omega) ((CG _ _ _).trans hZ).symm)] at c6
    rw [ZZ Z hxi] at c6
    refine wlK g0 ?_
    refine aB ?_
    refine do_ rfl (.int .i64 (((i + 1) : Nat) : Int)) (gG (m := ((i : Nat) : Int)) (n := (1 : Int)) (r := (((i + 1) : Nat) : Int)) rfl rfl (by omega) (by omega) (by omega)) ?_
    refine aC ?_
    refine aG ?_
    exact f8 _ _ _ (by omega) ⟨(i + 1), _, rfl, rfl, rfl, c6, (by omega)⟩
   ·refine do_ rfl (.bool false) (oP (m := ((i : Nat) : Int)) (n := (136 : Int)) (b := false) rfl rfl (decide_eq_false (by omega))) ?_
    simp only [pq]
    refine wlK c5 ?_
    refine aE fun o8 k0 => ?_
    refine aF ?_
    refine cP ?_
    refine f6 _ _ ?_
    refine aE fun o9 g5 => ?_
    obtain rfl : i = 136 := by omega
    obtain ⟨Xm, hXm⟩ : ∃ X, X = sZ Z rest 136 := ⟨_, rfl⟩
    have hXl : Xm.length = 25 := by rw [hXm]; exact (CG _ _ _).trans hZ
    rw [← hXm] at b9
    refine aB ?_
    refine aC ?_
    refine wlK g5 ?_
    refine aN ?_
    have b9 : St w F j3 a5 [⟨a3, ((nN Xm 0).map aS), 217⟩] [] := by rw [RA]; exact b9
    refine aX (fun mm aa k1 => ∃ (q : Nat) (e2 : Nat → Value), mm = 24 - q ∧ e2 = dX aa ∧ aa = ⟨([(.slice x b.length y), undef, (.slice none 0 0), (.slice ra rn rc), (.pointer (some ⟨a3, 0, none⟩)), (c1 5), (e2 6), undef, undef, (.slice x b.length y), v4, (.slice (some ⟨n8, 0, none⟩) 1 1), b5, (.slice (some ⟨a2, 0, none⟩) (eJ b (eO b)).length a0), (.int .i64 (((eJ b (eO b)).length : Nat) : Int)), (.int .i64 ((((eJ b (eO b)).length % 136) : Nat) : Int)), (.bool false)] ++ (usF b6 17 3 ([(.slice (some ⟨a2, 0, none⟩) (eJ b (eO b)).length a0), (.slice (some ⟨a2, 0, none⟩) (eJ b (eO b)).length a0), (.int .i64 (((eJ b (eO b)).length : Nat) : Int)), (.int .i64 ((((eJ b (eO b)).length - 1) : Nat) : Int)), (.pointer (some ⟨a2, 0 + ((eJ b (eO b)).length - 1) * 1, none⟩)), (bv xb), (bv (xb ||| 128)), (.pointer (some ⟨a2, 0 + ((eJ b (eO b)).length - 1) * 1, none⟩)), (.slice ra rn rc), (.int .i64 ((rn : Nat) : Int)), (.bool true), (a7 31), (a7 32), (.int .i64 136), (.bool false)] ++ (usF c1 35 17 ([(.int .i64 ((q : Nat) : Int))] ++ (usF e2 53 5 (udF 20 []))))))).toArray, []⟩ ∧ St w F k1 a5 [⟨a3, ((nN Xm q).map aS), 217⟩] [] ∧ (q ≤ 24)) _ ⟨0, _, rfl, rfl, rfl, b9, (by omega)⟩ ?_
    rintro p0 p1 p2 ⟨q, e2, rfl, -, hfr, h5, hq⟩ p3 g6
    simp only [uzF, Nat.reduceAdd] at hfr; subst hfr
    refine wp_seq_k (fun p4 c7 => aB ?_)
    by_cases k2 : q < 24
    ·refine do_ rfl (.bool true) (oP (m := ((q : Nat) : Int)) (n := (24 : Int)) (b := true) rfl rfl (decide_eq_true (by omega))) ?_
     simp only [pq]
     refine wlK c7 ?_
     refine aE fun p5 g7 => ?_
     refine aI ?_
     refine aH ?_
     refine g7 _ _ ?_
     refine aE fun p6 g8 => ?_
     refine aN ?_
     refine wp_seq_k (fun p7 g9 => aB ?_)
     refine aC ?_
     refine wlK g9 ?_
     refine aB ?_
     refine aC ?_
     refine Hz rfl (cB (vs := #[(.pointer (some ⟨a3, 0, none⟩)), (.int .i64 ((q : Nat) : Int))]) (gK rfl rfl) rfl (Dx _ _)) (VW h5 (IB hXl _) hT (by omega)) (fun k3 e3 => ?_)
     simp only [pq]
     have e3 : St w F k3 a5 [⟨a3, ((GU (nN Xm q) q).map aS), 217⟩] [] := e3
     rw [EU] at e3
     refine wlK g8 ?_
     refine aB ?_
     refine do_ rfl (.int .i64 (((q + 1) : Nat) : Int)) (gG (m := ((q : Nat) : Int)) (n := (1 : Int)) (r := (((q + 1) : Nat) : Int)) rfl rfl (by omega) (by omega) (by omega)) ?_
     refine aC ?_
     refine aG ?_
     exact g6 _ _ _ (by omega) ⟨(q + 1), _, rfl, rfl, rfl, e3, (by omega)⟩
    ·refine do_ rfl (.bool false) (oP (m := ((q : Nat) : Int)) (n := (24 : Int)) (b := false) rfl rfl (decide_eq_false (by omega))) ?_
     simp only [pq]
     refine wlK c7 ?_
     refine aE fun p8 k4 => ?_
     refine aF ?_
     refine cP ?_
     refine f5 _ _ ?_
     obtain rfl : q = 24 := by omega
     refine aB ?_
     refine aC ?_
     have hcap : rest.length ≤ rc := by obtain ⟨_, _, e, q, _⟩ := hrest.shape; injection e with _ _ e; rw [e]; exact q
     have k5 : Bs _ (.slice (if rc = 136 then ra else ra.map (·.add (136 * 1))) (rn - 136) (rc - 136)) (rest.drop 136) := Bs.restD hrest (by omega)
     refine do_ rfl (.slice (if rc = 136 then ra else ra.map (·.add (136 * 1))) (rn - 136) (rc - 136)) (bD (l := 136) (h := rn) (sz := 1) Tryz.underlying25 rfl (bO _) (.inr ⟨_, rfl, rfl⟩) (.inl ⟨rfl, rfl⟩) (by omega) (by omega) (rfl)) ?_
     refine aC ?_
     refine aG ?_
     have hdl : (rest.drop 136).length = rest.length - 136 := by simp
     exact f3 _ _ _ (by omega) ⟨(nN Xm 24), (if rc = 136 then ra else ra.map (·.add (136 * 1))), (rn - 136), (rc - 136), (rest.drop 136), _, rfl, rfl, rfl, h5, (IB hXl 24), k5, (by omega), (by omega), (WD hXm (by omega) hab)⟩
  ·refine do_ rfl (.bool false) (tL (m := ((rn : Nat) : Int)) (n := (0 : Int)) (b := false) rfl rfl (decide_eq_false (by omega))) ?_
   simp only [pq]
   refine wlK c4 ?_
   refine aF ?_
   refine cP ?_
   refine f2 _ _ ?_
   refine aE fun k6 c8 => ?_
   have hZa := RB (by omega) hab
   refine aB ?_
   refine JB (k := 1) (n := 32) (m := 32) e1 rfl i5 (.int .u8 0) 1 Tryz.underlying25 hi5 hz5 hs5 hb5 rfl rfl (by omega) (by omega) (by omega) ?_
   intro a4 c9 a8
   rw [QZ] at a8
   simp only [pq]
   have a8 : St w F c9 a5 [⟨a4, ((List.replicate 32 (0 : UInt8)).map bv), 5⟩, ⟨a3, (Z.map aS), 217⟩] [] := a8
   have a8 : St w F c9 a5 [⟨a4, ((yO Z 0).map bv), 5⟩, ⟨a3, (Z.map aS), 217⟩] [] := by rw [WA]; exact a8
   refine aC ?_
   refine wlK c8 ?_
   refine aE fun k7 d0 => ?_
   refine wp_seq_k (fun k8 d1 => aB ?_)
   refine aC ?_
   refine wlK d1 ?_
   refine aN ?_
   refine aX (fun mm aa h0 => ∃ (j : Nat) (b2 : Nat → Value), mm = 32 - j ∧ b2 = dX aa ∧ aa = ⟨([(.slice x b.length y), undef, (.slice none 0 0), (.slice ra rn rc), (.pointer (some ⟨a3, 0, none⟩)), (a7 5), (a7 6), (.slice (some ⟨a4, 0, none⟩) 32 32), (b2 8), (.slice x b.length y), v4, (.slice (some ⟨n8, 0, none⟩) 1 1), b5, (.slice (some ⟨a2, 0, none⟩) (eJ b (eO b)).length a0), (.int .i64 (((eJ b (eO b)).length : Nat) : Int)), (.int .i64 ((((eJ b (eO b)).length % 136) : Nat) : Int)), (.bool false)] ++ (usF b6 17 3 ([(.slice (some ⟨a2, 0, none⟩) (eJ b (eO b)).length a0), (.slice (some ⟨a2, 0, none⟩) (eJ b (eO b)).length a0), (.int .i64 (((eJ b (eO b)).length : Nat) : Int)), (.int .i64 ((((eJ b (eO b)).length - 1) : Nat) : Int)), (.pointer (some ⟨a2, 0 + ((eJ b (eO b)).length - 1) * 1, none⟩)), (bv xb), (bv (xb ||| 128)), (.pointer (some ⟨a2, 0 + ((eJ b (eO b)).length - 1) * 1, none⟩)), (.slice ra rn rc), (.int .i64 ((rn : Nat) : Int)), (.bool false)] ++ (usF a7 31 27 ([(.slice (some ⟨a4, 0, none⟩) 32 32), (.slice (some ⟨a4, 0, none⟩) 32 32), (.int .i64 32), (.int .i64 ((j : Nat) : Int))] ++ (usF b2 62 15 [undef])))))).toArray, []⟩ ∧ St w F h0 a5 [⟨a4, ((yO Z j).map bv), 5⟩, ⟨a3, (Z.map aS), 217⟩] [] ∧ (j ≤ 32)) _ ⟨0, _, rfl, rfl, rfl, a8, (by omega)⟩ ?_
   rintro k9 l0 l1 ⟨j, b2, rfl, -, hfr, b1, hj⟩ l2 d2
   simp only [uzF, Nat.reduceAdd] at hfr; subst hfr
   refine wp_seq_k (fun l3 b4 => aB ?_)
   by_cases l4 : j < 32
   ·refine do_ rfl (.bool true) (oP (m := ((j : Nat) : Int)) (n := (32 : Int)) (b := true) rfl rfl (decide_eq_true (by omega))) ?_
    simp only [pq]
    refine wlK b4 ?_
    refine aE fun l5 d3 => ?_
    refine aI ?_
    refine aH ?_
    refine d3 _ _ ?_
    refine aE fun l6 d4 => ?_
    refine aN ?_
    refine wp_seq_k (fun l7 d5 => aB ?_)
    refine aC ?_
    refine wlK d5 ?_
    refine aB ?_
    refine aC ?_
    refine do_ rfl (.int .i64 (((j / 8) : Nat) : Int)) (TX (m := j) (n := 8) rfl rfl (by decide) (by omega)) ?_
    simp only [pq]
    refine do_ rfl (.pointer (some ⟨a3, (j / 8), none⟩)) (gN (i := (j / 8)) Tryz.underlying217 (dC _) rfl rfl (by omega)) ?_
    simp only [pq]
    refine do_ rfl (aS (at0 Z (j / 8))) (aD rfl (aQ (fW _) (St.cell b1 (i := 1) rfl (fX (Nat.lt_of_lt_of_eq (show (j / 8) < 25 by omega) hZ.symm))))) ?_
    refine aC ?_
    refine do_ rfl (.int .i64 (((j % 8) : Nat) : Int)) (qC (m := j) (n := 8) rfl rfl (by decide) (by omega)) ?_
    simp only [pq]
    refine do_ rfl (.int .i64 ((((j % 8) * 8) : Nat) : Int)) (XX (m := (((j % 8) : Nat) : Int)) (n := (8 : Int)) (r := ((((j % 8) * 8) : Nat) : Int)) rfl rfl (by omega) (by omega) (by omega)) ?_
    simp only [pq]
    refine do_ rfl (aS ((at0 Z (j / 8)) >>> ((j % 8) * 8))) (Es (n := ((j % 8) * 8)) rfl rfl (by omega)) ?_
    simp only [pq]
    refine do_ rfl (bv (UInt8.ofNat (((at0 Z (j / 8)) >>> ((j % 8) * 8)).toNat % 256))) (aU (v := (aS ((at0 Z (j / 8)) >>> ((j % 8) * 8)))) rfl (ZX ((at0 Z (j / 8)) >>> ((j % 8) * 8)) _)) ?_
    simp only [pq]
    refine do_ rfl (.pointer (some ⟨a4, 0 + j * 1, none⟩)) (bN (i := j) (sz := 1) Tryz.underlying25 (bO _) rfl rfl rfl (by omega) rfl) ?_
    simp only [pq]
    refine fZ (i := 0) (v := bv (UInt8.ofNat (((at0 Z (j / 8)) >>> ((j % 8) * 8)).toNat % 256))) b1 rfl rfl rfl rfl (YE) (mL rfl) (by rw [zZm, NQ]; show 0 + j * 1 + 1 ≤ 32; omega) (fun d6 a6 => ?_)
    simp only [pq]
    have a6 : St w F d6 a5 [⟨a4, (cK ((yO Z j).map bv) (0 + j * 1) [bv (UInt8.ofNat (((at0 Z (j / 8)) >>> ((j % 8) * 8)).toNat % 256))]), 5⟩, ⟨a3, (Z.map aS), 217⟩] [] := a6
    rw [Nat.zero_add, Nat.mul_one, WC (by rw [NQ]; omega)] at a6
    have a6 : St w F d6 a5 [⟨a4, (((yO Z j).set j (Aa Z j)).map bv), 5⟩, ⟨a3, (Z.map aS), 217⟩] [] := a6
    rw [WB Z (by omega)] at a6
    refine wlK d4 ?_
    refine aB ?_
    refine do_ rfl (.int .i64 (((j + 1) : Nat) : Int)) (gG (m := ((j : Nat) : Int)) (n := (1 : Int)) (r := (((j + 1) : Nat) : Int)) rfl rfl (by omega) (by omega) (by omega)) ?_
    refine aC ?_
    refine aG ?_
    exact d2 _ _ _ (by omega) ⟨(j + 1), _, rfl, rfl, rfl, a6, (by omega)⟩
   ·refine do_ rfl (.bool false) (oP (m := ((j : Nat) : Int)) (n := (32 : Int)) (b := false) rfl rfl (decide_eq_false (by omega))) ?_
    simp only [pq]
    refine wlK b4 ?_
    refine aE fun l8 h6 => ?_
    refine aF ?_
    refine cP ?_
    refine d0 _ _ ?_
    refine aE fun l9 d7 => ?_
    obtain rfl : j = 32 := by omega
    rw [Ab] at b1
    refine aB ?_
    refine aC ?_
    refine wlK d7 ?_
    refine aO ?_
    try simp only [xt]
    refine bodyPost_ret (v := (.slice (some ⟨a4, 0, none⟩) 32 32)) ?_ rfl ?_
    ·exact bA rfl rfl
    ·have hB := St.blkRow (k := 1) (l := LR Z) (el := (LR Z).map fun b => [bv b]) (hR := ByC.mono) (cap := 32) b1 (by rw [sI, List.take_of_length_le (by rw [zZm, yP]; decide)]) (sJ _ _) (by simp) (by rw [zZm, yP]) (by rw [yP]; decide) (by unfold maxLen; decide) (b1.blk _ (List.mem_cons_self ..)).2.2
     rw [yP] at hB
     refine ⟨_, _, rfl, hB.gr, ?_⟩
     have hO := St.own (i := 0) hB rfl
     unfold nP
     rw [← hZa]
     exact hO
 ·refine do_ rfl (.bool true) (cH (m := ((((eJ b k).length % 136) : Nat) : Int)) (n := (0 : Int)) (b := true) rfl rfl (bne_iff_ne.2 (by omega))) ?_
  simp only [pq]
  refine wlK c3 ?_
  refine aI ?_
  refine aH ?_
  refine e6 _ _ ?_
  refine aN ?_
  refine aB ?_
  refine aC ?_
  refine bH d9 (v := fun n => .slice (some ⟨n, 0, none⟩) 1 1) rfl (cN (ps := #[(0, (.int .u8 0))]) (cells := #[(.int .u8 0)]) (E := 5) (cZ rfl) (fun w => by kernel_rfl)) (fun h1 h2 b3 => ?_)
  simp only [pq]
  have b3 : St w F h2 F [⟨h1, [(.int .u8 0)], 5⟩] [cU 1 ByC ByC.mono 5 w.heap.size (.slice i1 (eJ b k).length a0) (eJ b k)] := b3
  refine fH (i := 0) (r := 0) (p := (0 : UInt8)) (cs := [(.int .u8 0)]) b3 rfl i5 (.int .u8 0) 1 Tryz.underlying25 hi5 hz5 hs5 hb5 rfl (by decide) rfl rfl rfl rfl rfl (sH 0) (rfl) (zZe _) b3.gr.below.size (by unfold maxLen; omega) (by omega) ?_
  intro d8 h3 a9 h7
  simp only [pq]
  have a9 := St.drop a9 (L' := []) (.cons _ (zZd _))
  have a9 : St w F h3 F [] [cU 1 ByC ByC.mono 5 w.heap.size d8 ((eJ b k) ++ [(0 : UInt8)])] := a9
  refine aC ?_
  refine aG ?_
  rw [VX] at a9
  have hk2 : k + 1 ≤ eO b := by unfold eO at *; omega
  exact e5 _ _ _ (by omega) ⟨(k + 1), d8, _, rfl, rfl, rfl, a9, hk2⟩
theorem NR (F : Fz) (w : World) (v : Value) (b : By) (hs : Sat w F) (hT : Tabs w) (hb : Bs F v b) (hn : b.length ≤ 100000) :
    Calls Tryz.prog 117 #[v] w (dF w F fun F' u => Bs F' u (nP b)) :=
  (oB ByC.mono (TY F w v b hs hT hb hn)).mono fun e w' ⟨u, F', he, g, hu⟩ => ⟨u, F', he, g, eF hu⟩
def LsC (F : Fz) (cs : List Value) (p : By) : Prop := ∃ a, cs = [a] ∧ Bs F a p
theorem LsC.mono (F F' : Fz) (x : List Value) (p : By) (hl : Le F F') (h : LsC F x p) : LsC F' x p := by
 obtain ⟨a, h1, h2⟩ := h
 exact ⟨a, h1, h2.mono hl⟩
abbrev Lss (F : Fz) (v : Value) (l : List By) : Prop := Sl 1 LsC F v l
theorem Lss.get {F : Fz} {a : Option Addr} {n c : Nat} {l : List By} (h : Lss F (.slice a n c) l) {i : Nat} {p : By} (hp : l[i]? = some p) :
    ∃ b o, a = some ⟨b, o, none⟩ ∧ ∃ xa xc, cS F b (o + i * 1) = some (.slice xa p.length xc) ∧ Bs F (.slice xa p.length xc) p := by
 obtain ⟨hi, rfl⟩ := List.getElem?_eq_some_iff.1 hp
 have hn := h.len
 obtain ⟨b, o, e, h1⟩ := Sl.at h (by omega) (by omega)
 obtain ⟨cs, q1, ⟨x, rfl, r1⟩, q4⟩ := h1 i hi
 obtain ⟨xa, xc, rfl, _⟩ := r1.shape
 exact ⟨b, o, e, xa, xc, by have := q4 0 (by simp); simpa using this, r1⟩
theorem Lss.mono {F F' : Fz} {v : Value} {l : List By} (h : Lss F v l) (hl : Le F F') : Lss F' v l := Sl.mono LsC.mono h hl
def WE (b : By) (e : Int) (F : Fz) (u : Value) : Prop := ∃ x, u = .tuple #[x, .int .i64 e] ∧ Bs F x b
theorem Af (p : By) (h : p.length < 65536) : lU p = b8 (p.length / 256) :: b8 p.length :: p := by
 unfold lU b8
 congr 2
 apply UInt8.toNat_inj.1; simp
theorem Ag (F : Fz) (w : World) (v : Value) (b : By) (hs : Sat w F) (hT : Tabs w) (hb : Bs F v b) (hn : b.length ≤ 4000) :
    Calls Tryz.prog 96 #[v] w (dF w F (WE (nP b) 0)) := by
 obtain ⟨x, y, rfl, hc1', hc2'⟩ := hb.shape
 unfold maxLen at hc2'
 have S := St.start hs
 go_enter Tryz.func96, Tryz.ntmps96
 refine sk fun K1 hK1 => ?_
 iterate 2 refine dy ?_
 refine wn hK1 ?_
 refine aE fun K2 hK2 => ?_
 refine sk fun K3 hK3 => ?_
 refine aC ?_
 refine lS ?_
 simp only [pq]
 refine wn hK3 ?_
 refine aF ?_
 refine aH ?_
 refine hK2 _ _ ?_
 refine sk fun K4 hK4 => ?_
 refine dx ?_
 refine aR S rfl (fn1 (JN _ _)) (NR _ _ _ b (S).sat (hT.at S.gr.below) hb (by omega)) ?_
 intro a2 w5 F7 S6 le8 R9
 obtain ⟨a0, a1, rfl, _⟩ := R9.shape
 refine aC ?_
 refine wn hK4 ?_
 refine aO ?_
 try simp only [xt]
 refine bR (cI rfl (gD rfl) (gD rfl)) ?_
 exact ⟨_, _, rfl, S6.gr, _, rfl, R9⟩
theorem zR (p : By) : (lU p).length = 2 + p.length := by simp [lU]; omega
theorem RC {k : UInt8} {ps : List By} {i : Nat} {p : By} (hp : ps[i]? = some p) (h : p.length < 65536) : ((k :: (ps.take i).flatMap lU) ++ [b8 (p.length / 256), b8 p.length]) ++ p = k :: (ps.take (i + 1)).flatMap lU := by
 rw [fB hp, List.flatMap_append]
 simp [Af p h]
theorem WF {ps : List By} (i : Nat) : ((ps.take i).flatMap lU).length ≤ (ps.flatMap lU).length := by
 conv => rhs; rw [← List.take_append_drop i ps, List.flatMap_append, zZf]
 omega
theorem Ah {ps : List By} {i : Nat} {p : By} (hp : ps[i]? = some p) : ((ps.take i).flatMap lU).length + 2 + p.length ≤ (ps.flatMap lU).length := by
 have := WF (ps := ps) (i + 1)
 rw [fB hp, List.flatMap_append, zZf] at this
 simp only [List.flatMap_cons, List.flatMap_nil, List.append_nil, zR] at this
 omega
theorem wT (F : Fz) (w : World) (v : Value) (kd : UInt8) (ps : List By) (hs : Sat w F) (hT : Tabs w) (hp : Lss F v ps) (hn : (ps.flatMap lU).length ≤ 3999) :
    Calls Tryz.prog 121 #[bv kd, v] w (dF w F (WE (zB kd ps) 0)) := by
 obtain ⟨x, y, rfl, hc1', hc2'⟩ := Sl.shape hp
 unfold maxLen at hc2'
 obtain ⟨i5, hi5, hz5, hs5, hb5⟩ := info_parts qG
 have S := St.start hs
 go_enter Tryz.func121, Tryz.ntmps121
 refine sk fun K1 hK1 => ?_
 iterate 2 refine dy ?_
 refine wn hK1 ?_
 refine sk fun K2 hK2 => ?_
 refine dx ?_
 simp only [pq]
 refine bH S (v := fun n => .slice (aA n 0) 1 1) rfl (cN (ps := #[(0, (bv kd))]) (cells := #[(bv kd)]) (E := 5) (cZ rfl) (fun w => by kernel_rfl)) (fun n3 w4 S5 => ?_)
 refine dy ?_
 refine wn hK2 ?_
 refine aE fun K6 hK6 => ?_
 refine sk fun K7 hK7 => ?_
 refine aC ?_
 refine wn hK7 ?_
 refine aN ?_
 have S8 : St w F w4 F [] [cU 1 ByC ByC.mono 5 w.heap.size (.slice (aA n3 0) 1 1) [kd]] := St.blkRow (k := 1) (l := [kd]) (el := [[bv kd]]) (hR := ByC.mono) S5 rfl ⟨rfl, trivial⟩ (by simp) rfl (by simp) (by unfold maxLen; decide) (S5.blk _ (List.mem_cons_self ..)).2.2
 refine aX (fun mm aa c9 => ∃ (k : Nat) (v : Value) (F9 : Fz) (a1 : Nat → Value), mm = ps.length - k ∧ a1 = dX aa ∧ aa = ⟨([(bv kd), (.slice x ps.length y), undef, undef, (a1 4), (a1 5), v, undef, (a1 8), (bv kd), (.slice (aA n3 0) 1 1), (.slice x ps.length y), (nI ps.length), (nI k)] ++ (usF a1 14 28 [undef, undef])).toArray, []⟩ ∧ St w F c9 F9 [] [cU 1 ByC ByC.mono 5 w.heap.size v (kd :: (ps.take k).flatMap lU)] ∧ Le F F9 ∧ (k ≤ ps.length)) _ ⟨0, (.slice (aA n3 0) 1 1), F, _, rfl, rfl, rfl, S8, Le.refl _, (by omega)⟩ ?_
 rintro f0 f1 f2 ⟨k, v, F9, a1, rfl, -, hfr, a2, a3, hk⟩ f3 a8
 simp only [uzF, Nat.reduceAdd] at hfr; subst hfr
 refine sk fun f4 a4 => ?_
 by_cases a9 : k < ps.length
 ·refine eS ?_
  refine wn a4 ?_
  refine aE fun f5 b0 => ?_
  refine aI ?_
  refine aH ?_
  refine b0 _ _ ?_
  refine aE fun f6 b1 => ?_
  refine aN ?_
  refine aE fun f7 b2 => ?_
  obtain ⟨p, hp1⟩ : ∃ p, ps[k]? = some p := ⟨ps[k], zZc a9⟩
  have hat := Ah hp1
  obtain ⟨d0, d1, b3, b4, b5, d2, d3⟩ := Lss.get (hp.mono a3) hp1
  refine aB ?_
  refine dr (pP d0 (d1 + k * 1)) (bN (i := k) (sz := 1) Tryz.underlying219 (iR _) rfl b3 rfl (by omega) rfl) ?_
  refine dr _ (aD rfl (aQ (aZ _) (St.fz a2 d2))) ?_
  refine dy ?_
  simp only [pq]
  refine wlK b2 ?_
  refine aE fun f8 b6 => ?_
  refine aE fun f9 b7 => ?_
  obtain ⟨g0, c5, rfl, g1, d4⟩ := (a2.own (i := 0) rfl).shape
  unfold maxLen at d4
  have hlen : (kd :: (ps.take k).flatMap lU).length = 1 + ((ps.take k).flatMap lU).length := by rw [zZg]; omega
  refine aB ?_
  refine aC ?_
  refine lS ?_
  refine aC ?_
  refine cR ((((kd :: (ps.take k).flatMap lU).length + 2) : Nat) : Int) ?_
  refine aC ?_
  refine cR (((((kd :: (ps.take k).flatMap lU).length + 2) + p.length) : Nat) : Int) ?_
  refine lS ?_
  refine dp ?_
  simp only [pq]
  refine wlK b7 ?_
  refine aF ?_
  refine aH ?_
  refine b6 _ _ ?_
  refine aB ?_
  refine aC ?_
  refine dr (nI (p.length / 256)) (CC (m := p.length) (n := 8) rfl rfl (by decide)) ?_
  refine dr (bv (b8 (p.length / 256))) (aU (v := (nI (p.length / 256))) rfl (iZ (p.length / 256) _)) ?_
  refine aC ?_
  refine dr (bv (b8 p.length)) (aU (v := (nI p.length)) rfl (iZ p.length _)) ?_
  refine bH a2 (v := fun n => .slice (aA n 0) 2 2) rfl (cN (ps := #[(0, (bv (b8 (p.length / 256)))), (1, (bv (b8 p.length)))]) (cells := #[(bv (b8 (p.length / 256))), (bv (b8 p.length))]) (E := 5) (fD rfl rfl) (fun w => by kernel_rfl)) (fun b9 d5 d6 => ?_)
  simp only [pq]
  obtain ⟨c0, a5, c1⟩ := St.freezeBlk d6 (i := 0) rfl
  have d7 : Bs _ (.slice (some ⟨b9, 0, none⟩) 2 2) ([(b8 (p.length / 256)), (b8 p.length)] : By) := lK (l := ([(b8 (p.length / 256)), (b8 p.length)] : By)) c1 rfl (by unfold maxLen; simp)
  generalize addF F9 d5 b9 = c6 at *
  refine eH (r := 0) (u := (.slice (aA b9 0) 2 2)) c0 rfl i5 (.int .u8 0) 1 Tryz.underlying25 hi5 hz5 hs5 hb5 rfl (by decide) rfl rfl rfl (Sl.toW (Bs.sl d7) (c0).sat) ByC.one (zZe _) c0.gr.below.size (by unfold maxLen; simp only [zZf, zZg, zZj]; omega) (by simp only [zZf, zZg, zZj]; omega) ?_
  intro g2 g3 c2 d8
  refine dx ?_
  refine eH (r := 0) (u := (.slice b4 p.length b5)) c2 rfl i5 (.int .u8 0) 1 Tryz.underlying25 hi5 hz5 hs5 hb5 rfl (by decide) rfl rfl rfl (Sl.toW (Bs.sl (d3.mono a5)) (c2).sat) ByC.one (zZe _) c2.gr.below.size (by unfold maxLen; simp only [zZf, zZg, zZj]; omega) (by simp only [zZf, zZg, zZj]; omega) ?_
  intro c7 d9 a7 e0
  simp only [pq]
  have a7 : St w F d9 c6 [] [cU 1 ByC ByC.mono 5 w.heap.size c7 (((kd :: (ps.take k).flatMap lU) ++ ([(b8 (p.length / 256)), (b8 p.length)] : By)) ++ p)] := a7
  refine dy ?_
  refine wlK b1 ?_
  refine aB ?_
  refine cR (k + 1) ?_
  refine dx ?_
  simp only [pq]
  refine aG ?_
  rw [RC hp1 (by omega)] at a7
  exact a8 _ _ _ (by omega) ⟨(k + 1), c7, c6, _, rfl, rfl, rfl, a7, (a3.trans a5), (by omega)⟩
 ·refine eM ?_
  refine wn a4 ?_
  refine aE fun g4 e1 => ?_
  refine aF ?_
  refine cP ?_
  refine hK6 _ _ ?_
  refine aE fun g5 c3 => ?_
  have hend : ps.take k = ps := List.take_of_length_le (by omega)
  rw [hend] at a2
  obtain ⟨e2, a6, rfl, g6, e3⟩ := (a2.own (i := 0) rfl).shape
  unfold maxLen at e3
  obtain ⟨g7, c4, e4, a0⟩ := St.freeze a2 (i := 0) rfl (zZe _)
  have a0 : Bys _ (.slice e2 (zA kd ps).length a6) (zA kd ps) := a0
  have e5 := eF a0
  have hpl : (zA kd ps).length = 1 + (ps.flatMap lU).length := by unfold zA; rw [zZg]; omega
  refine aB ?_
  refine dx ?_
  refine aR c4 rfl (fn1 (JN _ _)) (NR _ _ _ (zA kd ps) (c4).sat (hT.at c4.gr.below) e5 (by omega)) ?_
  intro g8 g9 h0 e6 e7 c8
  obtain ⟨e8, e9, rfl, _⟩ := c8.shape
  refine aC ?_
  refine wlK c3 ?_
  refine aO ?_
  try simp only [xt]
  refine bR (cI rfl (gD rfl) (gD rfl)) ?_
  ·exact ⟨_, _, rfl, e6.gr, _, rfl, c8⟩
theorem RD {F : Fz} {v : Value} {l m : By} (h : Bs F v l) (e : l = m) : Bs F v m := e ▸ h
theorem WG (F : Fz) (w : World) (v : Value) (p : Pr) (hs : Sat w F) (hT : Tabs w) (hv : tM F v p) (hk : p.1.length ≤ 1000) (hx : p.2.length ≤ 1000) :
    Calls Tryz.prog 139 #[v] w (dF w F fun F' u => Bs F' u (LV p)) := by
 obtain ⟨x0, y0, x1, y1, rfl, h0, h1⟩ := hv
 have S := St.start hs
 go_enter Tryz.func139, Tryz.ntmps139
 refine sk fun K1 hK1 => ?_
 refine bH S (v := fun n => .pointer (aA n 0)) rfl (bX (v := (.agg #[(.slice x0 p.1.length y0), (.slice x1 p.2.length y1)])) rfl) (fun n2 w3 S4 => ?_)
 refine dy ?_
 refine wn hK1 ?_
 refine sk fun K5 hK5 => ?_
 refine aC ?_
 refine bH S4 (v := fun n => .slice (aA n 0) 2 2) rfl (cN (ps := #[(0, (.slice x0 p.1.length y0)), (1, (.slice x1 p.2.length y1))]) (cells := #[(.slice x0 p.1.length y0), (.slice x1 p.2.length y1)]) (E := 25) (fD rfl rfl) (fun w => by kernel_rfl)) (fun n6 w7 S8 => ?_)
 simp only [pq]
 obtain ⟨S9, a0, a2⟩ := St.freezeBlk S8 (i := 0) rfl
 have a6 : Lss _ (.slice (some ⟨n6, 0, none⟩) 2 2) ([p.1, p.2] : List By) := gP (R := LsC) (l := ([p.1, p.2] : List By)) (el := [[(.slice x0 p.1.length y0)], [(.slice x1 p.2.length y1)]]) a2 rfl ⟨⟨_, rfl, (h0.mono a0)⟩, ⟨_, rfl, (h1.mono a0)⟩, trivial⟩ (by simp) (by unfold maxLen; simp)
 generalize addF F w7 n6 = b0 at *
 refine aR S9 rfl (fn2 (JO _ _)) (wT _ _ _ 1 [p.1, p.2] (S9).sat (hT.at S9.gr.below) a6 (by simp [zR]; omega)) ?_
 intro b1 b2 b3 a7 a8 a9
 obtain ⟨b4, rfl, a1⟩ := a9
 obtain ⟨a3, a4, rfl, _⟩ := a1.shape
 have a1 : Bs _ (.slice a3 (LV p).length a4) (LV p) := a1
 refine aC ?_
 refine wn hK5 ?_
 refine sk fun b5 a5 => ?_
 refine aC ?_
 refine wn a5 ?_
 refine aO ?_
 try simp only [xt]
 refine bR (bA rfl (gD rfl)) ?_
 exact ⟨_, _, rfl, a7.gr, a1⟩
theorem WH (F : Fz) (w : World) (v u : Value) (bit : Nat) (a b : By) (hs : Sat w F) (hT : Tabs w) (h0 : Bs F v a) (h1 : Bs F u b) (hk : a.length ≤ 1000) (hx : b.length ≤ 1000) :
    Calls Tryz.prog 141 #[.int .i64 (bit : Nat), v, u] w (dF w F fun F' u => Bs F' u (CZ bit a b)) := by
 obtain ⟨x0, y0, rfl, _⟩ := h0.shape
 obtain ⟨x1, y1, rfl, _⟩ := h1.shape
 have S := St.start hs
 go_enter Tryz.func141, Tryz.ntmps141
 refine sk fun K1 hK1 => ?_
 refine dy ?_
 refine wn hK1 ?_
 refine sk fun K2 hK2 => ?_
 refine dx ?_
 refine dr (bv (b8 bit)) (aU (v := (nI bit)) rfl (iZ bit _)) ?_
 simp only [pq]
 refine bH S (v := fun n => .slice (aA n 0) 1 1) rfl (cN (ps := #[(0, (bv (b8 bit)))]) (cells := #[(bv (b8 bit))]) (E := 5) (cZ rfl) (fun w => by kernel_rfl)) (fun n3 w4 S5 => ?_)
 iterate 2 refine dx ?_
 refine bH S5 (v := fun n => .slice (aA n 0) 3 3) rfl (cN (ps := #[(0, (.slice (aA n3 0) 1 1)), (1, (.slice x0 a.length y0)), (2, (.slice x1 b.length y1))]) (cells := #[(.slice (aA n3 0) 1 1), (.slice x0 a.length y0), (.slice x1 b.length y1)]) (E := 25) (LY rfl rfl rfl) (fun w => by kernel_rfl)) (fun n6 w7 S8 => ?_)
 simp only [pq]
 obtain ⟨S9, a1, a3⟩ := St.freezeBlk S8 (i := 1) rfl
 have a9 : Bs _ (.slice (some ⟨n3, 0, none⟩) 1 1) ([(b8 bit)] : By) := lK (l := ([(b8 bit)] : By)) a3 rfl (by unfold maxLen; simp)
 generalize addF F w7 n3 = b0 at *
 obtain ⟨a4, a0, a5⟩ := St.freezeBlk S9 (i := 0) rfl
 have b1 : Lss _ (.slice (some ⟨n6, 0, none⟩) 3 3) ([([(b8 bit)] : By), a, b] : List By) := gP (R := LsC) (l := ([([(b8 bit)] : By), a, b] : List By)) (el := [[(.slice (some ⟨n3, 0, none⟩) 1 1)], [(.slice x0 a.length y0)], [(.slice x1 b.length y1)]]) a5 rfl ⟨⟨_, rfl, (a9.mono a0)⟩, ⟨_, rfl, ((h0.mono a1).mono a0)⟩, ⟨_, rfl, ((h1.mono a1).mono a0)⟩, trivial⟩ (by simp) (by unfold maxLen; simp)
 generalize addF b0 w7 n6 = b5 at *
 refine aR a4 rfl (fn2 (JO _ _)) (wT _ _ _ 2 [([(b8 bit)] : By), a, b] (a4).sat (hT.at a4.gr.below) b1 (by simp [zR]; omega)) ?_
 intro b6 b7 b9 b2 b3 b4
 obtain ⟨c0, rfl, a2⟩ := b4
 obtain ⟨a6, a7, rfl, _⟩ := a2.shape
 have a2 : Bs _ (.slice a6 (CZ bit a b).length a7) (CZ bit a b) := a2
 refine aC ?_
 refine wn hK2 ?_
 refine sk fun c1 a8 => ?_
 refine aC ?_
 refine wn a8 ?_
 refine aO ?_
 try simp only [xt]
 refine bR (bA rfl (gD rfl)) ?_
 ·exact ⟨_, _, rfl, b2.gr, a2⟩
theorem NS {l : List Pr} {bit n : Nat} {p : Pr} (hlo : ∀ (i : Nat) (h : i < l.length), i < n → dJ l[i].1 bit = false) (hp : l[n]? = some p) (hb : dJ p.1 bit = false) : ∀ (i : Nat) (h : i < l.length), i < n + 1 → dJ l[i].1 bit = false := by
 intro i h hi
 by_cases e : i = n
 ·subst e; obtain ⟨_, e⟩ := List.getElem?_eq_some_iff.1 hp; rw [e]; exact hb
 ·exact hlo i h (by omega)
theorem TZ {F : Fz} {w : World} {v u : Value} {a b : By} {n : Nat} (hs : Sat w F) (hv : Bs F v a) (hu : Bs F u b) (h : pT a b = n) (ha : 1 ≤ a.length ∧ a.length ≤ 16) (hb : 1 ≤ b.length ∧ b.length ≤ 16) :
    Calls Tryz.prog 142 #[v, u] w fun e w' => e = .returned (.tuple #[.int .i64 (n : Nat), .int .i64 0]) ∧ w' = w := by
 have := UP F w v u a b hs hv hu ha.1 ha.2 hb.1 hb.2
 rwa [h] at this
theorem NT (F : Fz) (w : World) (v : Value) (l : List Pr) (hs : Sat w F) (hv : Prs F v l) (hk : KeysOk l) (h2 : 2 ≤ l.length) (e1 : l.length ≤ 60) :
    Calls Tryz.prog 140 #[v] w (cT w (.tuple #[.int .i64 (aY l : Nat), .int .i64 (bC (aY l) l : Nat)])) := by
 obtain ⟨a, c, rfl, hc1, hc2⟩ := Sl.shape hv
 unfold maxLen at hc2
 have S := St.start hs
 go_enter Tryz.func140, Tryz.ntmps140
 refine sk fun K1 hK1 => ?_
 iterate 2 refine dy ?_
 refine wn hK1 ?_
 refine aE fun K2 hK2 => ?_
 obtain ⟨p0, hp0⟩ : ∃ p, l[0]? = some p := ⟨l[0], zZc (by omega)⟩
 obtain ⟨p1, hp1⟩ : ∃ p, l[l.length - 1]? = some p := ⟨l[l.length - 1], zZc (by omega)⟩
 have hq0 := hk.key p0 (zZi hp0)
 have hq1 := hk.key p1 (zZi hp1)
 obtain ⟨hb1, hpb, _, _⟩ := oD hk h2
 rw [(List.getElem?_eq_some_iff.1 hp0).2, (List.getElem?_eq_some_iff.1 hp1).2] at hpb
 obtain ⟨b3, o4, ha5, xa7, xc8, c7, c8, c6, e2, r9, e3⟩ := Prs.get hv hp0
 obtain ⟨e4, e5, a8, a1, a2, c9, d0, d1, e6, d2, e7⟩ := Prs.get hv hp1
 have hq_ := ha5.symm.trans a8; injection hq_ with hq_; injection hq_ with hq1_ hq2_; subst hq1_; subst hq2_
 refine aP F 16 [(11, .is (.tuple #[(nI (aY l)), (iI 0)]))] (by kernel_rfl) (by kernel_rfl) ?_
 simp only [dA]
 refine gm ?_
 simp only [pq]
 refine gv (pP b3 (o4 + 0 * 2)) (fun _ _ => bN (i := 0) (sz := 2) Tryz.underlying47 (bI _) rfl ha5 rfl (by omega) rfl) ?_
 refine gf (lY _ _) ?_
 refine gv _ (fun _ a3 => aD rfl (aQ (aZ _) (St.fz (St.tells S a3) c6))) ?_
 simp only [pq]
 iterate 2 refine gm ?_
 refine gv (nI l.length) (fun _ _ => oO Tryz.underlying47 rfl) ?_
 simp only [pq]
 refine gv (nI (l.length - 1)) (fun _ _ => rU (m := ((l.length : Nat) : Int)) (n := (1 : Int)) (r := (((l.length - 1) : Nat) : Int)) rfl rfl (by omega) (by omega) (by omega)) ?_
 refine gv (pP b3 (o4 + (l.length - 1) * 2)) (fun _ _ => bN (i := (l.length - 1)) (sz := 2) Tryz.underlying47 (bI _) rfl ha5 rfl (by omega) rfl) ?_
 refine gf (lY _ _) ?_
 simp only [pq]
 refine gv _ (fun _ a3 => aD rfl (aQ (aZ _) (St.fz (St.tells S a3) d1))) ?_
 simp only [pq]
 refine fT rfl rfl (v := (.tuple #[(nI (aY l)), (iI 0)])) (fun e8 a3 _ => bQ (cB (vs := #[(.slice xa7 p0.1.length xc8), (.slice a1 p1.1.length a2)]) (gK rfl rfl) rfl (TL _ _)) (fE (dL (TZ ((St.tells S a3)).sat r9 d2 hpb hq0 hq1)))) ?_
 refine gm ?_
 refine gv (nI (aY l)) (fun _ _ => cC rfl rfl) ?_
 refine gv (iI 0) (fun _ _ => cC rfl rfl) ?_
 simp only [pq]
 refine ga ?_
 refine bU ?_
 intro e9 a9 b0
 clear b0
 have d3 := St.tells S a9
 simp only [dB]
 refine dy ?_
 refine wlK hK2 ?_
 refine sk fun f0 b1 => ?_
 refine dy ?_
 simp only [pq]
 refine wn b1 ?_
 refine aE fun f1 a4 => ?_
 refine aN ?_
 refine aX (fun mm aa d4 => ∃ (n : Nat) (a5 : Nat → Value), mm = l.length - n ∧ a5 = dX aa ∧ aa = ⟨([(.slice a l.length c), undef, (iI 0), (iI 0), (nI (aY l)), (iI 0), (nI n), (a5 7), (a5 8), (.tuple #[(nI (aY l)), (iI 0)]), (.slice a l.length c), (pP b3 (o4 + 0 * 2)), (pP b3 (o4 + 0 * 2)), (.slice xa7 p0.1.length xc8), (.slice a l.length c), (.slice a l.length c), (nI l.length), (nI (l.length - 1)), (pP b3 (o4 + (l.length - 1) * 2)), (pP b3 (o4 + (l.length - 1) * 2)), (.slice a1 p1.1.length a2), (.tuple #[(nI (aY l)), (iI 0)]), (nI (aY l)), (iI 0)] ++ (usF a5 24 17 [undef, undef])).toArray, []⟩ ∧ St w F d4 F [] [] ∧ (n ≤ l.length) ∧ (∀ (i : Nat) (h : i < l.length), i < n → dJ l[i].1 (aY l) = false)) _ ⟨0, _, rfl, rfl, rfl, d3, (by omega), (fun i _ h => by omega)⟩ ?_
 rintro f2 f3 f4 ⟨n, a5, rfl, -, hfr, a7, hn, hlo⟩ f5 b2
 simp only [uzF, Nat.reduceAdd] at hfr; subst hfr
 refine aE fun f6 b4 => ?_
 refine sk fun f7 a6 => ?_
 refine aC ?_
 by_cases b5 : n < l.length
 refine eS ?_
 refine wn a6 ?_
 refine aI ?_
 refine aH ?_
 refine b4 _ _ ?_
 refine aN ?_
 refine aE fun f8 b6 => ?_
 refine aE fun f9 b7 => ?_
 obtain ⟨p, hp⟩ : ∃ p, l[n]? = some p := ⟨l[n], zZc b5⟩
 have hpp := hk.key p (zZi hp)
 obtain ⟨d5, d6, b9, c0, c1, d7, d8, d9, g0, e0, g1⟩ := Prs.get hv hp
 refine aB ?_
 iterate 2 refine dx ?_
 refine dr (pP d5 (d6 + n * 2)) (bN (i := n) (sz := 2) Tryz.underlying47 (bI _) rfl b9 rfl (by omega) rfl) ?_
 simp only [pq]
 refine df (lY _ _) ?_
 refine dr _ (aD rfl (aQ (aZ _) (St.fz a7 d9))) ?_
 refine dx ?_
 simp only [pq]
 refine aJ (v := (.tuple #[(.bool (dJ p.1 (aY l))), (iI 0)])) a7 rfl (cB (vs := #[(.slice c0 p.1.length c1), (nI (aY l))]) (gK rfl rfl) rfl (JQ _ _)) (dL (yX _ _ _ p.1 _ (a7).sat e0 hpp.1 hpp.2 (by omega) (by omega))) (fun g2 c5 => ?_)
 refine aC ?_
 refine wlK b7 ?_
 refine sk fun g3 c2 => ?_
 refine dx ?_
 simp only [pq]
 refine wn c2 ?_
 refine wp_cond_split rfl (fun a0 => ?_) (fun a0 => ?_)
 refine cP ?_
 refine a4 _ _ ?_
 refine sk fun g4 c3 => ?_
 refine aC ?_
 refine wn c3 ?_
 refine aO ?_
 try simp only [xt]
 refine bR (cI rfl (gD rfl) (gD rfl)) ?_
 obtain rfl : bC (aY l) l = n := nW hn hlo (fun h => by obtain ⟨_, e⟩ := List.getElem?_eq_some_iff.1 hp; rw [e]; exact a0)
 exact ⟨rfl, c5.gr.below⟩
 refine aH ?_
 refine b6 _ _ ?_
 refine aB ?_
 refine dx ?_
 refine cR (n + 1) ?_
 refine dy ?_
 simp only [pq]
 refine aG ?_
 exact b2 _ _ _ (by omega) ⟨(n + 1), _, rfl, rfl, rfl, c5, (by omega), (NS hlo hp a0)⟩
 refine eM ?_
 refine wn a6 ?_
 refine aF ?_
 refine cP ?_
 refine a4 _ _ ?_
 refine sk fun g5 c4 => ?_
 refine aC ?_
 refine wn c4 ?_
 refine aO ?_
 try simp only [xt]
 refine bR (cI rfl (gD rfl) (gD rfl)) ?_
 obtain rfl : bC (aY l) l = n := nW hn hlo (fun h => by omega)
 exact ⟨rfl, a7.gr.below⟩
theorem WI {l : List Pr} (h : KeysOk l) (n : Nat) : KeysOk (l.take n) := h.sub (List.take_sublist _ _)
theorem WJ {l : List Pr} (h : KeysOk l) (n : Nat) : KeysOk (l.drop n) := h.sub (List.drop_sublist _ _)
theorem WK (m : Nat) (ih : ∀ (F : Fz) (w : World) (v : Value) (l : List Pr), Sat w F → Tabs w → Prs F v l → KeysOk l → 1 ≤ l.length → l.length ≤ 60 → l.length ≤ m → (∀ p ∈ l, p.2.length ≤ 32) →
      Calls Tryz.prog 122 #[v] w (dF w F fun F' u => Bs F' u (eD l)))
    (F : Fz) (w : World) (v : Value) (l : List Pr) (hs : Sat w F) (hT : Tabs w) (hv : Prs F v l) (hk : KeysOk l) (h1 : 1 ≤ l.length) (b9 : l.length ≤ 60) (hm : l.length ≤ m + 1) (hx : ∀ p ∈ l, p.2.length ≤ 32) :
    Calls Tryz.prog 122 #[v] w (dF w F fun F' u => Bs F' u (eD l)) := by
 obtain ⟨a, c, rfl, hc1, hc2⟩ := Sl.shape hv
 unfold maxLen at hc2
 have S := St.start hs
 go_enter Tryz.func122, Tryz.ntmps122
 refine sk fun K1 hK1 => ?_
 refine dy ?_
 refine wn hK1 ?_
 refine aE fun K2 hK2 => ?_
 refine sk fun K3 hK3 => ?_
 refine aC ?_
 by_cases hc7 : l.length = 1
 refine iA ?_
 refine wn hK3 ?_
 refine aI ?_
 refine aE fun K4 hK4 => ?_
 obtain ⟨p, hp⟩ : ∃ p, l[0]? = some p := ⟨l[0], zZc (by omega)⟩
 have hp1 := (hk.key p (zZi hp)).2
 have hp2 := hx p (zZi hp)
 have hone : l = [p] := by obtain ⟨q, rfl⟩ := List.length_eq_one_iff.1 (show l.length = 1 by omega); simp at hp; rw [hp]
 obtain ⟨b5, o6, ha7, xa9, c0, c1, c2, c8, c3, c4, c5⟩ := Prs.get hv hp
 refine aB ?_
 refine dx ?_
 refine dr (pP b5 (o6 + 0 * 2)) (bN (i := 0) (sz := 2) Tryz.underlying47 (bI _) rfl ha7 rfl (by omega) rfl) ?_
 refine dr _ (aD rfl (cV Tryz.underlying50 rfl (dO) (jI (St.fz S c8) (St.fz S c3)))) ?_
 simp only [pq]
 refine aR S rfl (fn1 (Dy _ _)) (WG _ _ _ p (S).sat (hT.at S.gr.below) ⟨_, _, _, _, rfl, c4, c5⟩ (by omega) (by omega)) ?_
 intro d4 d5 d6 c6 c7 b3
 obtain ⟨c9, d0, rfl, _⟩ := b3.shape
 refine dy ?_
 refine wlK hK4 ?_
 refine aO ?_
 try simp only [xt]
 refine bR (bA rfl (gD rfl)) ?_
 exact ⟨_, _, rfl, c6.gr, RD b3 (by rw [hone]; exact (VB p).symm)⟩
 refine gH ?_
 refine wn hK3 ?_
 refine aF ?_
 refine aH ?_
 refine hK2 _ _ ?_
 refine aE fun d7 a6 => ?_
 have hl2 : 2 ≤ l.length := by omega
 obtain ⟨hn1, hn2⟩ := oM hk hl2
 have hb1 := (oD hk hl2).1
 refine aB ?_
 refine dx ?_
 simp only [pq]
 refine aJ (v := (.tuple #[(nI (aY l)), (nI (bC (aY l) l))])) S rfl (fn1 (Dz _ _)) (NT _ _ _ l (S).sat hv hk hl2 b9) (fun d8 d1 => ?_)
 refine aC ?_
 refine wlK a6 ?_
 refine aE fun d9 a7 => ?_
 have hfl : Prs _ (.slice a (bC (aY l) l) c) (l.take (bC (aY l) l)) := Sl.takeN hv (by omega)
 have hfr : Prs _ (.slice (if c = (bC (aY l) l) then a else a.map (·.add ((bC (aY l) l) * 2))) (l.length - (bC (aY l) l)) (c - (bC (aY l) l))) (l.drop (bC (aY l) l)) := Sl.dropD (by decide) hv (by omega)
 refine gC d1 (by kernel_rfl) (fun e0 a1 => ?_)
 refine dN 0 rfl a1.sat ?_
 simp only [pq]
 refine dN 1 rfl a1.sat ?_
 simp only [pq]
 refine dN 2 rfl a1.sat ?_
 simp only [pq]
 refine bW 3 rfl (.slice a (bC (aY l) l) c) a1.sat (fun _ _ => bD (l := 0) (h := (bC (aY l) l)) (sz := 2) Tryz.underlying47 rfl (bI _) (.inl ⟨rfl, rfl⟩) (.inr ⟨_, rfl, rfl⟩) (by omega) (by omega) (eZ)) ?_
 simp only [pq]
 refine dN 5 rfl a1.sat ?_
 simp only [pq]
 refine dN 6 rfl a1.sat ?_
 simp only [pq]
 refine bW 7 rfl (.slice (if c = (bC (aY l) l) then a else a.map (·.add ((bC (aY l) l) * 2))) (l.length - (bC (aY l) l)) (c - (bC (aY l) l))) a1.sat (fun _ _ => bD (l := (bC (aY l) l)) (h := l.length) (sz := 2) Tryz.underlying47 rfl (bI _) (.inr ⟨_, rfl, rfl⟩) (.inl ⟨rfl, rfl⟩) (by omega) (by omega) (rfl)) ?_
 simp only [pq]
 refine cW 4 (by kernel_rfl) rfl ?_
 refine aR a1 rfl (fn1 (JP _ _)) (ih _ _ _ (l.take (bC (aY l) l)) (a1).sat (hT.at a1.gr.below) hfl (WI hk _) (by rw [zZh]; omega) (by rw [zZh]; omega) (by rw [zZh]; omega) (fun q hq => hx q (List.mem_of_mem_take hq))) ?_
 intro e1 e2 e3 a4 a0 b4
 obtain ⟨a8, a9, rfl, _⟩ := b4.shape
 refine aG (cA (Sat.le a4.sat a0) ?_)
 refine cW 8 (by kernel_rfl) rfl ?_
 refine aR a4 rfl (cB (vs := #[(.slice (if c = (bC (aY l) l) then a else a.map (·.add ((bC (aY l) l) * 2))) (l.length - (bC (aY l) l)) (c - (bC (aY l) l)))]) (jQ rfl) rfl (JP _ _)) (ih _ _ _ (l.drop (bC (aY l) l)) (a4).sat (hT.at a4.gr.below) (hfr.mono a0) (WJ hk _) (by rw [zZn]; omega) (by rw [zZn]; omega) (by rw [zZn]; omega) (fun q hq => hx q (List.mem_of_mem_drop hq))) ?_
 intro e4 e5 e6 a5 a2 b6
 obtain ⟨b0, b1, rfl, _⟩ := b6.shape
 simp only [pq]
 refine aG (cA (Sat.le a5.sat (a0.trans a2)) ?_)
 refine cW 9 (by kernel_rfl) rfl ?_
 refine aR a5 rfl (cB (vs := #[(nI (aY l)), (.slice a8 (eD (l.take (bC (aY l) l))).length a9), (.slice b0 (eD (l.drop (bC (aY l) l))).length b1)]) (JA rfl rfl rfl) rfl (Ea _ _)) (WH _ _ _ _ (aY l) (eD (l.take (bC (aY l) l))) (eD (l.drop (bC (aY l) l))) (a5).sat (hT.at a5.gr.below) (b4.mono a2) b6 (by rw [zC]; omega) (by rw [zC]; omega)) ?_
 intro e7 e8 e9 b2 a3 b7
 obtain ⟨d2, d3, rfl, _⟩ := b7.shape
 refine aG (cA (Sat.le b2.sat ((a0.trans a2).trans a3)) ?_)
 refine eU 10 rfl (Sat.le b2.sat ((a0.trans a2).trans a3)) ?_
 simp only [pq]
 refine gX (by kernel_rfl) ?_
 refine a7 _ _ ?_
 refine aO ?_
 try simp only [xt]
 refine bR (bA rfl (gD rfl)) ?_
 exact ⟨_, _, rfl, b2.gr, RD b7 (PV hk hl2).symm⟩
theorem WM (m : Nat) : ∀ (F : Fz) (w : World) (v : Value) (l : List Pr), Sat w F → Tabs w → Prs F v l → KeysOk l → 1 ≤ l.length → l.length ≤ 60 → l.length ≤ m → (∀ p ∈ l, p.2.length ≤ 32) →
      Calls Tryz.prog 122 #[v] w (dF w F fun F' u => Bs F' u (eD l)) := by
 induction m with
 | zero => intro F w v l _ _ _ _ h1 _ hm; omega
 | succ m ih => intro F w v l hs hT hv hk h1 a0 hm hx; exact WK m ih F w v l hs hT hv hk h1 a0 hm hx
theorem WN (F : Fz) (w : World) (v : Value) (l : List Pr) (hs : Sat w F) (hT : Tabs w) (hv : Prs F v l) (ok : TreeOk 60 l) (hz : 1 ≤ l.length) :
    Calls Tryz.prog 100 #[v] w (dF w F (WE (eD l) 0)) := by
 obtain ⟨a, c, rfl, hc1, hc2⟩ := Sl.shape hv
 unfold maxLen at hc2
 have S := St.start hs
 go_enter Tryz.func100, Tryz.ntmps100
 refine sk fun K1 hK1 => ?_
 iterate 2 refine dy ?_
 refine wn hK1 ?_
 refine aE fun K2 hK2 => ?_
 refine sk fun K3 hK3 => ?_
 refine dx ?_
 simp only [pq]
 refine aJ (v := (iI 0)) S rfl (fn1 (wH _ _)) (rD _ _ _ l (S).sat hv ok) (fun w4 S5 => ?_)
 refine dy ?_
 refine wn hK3 ?_
 refine sk fun K6 hK6 => ?_
 refine dx ?_
 refine jJ ?_
 simp only [pq]
 refine wn hK6 ?_
 refine aF ?_
 refine aH ?_
 refine hK2 _ _ ?_
 refine aE fun K7 hK7 => ?_
 refine sk fun K8 hK8 => ?_
 refine aC ?_
 refine gH ?_
 simp only [pq]
 refine wn hK8 ?_
 refine aF ?_
 refine aH ?_
 refine hK7 _ _ ?_
 refine sk fun K9 hK9 => ?_
 refine dx ?_
 refine aR S5 rfl (fn1 (JP _ _)) (WM l.length _ _ _ l (S5).sat (hT.at S5.gr.below) hv ok.keys (by omega) ok.len (zZe _) (fun p hp => (ok.ok p hp).2.2)) ?_
 intro a5 a6 a7 a1 a2 a0
 obtain ⟨a3, a4, rfl, _⟩ := a0.shape
 refine aC ?_
 refine wn hK9 ?_
 refine aO ?_
 try simp only [xt]
 refine bR (cI rfl (gD rfl) (gD rfl)) ?_
 exact ⟨_, _, rfl, a1.gr, _, rfl, a0⟩
theorem RE (F : Fz) (w : World) (v : Value) (l : List Pr) (hs : Sat w F) (hT : Tabs w) (hv : Prs F v l) (ok : TreeOk 60 l) (hz : l.length = 0) :
    Calls Tryz.prog 100 #[v] w (dF w F (WE (eD l) 0)) := by
 obtain ⟨a, c, rfl, hc1, hc2⟩ := Sl.shape hv
 unfold maxLen at hc2
 have S := St.start hs
 go_enter Tryz.func100, Tryz.ntmps100
 refine sk fun K1 hK1 => ?_
 iterate 2 refine dy ?_
 refine wn hK1 ?_
 refine aE fun K2 hK2 => ?_
 refine sk fun K3 hK3 => ?_
 refine dx ?_
 simp only [pq]
 refine aJ (v := (iI 0)) S rfl (fn1 (wH _ _)) (rD _ _ _ l (S).sat hv ok) (fun w4 S5 => ?_)
 refine dy ?_
 refine wn hK3 ?_
 refine sk fun K6 hK6 => ?_
 refine dx ?_
 refine jJ ?_
 simp only [pq]
 refine wn hK6 ?_
 refine aF ?_
 refine aH ?_
 refine hK2 _ _ ?_
 refine aE fun K7 hK7 => ?_
 refine sk fun K8 hK8 => ?_
 refine aC ?_
 refine iA ?_
 simp only [pq]
 refine wn hK8 ?_
 refine aI ?_
 refine sk fun K9 hK9 => ?_
 refine aR S5 rfl (fn2 (JO _ _)) (wT _ _ _ 0 [] (S5).sat (hT.at S5.gr.below) (Sl.nil 1 LsC _) (by simp)) ?_
 intro a6 a7 a8 a3 a4 a5
 obtain ⟨a9, rfl, a0⟩ := a5
 obtain ⟨a1, a2, rfl, _⟩ := a0.shape
 have a0 : Bs _ (.slice a1 (eD ([] : List Pr)).length a2) (eD ([] : List Pr)) := a0
 refine aC ?_
 refine wn hK9 ?_
 refine aO ?_
 try simp only [xt]
 refine bR (cI rfl (gD rfl) (gD rfl)) ?_
 exact ⟨_, _, rfl, a3.gr, _, rfl, RD a0 (by rw [List.eq_nil_of_length_eq_zero hz])⟩
theorem vI (F : Fz) (w : World) (v : Value) (l : List Pr) (hs : Sat w F) (hT : Tabs w) (hv : Prs F v l) (ok : TreeOk 60 l) :
    Calls Tryz.prog 100 #[v] w (dF w F (WE (eD l) 0)) := by
 rcases Nat.eq_zero_or_pos l.length with h | h
 ·exact RE F w v l hs hT hv ok h
 ·exact WN F w v l hs hT hv ok h
def Iw (F : Fz) (v : Value) (p : Prf) : Prop := ∃ a c ka kc va vc, v = .agg #[.bool p.empty, .slice a p.steps.length c, .slice ka p.pair.1.length kc, .slice va p.pair.2.length vc] ∧ Stps F (.slice a p.steps.length c) p.steps ∧ Bs F (.slice ka p.pair.1.length kc) p.pair.1 ∧ Bs F (.slice va p.pair.2.length vc) p.pair.2
def yQ (w : World) (F : Fz) (p : Prf) (e : Ending) (w' : World) : Prop := ∃ v ka kc va vc F', e = .returned (.tuple #[.agg #[.bool p.empty, v, .slice ka p.pair.1.length kc, .slice va p.pair.2.length vc], .int .i64 0]) ∧ Gr w F w' F' ∧ Own 3 StpC 204 w.heap.size w' F' v p.steps ∧ Bs F' (.slice ka p.pair.1.length kc) p.pair.1 ∧ Bs F' (.slice va p.pair.2.length vc) p.pair.2
theorem WO (F : Fz) (w : World) (v : Value) (p : Pr) (hs : Sat w F) (hv : tM F v p) (hk : p.1.length ≤ 100000) (hx : p.2.length ≤ 100000) :
    Calls Tryz.prog 125 #[v] w (dF w F fun F' u => tM F' u p) := by
 obtain ⟨x0, y0, x1, y1, rfl, h0, h1⟩ := hv
 have S := St.start hs
 go_enter Tryz.func125, Tryz.ntmps125
 refine sk fun K1 hK1 => ?_
 refine bH S (v := fun n => .pointer (aA n 0)) rfl (bX (v := (.agg #[(.slice x0 p.1.length y0), (.slice x1 p.2.length y1)])) rfl) (fun n2 w3 S4 => ?_)
 refine sA S4 (uX _) fun n5 w6 S7 => ?_
 refine wn hK1 ?_
 refine aE fun K8 hK8 => ?_
 refine aP F 5 [(2, .made (fun F' u => Bs F' u p.1))] (by kernel_rfl) (by kernel_rfl) ?_
 simp only [dA]
 refine gf (lY _ _) ?_
 refine gl aZ S7 1 ?_
 simp only [pq]
 refine eE rfl rfl (fun w9 C9 hF => bQ (cB (vs := #[(.slice x0 p.1.length y0)]) (jQ rfl) rfl (gM _ _)) (dQ S7.sat C9 (dG _ _ _ p.1 ((St.tells S7 C9)).sat h0 (by omega)))) (fun b6 => ?_)
 refine gf (rZ _ _) ?_
 refine gl aZ S7 1 ?_
 refine bU ?_
 intro b7 b2 a0
 obtain ⟨b3, a7, b4⟩ := a0.get 2 rfl rfl
 have a8 := St.gives S7 a7
 have a1 : Le _ _ := a7.le S7.sat
 have a9 := b4
 generalize b3 = b9 at *
 obtain ⟨a2, a3, rfl, _⟩ := a9.shape
 clear a0
 simp only [dB]
 refine aR a8 rfl (fn1 (gM _ _)) (dG _ _ _ p.2 (a8).sat (h1.mono a1) (by omega)) ?_
 intro c0 c1 c2 b5 a4 b0
 obtain ⟨a5, a6, rfl, _⟩ := b0.shape
 simp only [pq]
 refine dr (.agg #[(.slice a2 p.1.length a3), (.slice a5 p.2.length a6)]) (aK (fD rfl rfl) (by kernel_rfl)) ?_
 refine sW 0 b5 (dO) fun c3 b1 => ?_
 refine wlK hK8 ?_
 refine aO ?_
 try simp only [xt]
 refine bR (lJ rfl ⟨_, rfl, lR b1 0 Tryz.underlying50 (dO)⟩) ?_
 exact ⟨_, _, rfl, b1.gr, ⟨_, _, _, _, rfl, (a9.mono a4), b0⟩⟩
theorem EV (F : Fz) (w : World) (v : Value) (p : Pr) (b n : Nat) (hs : Sat w F) (hv : tM F v p) (hb : cS F b 0 = some (.int .i64 (n : Nat))) (hn : n < 145) (hk : 1 ≤ p.1.length ∧ p.1.length ≤ 16) :
    Calls Tryz.prog 144 #[v, .pointer (some ⟨b, 0, none⟩)] w (cT w (.bool (dJ p.1 n))) := by
 obtain ⟨x0, y0, x1, y1, rfl, h0, h1⟩ := hv
 have S := St.start hs
 go_enter Tryz.func144, Tryz.ntmps144
 refine sk fun K1 hK1 => ?_
 refine bH S (v := fun n => .pointer (aA n 0)) rfl (bX (v := (.agg #[(.slice x0 p.1.length y0), (.slice x1 p.2.length y1)])) rfl) (fun n2 w3 S4 => ?_)
 refine dy ?_
 refine wn hK1 ?_
 refine sk fun K5 hK5 => ?_
 refine aC ?_
 refine dr _ (aD rfl (aQ (bM _) (St.fz S4 hb))) ?_
 simp only [pq]
 refine aJ (v := (.tuple #[(.bool (dJ p.1 n)), (iI 0)])) S4 rfl (cB (vs := #[(.slice x0 p.1.length y0), (nI n)]) (gK rfl rfl) rfl (JQ _ _)) (dL (yX _ _ _ p.1 _ (S4).sat h0 hk.1 hk.2 (by omega) (by omega))) (fun w6 S7 => ?_)
 refine aC ?_
 refine wn hK5 ?_
 refine sk fun K8 hK8 => ?_
 refine aC ?_
 refine wn hK8 ?_
 refine aO ?_
 try simp only [xt]
 refine bR (bA rfl (gD rfl)) ?_
 exact ⟨rfl, S7.gr.below⟩
theorem EW (F : Fz) (w : World) (v : Value) (l : List Pr) (b : Nat) (hs : Sat w F) (hv : Prs F v l) (hb : cS F b 0 = some (.int .i64 (aY l : Nat))) (hk : KeysOk l) (h2 : 2 ≤ l.length) (c4 : l.length ≤ 60) :
    Calls Tryz.prog 143 #[v, .func (.func 144) #[] #[.pointer (some ⟨b, 0, none⟩)]] w (cT w (.int .i64 (bC (aY l) l : Nat))) := by
 obtain ⟨a, c, rfl, hc1, hc2⟩ := Sl.shape hv
 unfold maxLen at hc2
 have S := St.start hs
 go_enter Tryz.func143, Tryz.ntmps143
 refine sk fun K1 hK1 => ?_
 refine dy ?_
 refine wn hK1 ?_
 refine aE fun K2 hK2 => ?_
 refine sk fun K3 hK3 => ?_
 refine aC ?_
 refine wn hK3 ?_
 refine aN ?_
 refine aX (fun mm aa w5 => ∃ (k : Nat) (u4 : Nat → Value), mm = l.length - k ∧ u4 = dX aa ∧ aa = ⟨([(.slice a l.length c), (.func (.func 144) #[] #[(pP b 0)]), undef, undef, (u4 4), (u4 5), (.slice a l.length c), (nI l.length), (nI k)] ++ (usF u4 9 10 [])).toArray, []⟩ ∧ St w F w5 F [] [] ∧ (k ≤ l.length) ∧ (∀ (i : Nat) (h : i < l.length), i < k → dJ l[i].1 (aY l) = false)) _ ⟨0, _, rfl, rfl, rfl, S, (by omega), (fun i _ h => by omega)⟩ ?_
 rintro m6 a7 w8 ⟨k, u4, rfl, -, hfr, S9, hkl, hlo⟩ c5 a6
 simp only [uzF, Nat.reduceAdd] at hfr; subst hfr
 refine sk fun c6 a1 => ?_
 by_cases hc9 : k < l.length
 refine eS ?_
 refine wn a1 ?_
 refine aE fun c7 a8 => ?_
 refine aI ?_
 refine aH ?_
 refine a8 _ _ ?_
 refine aE fun c8 a9 => ?_
 refine aN ?_
 refine sk fun c9 b0 => ?_
 refine aC ?_
 refine wn b0 ?_
 refine aE fun d0 b1 => ?_
 obtain ⟨p, hp⟩ : ∃ p, l[k]? = some p := ⟨l[k], zZc hc9⟩
 have hpp := hk.key p (zZi hp)
 obtain ⟨b6, b7, b2, a2, a3, a4, a5, b9, c0, c1, c2⟩ := Prs.get hv hp
 refine aB ?_
 refine aC ?_
 refine dr (pP b6 (b7 + k * 2)) (bN (i := k) (sz := 2) Tryz.underlying47 (bI _) rfl b2 rfl (by omega) rfl) ?_
 refine dr _ (aD rfl (cV Tryz.underlying50 rfl (dO) (jI (St.fz S9 b9) (St.fz S9 c0)))) ?_
 refine aJ (v := (.bool (dJ p.1 (aY l)))) S9 rfl (tK (fs := #[]) (cs := #[(pP b 0)]) (vs := #[(.agg #[(.slice a2 p.1.length a3), (.slice a4 p.2.length a5)]), (pP b 0)]) rfl (DI (fs := #[]) (cs := #[(pP b 0)]) (xs := #[(.agg #[(.slice a2 p.1.length a3), (.slice a4 p.2.length a5)])]) (jQ rfl) (by simp)) (Ec _ _)) (EV _ _ _ p b (aY l) (S9).sat ⟨_, _, _, _, rfl, c1, c2⟩ hb (oD hk h2).1 hpp) (fun d1 b5 => ?_)
 refine wlK b1 ?_
 refine wp_cond_split rfl (fun a0 => ?_) (fun a0 => ?_)
 refine sk fun d2 b3 => ?_
 refine aC ?_
 refine wn b3 ?_
 refine aO ?_
 try simp only [xt]
 refine bR (bA rfl (gD rfl)) ?_
 obtain rfl : (bC (aY l) l) = k := nW (by omega) hlo (fun h => by obtain ⟨_, e⟩ := List.getElem?_eq_some_iff.1 hp; rw [e]; exact a0)
 exact ⟨rfl, b5.gr.below⟩
 refine aH ?_
 refine a9 _ _ ?_
 refine aB ?_
 refine cR (k + 1) ?_
 refine dx ?_
 refine aG ?_
 exact a6 _ _ _ (by omega) ⟨(k + 1), _, rfl, rfl, rfl, b5, (by omega), (NS hlo hp a0)⟩
 refine eM ?_
 simp only [pq]
 refine wn a1 ?_
 refine aE fun d3 c3 => ?_
 refine aF ?_
 refine cP ?_
 refine hK2 _ _ ?_
 refine sk fun d4 b4 => ?_
 refine dy ?_
 refine wn b4 ?_
 refine aO ?_
 try simp only [xt]
 refine bR (bA rfl (gD rfl)) ?_
 have := nW (n := k) (by omega) hlo (fun h => by omega)
 have := (oM hk h2).2
 omega
theorem KW {P : Program} {ρ : Operand → Value} {w : World} {d : Option Tmp} {t : TypeId} {pos : String} {after : Array Edge} {guard : Option (Nat × Bool)} {k : FuncId} {x : Operand} {v : Value} (hx : ρ x = v) : (execOp ρ ⟨d, .makeFunc (.func k) #[] #[x], t, pos, after, guard⟩).run P w = .ok (.value (.func (.func k) #[] #[v])) w := by
 subst hx
 simp [execOp, Instr.makeFunc]
theorem KX (F : Fz) (w : World) (a : Option Addr) (c : Nat) (l : List Pr) (hs : Sat w F) (hv : Prs F (.slice a l.length c) l) (hk : KeysOk l) (h2 : 2 ≤ l.length) (b7 : l.length ≤ 60) :
    Calls Tryz.prog 123 #[.slice a l.length c] w (cT w (.tuple #[.int .i64 (aY l : Nat), .slice a (bC (aY l) l) c, .slice (if c = (bC (aY l) l) then a else a.map (·.add ((bC (aY l) l) * 2))) (l.length - (bC (aY l) l)) (c - (bC (aY l) l))])) := by
 obtain ⟨_, _, e0, hc1, hc2⟩ := Sl.shape hv
 unfold maxLen at hc2
 injection e0 with _ _ e0
 subst e0
 have S := St.start hs
 go_enter Tryz.func123, Tryz.ntmps123
 refine sk fun K1 hK1 => ?_
 refine sA S (Gk _) fun n2 w3 S4 => ?_
 refine aC ?_
 refine wn hK1 ?_
 refine aE fun K5 hK5 => ?_
 obtain ⟨p0, hp0⟩ : ∃ p, l[0]? = some p := ⟨l[0], zZc (by omega)⟩
 obtain ⟨p1, hp1⟩ : ∃ p, l[l.length - 1]? = some p := ⟨l[l.length - 1], zZc (by omega)⟩
 have hq0 := hk.key p0 (zZi hp0)
 have hq1 := hk.key p1 (zZi hp1)
 obtain ⟨hb1, hpb, _, _⟩ := oD hk h2
 rw [(List.getElem?_eq_some_iff.1 hp0).2, (List.getElem?_eq_some_iff.1 hp1).2] at hpb
 have hnl := DA (aY l) l
 obtain ⟨b6, o7, ha8, a3, a4, b9, c0, c9, d0, c1, d1⟩ := Prs.get hv hp0
 obtain ⟨d2, d3, a8, a5, a6, c2, c3, c4, d4, c5, d5⟩ := Prs.get hv hp1
 have hq_ := ha8.symm.trans a8; injection hq_ with hq_; injection hq_ with hq1_ hq2_; subst hq1_; subst hq2_
 refine lO F [0, 1, 2, 3, 4, 5, 6, 7, 8, 9, 10, 11, 12, 13] 14 15 [] [(11, .is (.tuple #[(nI (aY l)), (iI 0)])), (14, .is (iI 0))] (by kernel_rfl) (by kernel_rfl) rfl rfl rfl rfl ?_
 simp only [gB, zZq, zZp, List.map_cons, List.map_nil]
 refine bV rfl rfl (.slice a l.length c) (fun a1 a0 => aM (fR _)) ?_
 simp only [pq]
 refine bV rfl rfl (pP b6 (o7 + 0 * 2)) (fun a1 a0 => aM (bN (i := 0) (sz := 2) Tryz.underlying47 (bI _) rfl ha8 rfl (by omega) rfl)) ?_
 simp only [pq]
 refine bV rfl rfl (pP b6 (o7 + 0 * 2)) (fun a1 a0 => aM (ef (lY _ _))) ?_
 simp only [pq]
 refine bV rfl rfl (.slice a3 p0.1.length a4) (fun a1 a0 => aM (aD rfl (aQ (aZ _) (St.fz (St.tells S4 a0) c9)))) ?_
 simp only [pq]
 refine bV rfl rfl (.slice a l.length c) (fun a1 a0 => aM (fR _)) ?_
 simp only [pq]
 refine bV rfl rfl (.slice a l.length c) (fun a1 a0 => aM (fR _)) ?_
 simp only [pq]
 refine bV rfl rfl (nI l.length) (fun a1 a0 => aM (oO Tryz.underlying47 rfl)) ?_
 simp only [pq]
 refine bV rfl rfl (nI (l.length - 1)) (fun a1 a0 => aM (rU (m := ((l.length : Nat) : Int)) (n := (1 : Int)) (r := (((l.length - 1) : Nat) : Int)) rfl rfl (by omega) (by omega) (by omega))) ?_
 simp only [pq]
 refine bV rfl rfl (pP b6 (o7 + (l.length - 1) * 2)) (fun a1 a0 => aM (bN (i := (l.length - 1)) (sz := 2) Tryz.underlying47 (bI _) rfl ha8 rfl (by omega) rfl)) ?_
 simp only [pq]
 refine bV rfl rfl (pP b6 (o7 + (l.length - 1) * 2)) (fun a1 a0 => aM (ef (lY _ _))) ?_
 simp only [pq]
 refine bV rfl rfl (.slice a5 p1.1.length a6) (fun a1 a0 => aM (aD rfl (aQ (aZ _) (St.fz (St.tells S4 a0) c4)))) ?_
 simp only [pq]
 refine ZD rfl rfl (v := (.tuple #[(nI (aY l)), (iI 0)])) (fun a1 a0 _ => bQ (cB (vs := #[(.slice a3 p0.1.length a4), (.slice a5 p1.1.length a6)]) (gK rfl rfl) rfl (TL _ _)) (fE (dL (TZ ((St.tells S4 a0)).sat c1 c5 hpb hq0 hq1)))) ?_
 simp only [pq]
 refine bV rfl rfl (.tuple #[(nI (aY l)), (iI 0)]) (fun a1 a0 => aM (fR _)) ?_
 simp only [pq]
 refine bV rfl rfl (nI (aY l)) (fun a1 a0 => aM (cC rfl rfl)) ?_
 simp only [pq]
 refine zK (HS rfl rfl (v := (iI 0)) (fun a1 a0 hF_ => ?_) ?_)
 exact fun w1 => aM (cC rfl rfl)
 intro d6 a9 b0
 clear b0
 have c6 := St.tells S4 a9
 refine zM (i := 0) (v := (nI (aY l))) c6 rfl rfl rfl (qK) (mL rfl) (Nat.le_of_ble_eq_true rfl) (fun d7 b5 => ?_)
 refine wlK hK5 ?_
 refine sk fun d8 b1 => ?_
 refine dx ?_
 refine dr (.func (.func 144) #[] #[(pP n2 0)]) (KW rfl) ?_
 simp only [pq]
 obtain ⟨c7, b2, b3⟩ := St.freezeBlk b5 (i := 0) rfl
 refine aJ (v := (nI (bC (aY l) l))) b5 rfl (fn2 (Eb _ _)) (EW _ _ _ l _ (c7).sat (hv.mono b2) (b3 0 _ rfl) hk h2 b7) (fun d9 c8 => ?_)
 refine dy ?_
 refine wn b1 ?_
 refine aE fun e1 b4 => ?_
 refine gC c8 (by kernel_rfl) (fun e2 a2 => ?_)
 refine dN 1 rfl a2.sat ?_
 simp only [pq]
 refine dN 2 rfl a2.sat ?_
 simp only [pq]
 refine bW 3 rfl (.slice a (bC (aY l) l) c) a2.sat (fun _ _ => bD (l := 0) (h := (bC (aY l) l)) (sz := 2) Tryz.underlying47 rfl (bI _) (.inl ⟨rfl, rfl⟩) (.inr ⟨_, rfl, rfl⟩) (by omega) (by omega) (eZ)) ?_
 simp only [pq]
 refine dN 4 rfl a2.sat ?_
 simp only [pq]
 refine dN 5 rfl a2.sat ?_
 simp only [pq]
 refine bW 6 rfl (.slice (if c = (bC (aY l) l) then a else a.map (·.add ((bC (aY l) l) * 2))) (l.length - (bC (aY l) l)) (c - (bC (aY l) l))) a2.sat (fun _ _ => bD (l := (bC (aY l) l)) (h := l.length) (sz := 2) Tryz.underlying47 rfl (bI _) (.inr ⟨_, rfl, rfl⟩) (.inl ⟨rfl, rfl⟩) (by omega) (by omega) (rfl)) ?_
 simp only [pq]
 refine cW 0 (by kernel_rfl) rfl ?_
 refine dl (bM _) a2 0 ?_
 refine aG (cA a2.sat ?_)
 refine cW 7 (by kernel_rfl) rfl ?_
 refine sW 0 a2 (qK) fun e3 a7 => ?_
 refine aG (cA a7.sat ?_)
 refine eU 8 rfl a7.sat ?_
 simp only [pq]
 refine eU 9 rfl a7.sat ?_
 simp only [pq]
 refine gX (by kernel_rfl) ?_
 refine b4 _ _ ?_
 refine aO ?_
 try simp only [xt]
 refine bR (IY rfl ⟨_, rfl, aQ (bM _) (sc a7 0)⟩ (gD rfl) (gD rfl)) ?_
 exact ⟨rfl, a7.gr.below⟩
end Go.Proofs.YtilgpdpooildcaaGreatDoor
