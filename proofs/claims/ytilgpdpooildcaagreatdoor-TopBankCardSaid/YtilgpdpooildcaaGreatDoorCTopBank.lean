/- The walk of TopBank -/
import Derived.Test.YtilgpdpooildcaaGreatDoorFA13
import Derived.Test.YtilgpdpooildcaaGreatDoorFA2
import Derived.Test.YtilgpdpooildcaaGreatDoorFA3
namespace Go.Proofs.YtilgpdpooildcaaGreatDoor
set_option maxHeartbeats 8000000
open Go.RowKit
set_option maxRecDepth 100000
set_option linter.unusedVariables false
set_option linter.unusedSimpArgs false
theorem IA (W : World) (hT : Has W ∧ Tabs W) (v0 : Value) (l0 : List Ge) (z0 : Ges (whole W) v0 l0) :
    Calls Tryz.prog 8 #[v0] W (cY W (.bool true)) := by
 obtain ⟨a0, c0, rfl, q0, q0'⟩ := Sl.shape z0
 unfold maxLen at q0'
 obtain ⟨h5, c1, c2, c3, c4⟩ := info_parts YZ
 have S := St.start (Sat.whole W)
 go_enter Tryz.func8, Tryz.ntmps8
 refine sk fun mf w4 => ?_
 refine dy ?_
 refine wn w4 ?_
 refine sk fun mg w5 => ?_
 refine aZ S (v := fun n => .slice (aA n 0) 1 1) rfl (bS (ps := #[(0, (.int .u8 98))]) (cells := #[(.int .u8 98)]) (E := 5) (cG rfl) (fun w => by kernel_rfl)) (fun b0 mh q9 => ?_)
 refine dy ?_
 refine wn w5 ?_
 refine sk fun mi w6 => ?_
 refine dr (.agg #[(iI 1), Zn, Zn, Zn, Zn]) (aJ (cG rfl) (by kernel_rfl)) ?_
 simp only [pq]
 refine aY q9 rfl (fn2 (pF _ _)) (fT _ _ _ 0 1 (⟨[], [], [], []⟩ : Rq) (q9).sat (hT.1.below q9.gr.below) ⟨_, _, _, _, rfl, (Bs.nil _), (Bs.nil _), (Bs.nil _), (Bs.nil _)⟩ ⟨by decide, by kernel_rfl⟩) ?_
 intro mj mk ei ej w7 ek
 obtain ⟨b1, b2, rfl, r0⟩ := ek
 have r0 : Bs _ (.slice b1 (cH 1 (⟨[], [], [], []⟩ : Rq)).length b2) (cH 1 (⟨[], [], [], []⟩ : Rq)) := r0
 refine aZ ej (v := fun n => .slice (aA n 0) 1 1) rfl (bS (ps := #[(0, (.agg #[(iI 1), (iI 0), (iI 0), (.slice b1 (cH 1 (⟨[], [], [], []⟩ : Rq)).length b2)]))]) (cells := #[(iI 1), (iI 0), (iI 0), (.slice b1 (cH 1 (⟨[], [], [], []⟩ : Rq)).length b2)]) (E := 33) (cG rfl) (fun w => by kernel_rfl)) (fun d6 r1 em => ?_)
 simp only [pq]
 refine dy ?_
 refine wn w6 ?_
 refine aF fun ml w8 => ?_
 refine aF fun mn w9 => ?_
 obtain ⟨x0, o2, x1⟩ := St.freezeBlk em (i := 1) rfl
 have h6 : Bs _ (.slice (some ⟨b0, 0, none⟩) 1 1) ([98] : By) := jD (l := ([98] : By)) x1 (rfl) (by unfold maxLen; simp)
 generalize addF ei r1 b0 = l1 at *
 have en : St W (whole W) r1 l1 [] [bV 4 AcC AcC.mono 33 W.heap.size (.slice (aA d6 0) 1 1) [(Ac.ask 0 (cH 1 (⟨[], [], [], []⟩ : Rq)))]] := St.blkRow (k := 4) (cap := 1) (hR := AcC.mono) (l := ([(Ac.ask 0 (cH 1 (⟨[], [], [], []⟩ : Rq)))] : List Ac)) (el := [[(iI 1), (iI 0), (iI 0), (.slice b1 (cH 1 (⟨[], [], [], []⟩ : Rq)).length b2)]]) x0 rfl ⟨⟨_, rfl, (r0.mono o2)⟩, trivial⟩ (by simp) rfl (by simp) (by unfold maxLen; decide) (x0.blk _ (List.mem_cons_self ..)).2.2
 refine aB ?_
 refine dy ?_
 refine wlK w9 ?_
 refine aM ?_
 have eo : St W (whole W) r1 l1 [] [bV 4 AcC AcC.mono 33 W.heap.size (.slice (aA d6 0) 1 1) ((kL.take (1 + 0)).map Rc.ac)] := en
 refine aW (fun mm aa ep => ∃ (i : Nat) (r4 : Option Addr) (k4 : Nat) (l2 : Fz) (e7 : Nat → Value), mm = 4 - i ∧ e7 = dY aa ∧ aa = ⟨([(.slice a0 l0.length c0), undef, bF, (.slice (aA b0 0) 1 1), (.slice r4 ((kL.take (1 + i)).map Rc.ac).length k4), (nI i)] ++ (udF 14 ([(.slice (aA b0 0) 1 1), (.agg #[(iI 1), Zn, Zn, Zn, Zn]), (.agg #[(iI 1), (iI 0), (iI 0), (.slice b1 (cH 1 (⟨[], [], [], []⟩ : Rq)).length b2)]), (.slice (aA d6 0) 1 1)] ++ (usF e7 24 15 (udF 233 []))))).toArray, []⟩ ∧ St W (whole W) ep l2 [] [bV 4 AcC AcC.mono 33 W.heap.size (.slice r4 ((kL.take (1 + i)).map Rc.ac).length k4) ((kL.take (1 + i)).map Rc.ac)] ∧ Le l1 l2 ∧ (i ≤ 4)) _ ⟨0, (aA d6 0), 1, l1, _, rfl, rfl, rfl, eo, Le.refl _, (by omega)⟩ ?_
 rintro mo mp mq ⟨i, r4, k4, l2, e7, rfl, -, hfr, l3, c6, hi⟩ mr x2
 simp only [uzF, Nat.reduceAdd] at hfr; subst hfr
 refine aF fun ms x3 => ?_
 refine sk fun mt o3 => ?_
 refine dx ?_
 simp only [pq]
 by_cases mu : i < 4
 ·refine fA ?_
  refine wn o3 ?_
  refine aK ?_
  refine aI ?_
  refine x3 _ _ ?_
  refine aF fun mv x4 => ?_
  refine aM ?_
  refine aB ?_
  refine aC ?_
  refine cD (i + 1) ?_
  refine dr (.int .u8 (((bG (((i + 1) : Nat) : Int)).toNat : Nat) : Int)) (aX (v := (nI (i + 1))) rfl (xD (((i + 1) : Nat) : Int) _)) ?_
  refine aZ l3 (v := fun n => .slice (aA n 0) 1 1) rfl (bS (ps := #[(0, (.int .u8 (((bG (((i + 1) : Nat) : Int)).toNat : Nat) : Int)))]) (cells := #[(.int .u8 (((bG (((i + 1) : Nat) : Int)).toNat : Nat) : Int))]) (E := 5) (cG rfl) (fun w => by kernel_rfl)) (fun r3 mw eq => ?_)
  refine aZ eq (v := fun n => .slice (aA n 0) 1 1) rfl (bS (ps := #[(0, (.int .u8 50))]) (cells := #[(.int .u8 50)]) (E := 5) (cG rfl) (fun w => by kernel_rfl)) (fun r5 x5 er => ?_)
  simp only [pq]
  refine dr (.agg #[(iI 4), (.slice (aA b0 0) 1 1), (.slice (aA r3 0) 1 1), Zn, (.slice (aA r5 0) 1 1)]) (aJ (mE rfl rfl rfl rfl) (by kernel_rfl)) ?_
  simp only [pq]
  obtain ⟨es, o4, x6⟩ := St.freezeBlk er (i := 1) rfl
  have et : Bs _ (.slice (some ⟨r3, 0, none⟩) 1 1) ([bG (((i + 1) : Nat) : Int)] : By) := jD (l := ([bG (((i + 1) : Nat) : Int)] : By)) x6 (rfl) (by unfold maxLen; simp)
  generalize addF l2 x5 r3 = eu at *
  obtain ⟨r6, h7, x7⟩ := St.freezeBlk es (i := 0) rfl
  have ew : Bs _ (.slice (some ⟨r5, 0, none⟩) 1 1) ([50] : By) := jD (l := ([50] : By)) x7 (rfl) (by unfold maxLen; simp)
  generalize addF eu x5 r5 = mx at *
  refine aY r6 rfl (fn2 (pF _ _)) (fT _ _ _ 0 4 (⟨([98] : By), ([bG (((i + 1) : Nat) : Int)] : By), [], ([50] : By)⟩ : Rq) (r6).sat (hT.1.below r6.gr.below) ⟨_, _, _, _, rfl, (h6.mono ((c6.trans o4).trans h7)), (et.mono h7), (Bs.nil _), ew⟩ ⟨by decide, by kernel_rfl⟩) ?_
  intro my mz x8 ex x9 ey
  obtain ⟨f5, f6, rfl, l4⟩ := ey
  have l4 : Bs _ (.slice f5 (cH 4 (⟨([98] : By), ([bG (((i + 1) : Nat) : Int)] : By), [], ([50] : By)⟩ : Rq)).length f6) (cH 4 (⟨([98] : By), ([bG (((i + 1) : Nat) : Int)] : By), [], ([50] : By)⟩ : Rq)) := l4
  refine aZ ex (v := fun n => .slice (aA n 0) 1 1) rfl (bS (ps := #[(0, (.agg #[(iI 1), (iI 0), (iI 0), (.slice f5 (cH 4 (⟨([98] : By), ([bG (((i + 1) : Nat) : Int)] : By), [], ([50] : By)⟩ : Rq)).length f6)]))]) (cells := #[(iI 1), (iI 0), (iI 0), (.slice f5 (cH 4 (⟨([98] : By), ([bG (((i + 1) : Nat) : Int)] : By), [], ([50] : By)⟩ : Rq)).length f6)]) (E := 33) (cG rfl) (fun w => by kernel_rfl)) (fun na nb y0 => ?_)
  simp only [pq]
  refine eK (i := 0) (r := 0) (p := (Ac.ask 0 (cH 4 (⟨([98] : By), ([bG (((i + 1) : Nat) : Int)] : By), [], ([50] : By)⟩ : Rq)))) (cs := [(iI 1), (iI 0), (iI 0), (.slice f5 (cH 4 (⟨([98] : By), ([bG (((i + 1) : Nat) : Int)] : By), [], ([50] : By)⟩ : Rq)).length f6)]) y0 rfl h5 (.agg #[(iI 0), (iI 0), (iI 0), Zn]) 48 Tryz.underlying23 c1 c2 c3 c4 rfl (by decide) rfl rfl rfl rfl rfl (AcC.oneCell (F := x8) (p := (Ac.ask 0 (cH 4 (⟨([98] : By), ([bG (((i + 1) : Nat) : Int)] : By), [], ([50] : By)⟩ : Rq)))) ⟨_, rfl, l4⟩) (⟨_, rfl, l4⟩) (Nat.le_refl _) y0.gr.below.size (by unfold maxLen; (simp; simp [kL]; omega)) (by (simp; simp [kL]; omega)) ?_
  intro nc nd h8 kq
  simp only [pq]
  have h8 := St.drop h8 (.cons _ (List.Sublist.refl _))
  obtain ⟨ez, r7, rfl, ne, fa⟩ := (h8.own (i := 0) rfl).shape
  unfold maxLen at fa
  refine dy ?_
  refine wlK x4 ?_
  refine aB ?_
  refine dx ?_
  refine cD (i + 1) ?_
  refine dy ?_
  simp only [pq]
  refine aH ?_
  rw [show (((kL.take (1 + i)).map Rc.ac) ++ [(Ac.ask 0 (cH 4 (⟨([98] : By), ([bG (((i + 1) : Nat) : Int)] : By), [], ([50] : By)⟩ : Rq)))]) = ((kL.take (1 + (i + 1))).map Rc.ac) from (TJ (by omega))] at h8 ⊢
  exact x2 _ _ _ (by omega) ⟨(i + 1), ez, r7, x8, _, rfl, rfl, rfl, h8, (((c6.trans o4).trans h7).trans x9), (by omega)⟩
 ·refine eM ?_
  refine wn o3 ?_
  refine aG ?_
  refine cS ?_
  refine w8 _ _ ?_
  refine aF fun nf y1 => ?_
  obtain rfl : i = 4 := by omega
  refine aB ?_
  refine dx ?_
  refine dr (.agg #[(iI 6), Zn, Zn, Zn, Zn]) (aJ (cG rfl) (by kernel_rfl)) ?_
  simp only [pq]
  refine aY l3 rfl (fn2 (pF _ _)) (fT _ _ _ 0 6 (⟨[], [], [], []⟩ : Rq) (l3).sat (hT.1.below l3.gr.below) ⟨_, _, _, _, rfl, (Bs.nil _), (Bs.nil _), (Bs.nil _), (Bs.nil _)⟩ ⟨by decide, by kernel_rfl⟩) ?_
  intro ng nh fb fc d7 fd
  obtain ⟨b7, b9, rfl, r9⟩ := fd
  have r9 : Bs _ (.slice b7 (cH 6 (⟨[], [], [], []⟩ : Rq)).length b9) (cH 6 (⟨[], [], [], []⟩ : Rq)) := r9
  refine dr (.agg #[(iI 2), (iI 0), (iI 0), Zn]) (aJ (cG rfl) (by kernel_rfl)) ?_
  refine aZ fc (v := fun n => .slice (aA n 0) 2 2) rfl (bS (ps := #[(0, (.agg #[(iI 1), (iI 0), (iI 0), (.slice b7 (cH 6 (⟨[], [], [], []⟩ : Rq)).length b9)])), (1, (.agg #[(iI 2), (iI 0), (iI 0), Zn]))]) (cells := #[(iI 1), (iI 0), (iI 0), (.slice b7 (cH 6 (⟨[], [], [], []⟩ : Rq)).length b9), (iI 2), (iI 0), (iI 0), Zn]) (E := 33) (eZ rfl rfl) (fun w => by kernel_rfl)) (fun e8 fe ff => ?_)
  simp only [pq]
  obtain ⟨s0, d2, y2⟩ := St.freezeBlk ff (i := 0) rfl
  have fg : Acs _ (.slice (some ⟨e8, 0, none⟩) 2 2) ([(Ac.ask 0 (cH 6 (⟨[], [], [], []⟩ : Rq))), Ac.sync] : List Ac) := fS (R := AcC) (l := ([(Ac.ask 0 (cH 6 (⟨[], [], [], []⟩ : Rq))), Ac.sync] : List Ac)) (el := [[(.int .i64 1), (.int .i64 0), (.int .i64 0), (.slice b7 (cH 6 (⟨[], [], [], []⟩ : Rq)).length b9)], [(.int .i64 2), (.int .i64 0), (.int .i64 0), (.slice none 0 0)]]) y2 rfl ⟨⟨_, rfl, Bs.mono r9 d2⟩, ⟨_, rfl, Bs.nil _⟩, trivial⟩ (by simp) (by unfold maxLen; simp)
  generalize addF fb fe e8 = s1 at *
  refine eG (r := 0) (u := (.slice (aA e8 0) 2 2)) s0 rfl h5 (.agg #[(iI 0), (iI 0), (iI 0), Zn]) 48 Tryz.underlying23 c1 c2 c3 c4 rfl (by decide) rfl rfl rfl (Sl.toW fg (s0).sat) AcC.one (Nat.le_refl _) s0.gr.below.size (by unfold maxLen; (simp; simp [kL])) (by (simp; simp [kL])) ?_
  intro ni nj s2 kr
  simp only [pq]
  obtain ⟨h9, c7, rfl, nk, fh⟩ := (s2.own (i := 0) rfl).shape
  unfold maxLen at fh
  refine dy ?_
  refine wlK y1 ?_
  refine aF fun fi y3 => ?_
  have o5 : ∀ (l5 : Act) (s3 : World), (∃ (i : Nat) (a : List Rc) (r8 : Option Addr) (k8 : Nat) (s4 : Fz) (d8 : Nat → Value), d8 = dY l5 ∧ l5 = ⟨([(.slice a0 l0.length c0), undef, (d8 2), (.slice (some ⟨b0, 0, none⟩) 1 1), (.slice r8 (a.map Rc.ac).length k8), (.int .i64 4), (.int .i64 ((i : Nat) : Int))] ++ (usF d8 7 9 (udF 4 ([(.slice (some ⟨b0, 0, none⟩) 1 1), (.agg #[(.int .i64 1), (.slice none 0 0), (.slice none 0 0), (.slice none 0 0), (.slice none 0 0)]), (.agg #[(.int .i64 1), (.int .i64 0), (.int .i64 0), (.slice b1 (cH 1 (⟨[], [], [], []⟩ : Rq)).length b2)]), (.slice (some ⟨d6, 0, none⟩) 1 1), (.int .i64 4), (.bool false)] ++ (usF e7 26 13 ([(.slice r4 ((kL.take (1 + 4)).map Rc.ac).length k4), (.agg #[(.int .i64 6), (.slice none 0 0), (.slice none 0 0), (.slice none 0 0), (.slice none 0 0)]), (.agg #[(.int .i64 1), (.int .i64 0), (.int .i64 0), (.slice b7 (cH 6 (⟨[], [], [], []⟩ : Rq)).length b9)]), (.agg #[(.int .i64 2), (.int .i64 0), (.int .i64 0), (.slice none 0 0)]), (.slice (some ⟨e8, 0, none⟩) 2 2), (.slice h9 (((kL.take (1 + 4)).map Rc.ac) ++ [(Ac.ask 0 (cH 6 (⟨[], [], [], []⟩ : Rq))), Ac.sync]).length c7)] ++ (usF d8 45 185 (udF 42 [])))))))).toArray, []⟩ ∧ St W (whole W) s3 s4 [] [bV 4 AcC AcC.mono 33 W.heap.size (.slice r8 (a.map Rc.ac).length k8) (a.map Rc.ac)] ∧ Le s1 s4 ∧ (i ≤ 20) ∧ (BankS (4 * i + 1) a)) → fi l5 s3 := by
   rintro l5 s3 ⟨i, a, r8, k8, s4, d8, -, hfr, fj, ks, him, hB⟩
   simp only [uzF, Nat.reduceAdd] at hfr; subst hfr
   refine y3 _ _ ?_
   refine sk fun nl y4 => ?_
   refine dx ?_
   simp only [pq]
   obtain ⟨v, hv, hsum⟩ := hB.end
   obtain ⟨G2, hG2, h2⟩ : ∃ G, hH a = G ∧ (ScrOk ((a.map Rc.ac)) ∧ dW ((a.map Rc.ac)) = G) := ⟨_, rfl, hB.scr.no (by omega)⟩
   rw [hG2] at hv
   obtain ⟨nm, l6, kt, i0⟩ := St.freeze fj (i := 0) rfl (Nat.le_refl _)
   have i0 : Acs _ (.slice r8 (a.map Rc.ac).length k8) (a.map Rc.ac) := i0
   refine aY l6 rfl (fn1 (UU _ _)) (CN _ _ _ (a.map Rc.ac) (l6).sat (hT.1.below l6.gr.below) (hT.2.at l6.gr.below) i0 h2.1 h2.2) ?_
   intro nn np fk fl ku fm
   obtain ⟨_, rfl, fn⟩ := fm
   obtain ⟨i1, i2, s5, s6, rfl, fo, nq⟩ := fn
   refine aC ?_
   refine sA fl (tM _) fun l7 nr fp => ?_
   refine sW 0 fp (nD) fun fq y5 => ?_
   refine dy ?_
   simp only [pq]
   refine wn y4 ?_
   refine aF fun ns y6 => ?_
   refine aF fun nt y7 => ?_
   obtain ⟨tn, htn, htn2⟩ : ∃ tn, (G2.forest G2.synced)[0]? = some tn ∧ tn.2 = [([1], [v 1]), ([2], [v 2]), ([3], [v 3]), ([4], [v 4])] := ⟨_, by rw [hv]; rfl, rfl⟩
   have hfl : (G2.forest G2.synced).length = 1 := by rw [hv]; rfl
   have htl : tn.2.length = 4 := by rw [htn2]; rfl
   obtain ⟨l8, l9, o6, kv, kw, y8, y9, nu, z1, nv, fr⟩ := Tns.get fo htn
   refine aB ?_
   refine aC ?_
   refine lQ ?_
   refine aC ?_
   refine dr (pP l8 (l9 + 0 * 2)) (bK (i := 0) (sz := 2) Tryz.underlying24 (cO _) rfl o6 rfl (by omega) rfl) ?_
   refine aC ?_
   refine dr _ (aE rfl (aT (tK _) (St.fz y5 z1))) ?_
   refine aC ?_
   refine lQ ?_
   refine dp ?_
   refine wlK y7 ?_
   refine aG ?_
   refine aI ?_
   refine y6 _ _ ?_
   refine sk fun nw z2 => ?_
   refine dy ?_
   simp only [pq]
   refine wn z2 ?_
   refine aF fun nx z3 => ?_
   refine sk fun ny z4 => ?_
   refine dy ?_
   refine wn z4 ?_
   refine aM ?_
   obtain ⟨fs, o7, z5⟩ := St.freezeBlk y5 (i := 0) rfl
   generalize addF fk fq l7 = z6 at *
   refine aW (fun mm aa ft => ∃ (j : Nat) (m0 : Fz) (s7 : Nat → Value), mm = 4 - j ∧ s7 = dY aa ∧ aa = ⟨([(.slice a0 l0.length c0), undef, (d8 2), (.slice (aA b0 0) 1 1), (.slice r8 (a.map Rc.ac).length k8), (iI 4), (nI i)] ++ (usF d8 7 9 ([(pP l7 0), bT, (nI (OP v j)), (nI j), (.slice (aA b0 0) 1 1), (.agg #[(iI 1), Zn, Zn, Zn, Zn]), (.agg #[(iI 1), (iI 0), (iI 0), (.slice b1 (cH 1 (⟨[], [], [], []⟩ : Rq)).length b2)]), (.slice (aA d6 0) 1 1), (iI 4), bF] ++ (usF e7 26 13 ([(.slice r4 ((kL.take (1 + 4)).map Rc.ac).length k4), (.agg #[(iI 6), Zn, Zn, Zn, Zn]), (.agg #[(iI 1), (iI 0), (iI 0), (.slice b7 (cH 6 (⟨[], [], [], []⟩ : Rq)).length b9)]), (.agg #[(iI 2), (iI 0), (iI 0), Zn]), (.slice (aA e8 0) 2 2), (.slice h9 (((kL.take (1 + 4)).map Rc.ac) ++ [(Ac.ask 0 (cH 6 (⟨[], [], [], []⟩ : Rq))), Ac.sync]).length c7)] ++ (usF d8 45 185 ([(.tuple #[(.agg #[(.bool G2.up), (nI G2.synced), (nI G2.waiting.length), (.slice i1 (G2.forest G2.synced).length i2), (.slice s5 G2.replies.length s6)]), bT]), (.slice r8 (a.map Rc.ac).length k8), (.tuple #[(.agg #[(.bool G2.up), (nI G2.synced), (nI G2.waiting.length), (.slice i1 (G2.forest G2.synced).length i2), (.slice s5 G2.replies.length s6)]), bT]), (.agg #[(.bool G2.up), (nI G2.synced), (nI G2.waiting.length), (.slice i1 (G2.forest G2.synced).length i2), (.slice s5 G2.replies.length s6)]), bT, bT, bF, bF, (pP l7 3), (.slice i1 (G2.forest G2.synced).length i2), (.int .i64 (((G2.forest G2.synced).length : Nat) : Int)), bF, bF, bF, (pP l7 3), (.slice i1 (G2.forest G2.synced).length i2), (pP l8 (l9 + 0 * 2)), (pP l8 (l9 + 0 * 2 + 1)), (.slice y8 tn.2.length y9), (nI tn.2.length), bF, bF] ++ (usF s7 252 18 [undef, undef])))))))).toArray, []⟩ ∧ St W (whole W) ft m0 [] [] ∧ Le z6 m0 ∧ (j ≤ 4)) _ ⟨0, z6, _, rfl, rfl, rfl, fs, Le.refl _, (by omega)⟩ ?_
   rintro nz oa ob ⟨j, m0, s7, rfl, -, hfr, g3, f7, hj⟩ oc z7
   simp only [uzF, Nat.reduceAdd] at hfr; subst hfr
   refine aF fun od z8 => ?_
   refine sk fun oe o8 => ?_
   refine dx ?_
   simp only [pq]
   by_cases kx : j < 4
   ·refine fA ?_
    refine wn o8 ?_
    refine aK ?_
    refine aI ?_
    refine z8 _ _ ?_
    refine aF fun og z9 => ?_
    refine aM ?_
    obtain ⟨pr, hpr, hpr2⟩ : ∃ pr, tn.2[j]? = some pr ∧ pr.2 = [v (j + 1)] := by rw [htn2]; exact Bz v (by omega)
    have hpl : 0 < pr.2.length := by rw [hpr2]; exact Nat.zero_lt_succ _
    have hsl := QS v j
    have hvl := (v (j + 1)).toNat_lt
    obtain ⟨fu, fv, ab, ky, kz, la, lb, oh, fw, oi, fx⟩ := Prs.get (fr.mono (o7.trans f7)) hpr
    obtain ⟨fy, gb, ad, gc⟩ := Bs.get fx (show pr.2[0]? = some (v (j + 1)) by rw [hpr2]; rfl)
    refine aB ?_
    refine aC ?_
    refine dr _ (aE rfl (aT (tJ _) (St.fz g3 (Le.cell f7 (z5 3 _ rfl))))) ?_
    simp only [pq]
    refine dr (pP l8 (l9 + 0 * 2)) (bK (i := 0) (sz := 2) Tryz.underlying24 (cO _) rfl o6 rfl (by omega) rfl) ?_
    refine df (oT _ _) ?_
    refine dr _ (aE rfl (aT (tK _) (St.fz g3 (Le.cell (o7.trans f7) z1)))) ?_
    refine aC ?_
    refine dr (pP fu (fv + j * 2)) (bK (i := j) (sz := 2) Tryz.underlying47 (cK _) rfl ab rfl (by omega) rfl) ?_
    refine aC ?_
    refine dr _ (aE rfl (aT (bD _) (St.fz g3 fw))) ?_
    refine dr (pP fy (gb + 0 * 1)) (bK (i := 0) (sz := 1) Tryz.underlying25 (aV _) rfl ad rfl (by omega) rfl) ?_
    refine dr _ (aE rfl (aT (fG _) (St.fz g3 gc))) ?_
    simp only [pq]
    refine dr (.int .i64 (((v (j + 1)).toNat : Nat) : Int)) (aX (v := (bv (v (j + 1)))) rfl (gB (v (j + 1)) _)) ?_
    refine cD ((((OP v j) + (v (j + 1)).toNat) : Nat) : Int) ?_
    refine dy ?_
    simp only [pq]
    refine wlK z9 ?_
    refine aB ?_
    refine dx ?_
    refine cD (j + 1) ?_
    refine dy ?_
    simp only [pq]
    refine aH ?_
    exact z7 _ _ _ (by omega) ⟨(j + 1), m0, _, rfl, rfl, rfl, g3, f7, (by omega)⟩
   ·refine eM ?_
    refine wn o8 ?_
    refine aG ?_
    refine cS ?_
    refine z3 _ _ ?_
    refine aF fun oj ae => ?_
    obtain rfl : j = 4 := by omega
    refine aB ?_
    refine dx ?_
    refine dr bT (cB (m := (((OP v 4) : Nat) : Int)) (n := (200 : Int)) (b := true) rfl rfl (beq_iff_eq.2 (by rw [TK, hsum]; rfl))) ?_
    refine dy ?_
    simp only [pq]
    refine wlK ae ?_
    refine aO ?_
    try simp only [xt]
    refine bR (bC rfl (gD rfl)) ?_
    ·exact ⟨rfl, g3.gr.below⟩
  refine aF fun ok af => ?_
  rw [show (((kL.take (1 + 4)).map Rc.ac) ++ [(Ac.ask 0 (cH 6 (⟨[], [], [], []⟩ : Rq))), Ac.sync]) = (kL.map Rc.ac) from rfl] at s2 ⊢
  refine aB ?_
  refine dy ?_
  refine wlK af ?_
  refine aM ?_
  refine aW (fun mm aa gd => ∃ (i : Nat) (a : List Rc) (ra : Option Addr) (rc : Nat) (g4 : Fz) (d0 : Nat → Value), mm = l0.length - i ∧ d0 = dY aa ∧ aa = ⟨([(.slice a0 l0.length c0), undef, (d0 2), (.slice (aA b0 0) 1 1), (.slice ra (a.map Rc.ac).length rc), (iI 4), (nI i)] ++ (usF d0 7 9 (udF 4 ([(.slice (aA b0 0) 1 1), (.agg #[(iI 1), Zn, Zn, Zn, Zn]), (.agg #[(iI 1), (iI 0), (iI 0), (.slice b1 (cH 1 (⟨[], [], [], []⟩ : Rq)).length b2)]), (.slice (aA d6 0) 1 1), (iI 4), bF] ++ (usF e7 26 13 ([(.slice r4 ((kL.take (1 + 4)).map Rc.ac).length k4), (.agg #[(iI 6), Zn, Zn, Zn, Zn]), (.agg #[(iI 1), (iI 0), (iI 0), (.slice b7 (cH 6 (⟨[], [], [], []⟩ : Rq)).length b9)]), (.agg #[(iI 2), (iI 0), (iI 0), Zn]), (.slice (aA e8 0) 2 2), (.slice h9 (kL.map Rc.ac).length c7)] ++ (usF d0 45 185 (udF 42 [])))))))).toArray, []⟩ ∧ St W (whole W) gd g4 [] [bV 4 AcC AcC.mono 33 W.heap.size (.slice ra (a.map Rc.ac).length rc) (a.map Rc.ac)] ∧ Le s1 g4 ∧ (i ≤ l0.length) ∧ (i ≤ 20) ∧ (BankS (4 * i + 1) a)) _ ⟨0, kL, h9, c7, s1, _, rfl, rfl, rfl, s2, Le.refl _, (by omega), (by omega), BankS.nil⟩ ?_
  rintro ol om oo ⟨i, a, ra, rc, g4, d0, rfl, -, hfr, m1, a4, hi, him, hB⟩ op b3
  simp only [uzF, Nat.reduceAdd] at hfr; subst hfr
  refine aF fun oq ag => ?_
  refine sk fun os i3 => ?_
  refine aC ?_
  by_cases ot : i < l0.length
  ·refine fA ?_
   refine aC ?_
   by_cases ou : i < 20
   ·refine fA ?_
    refine dp ?_
    refine wn i3 ?_
    refine aK ?_
    refine aI ?_
    refine ag _ _ ?_
    refine aF fun ov b4 => ?_
    refine aM ?_
    refine aF fun ow ah => ?_
    obtain ⟨g, hz_g⟩ : ∃ g, l0[i]? = some g := ⟨l0[i]'(by omega), List.getElem?_eq_getElem (by omega)⟩
    obtain ⟨ai, aj, ak, ge, hz_g_b⟩ := Ges.get (z0.mono (((((w7.trans o2).trans c6).trans d7).trans d2).trans a4)) hz_g
    refine aB ?_
    iterate 2 refine dx ?_
    refine dr (pP ai (aj + i * 5)) (bK (i := i) (sz := 5) Tryz.underlying22 (RL _) rfl ak rfl (by omega) rfl) ?_
    simp only [pq]
    refine dr _ (aE rfl (cU Tryz.underlying31 rfl (PJ) (fun j v h => St.fz m1 (ge j v h)))) ?_
    refine sA m1 (ZW _) fun g5 ox gg => ?_
    refine sW 0 gg (PJ) fun oy gh => ?_
    simp only [pq]
    refine wlK ah ?_
    refine aF fun oz al => ?_
    obtain ⟨⟨bk, bk'⟩, ⟨bs, bs'⟩, ⟨bn, bn'⟩, ⟨by_, by_'⟩, bv_, bv_'⟩ := hz_g_b
    have hp8 := gE g.session (m := 8) (by decide)
    have hpf := gE g.name (m := 4) (by decide)
    have hpt := gE g.key (m := 4) (by decide)
    have hp9 := gE g.value (m := 9) (by decide)
    have lc := gE g.value (m := 200) (by decide)
    refine aB ?_
    refine aC ?_
    have ld := gE g.session (m := 8) (by decide)
    refine aL (v := (nI (aD g.session 8))) gh rfl (fn2 (qW _ _)) (fR g.session 8 _ (by omega) (by omega) (by decide) (by decide)) (fun pa gj => ?_)
    refine dy ?_
    refine wlK al ?_
    refine sk fun pb am => ?_
    refine aC ?_
    have lf := gE g.name (m := 4) (by decide)
    refine aL (v := (nI (aD g.name 4))) gj rfl (fn2 (qW _ _)) (fR g.name 4 _ (by omega) (by omega) (by decide) (by decide)) (fun pc gk => ?_)
    refine cD ((aD g.name 4) + 1) ?_
    refine dr (.int .u8 (((bG ((((aD g.name 4) + 1) : Nat) : Int)).toNat : Nat) : Int)) (aX (v := (nI ((aD g.name 4) + 1))) rfl (xD ((((aD g.name 4) + 1) : Nat) : Int) _)) ?_
    refine aZ gk (v := fun n => .slice (aA n 0) 1 1) rfl (bS (ps := #[(0, (.int .u8 (((bG ((((aD g.name 4) + 1) : Nat) : Int)).toNat : Nat) : Int)))]) (cells := #[(.int .u8 (((bG ((((aD g.name 4) + 1) : Nat) : Int)).toNat : Nat) : Int))]) (E := 5) (cG rfl) (fun w => by kernel_rfl)) (fun c8 pd gn => ?_)
    refine aC ?_
    refine wn am ?_
    refine sk fun pe an => ?_
    refine aC ?_
    have lg := gE g.key (m := 4) (by decide)
    refine aL (v := (nI (aD g.key 4))) gn rfl (fn2 (qW _ _)) (fR g.key 4 _ (by omega) (by omega) (by decide) (by decide)) (fun pf gp => ?_)
    refine cD ((aD g.key 4) + 1) ?_
    refine dr (.int .u8 (((bG ((((aD g.key 4) + 1) : Nat) : Int)).toNat : Nat) : Int)) (aX (v := (nI ((aD g.key 4) + 1))) rfl (xD ((((aD g.key 4) + 1) : Nat) : Int) _)) ?_
    refine aZ gp (v := fun n => .slice (aA n 0) 1 1) rfl (bS (ps := #[(0, (.int .u8 (((bG ((((aD g.key 4) + 1) : Nat) : Int)).toNat : Nat) : Int)))]) (cells := #[(.int .u8 (((bG ((((aD g.key 4) + 1) : Nat) : Int)).toNat : Nat) : Int))]) (E := 5) (cG rfl) (fun w => by kernel_rfl)) (fun c9 ao gq => ?_)
    refine aC ?_
    refine wn an ?_
    refine aF fun pg ap => ?_
    refine aF fun ph o9 => ?_
    obtain ⟨gs, a9, aq⟩ := St.freezeBlk gq (i := 1) rfl
    have s8 : Bs _ (.slice (some ⟨c8, 0, none⟩) 1 1) ([bG ((((aD g.name 4) + 1) : Nat) : Int)] : By) := jD (l := ([bG ((((aD g.name 4) + 1) : Nat) : Int)] : By)) aq (rfl) (by unfold maxLen; simp)
    generalize addF g4 ao c8 = gt at *
    obtain ⟨pi, pj, i4, ar⟩ := Bs.get s8 (show (([bG ((((aD g.name 4) + 1) : Nat) : Int)] : By) : By)[0]? = some (bG (((aD g.name 4 + 1) : Nat) : Int)) from rfl)
    injection i4 with i4
    injection i4 with ha331_1 ha331_2
    subst ha331_1
    subst ha331_2
    obtain ⟨g6, a1, au⟩ := St.freezeBlk gs (i := 0) rfl
    have s9 : Bs _ (.slice (some ⟨c9, 0, none⟩) 1 1) ([bG ((((aD g.key 4) + 1) : Nat) : Int)] : By) := jD (l := ([bG ((((aD g.key 4) + 1) : Nat) : Int)] : By)) au (rfl) (by unfold maxLen; simp)
    generalize addF gt ao c9 = m2 at *
    obtain ⟨pk, pl, i5, av⟩ := Bs.get s9 (show (([bG ((((aD g.key 4) + 1) : Nat) : Int)] : By) : By)[0]? = some (bG (((aD g.key 4 + 1) : Nat) : Int)) from rfl)
    injection i5 with i5
    injection i5 with ha340_1 ha340_2
    subst ha340_1
    subst ha340_2
    by_cases hft : aD g.name 4 = aD g.key 4
    ·refine aQ m2 6 [] (by kernel_rfl) (by kernel_rfl) ?_
     simp only [cV]
     refine gm ?_
     refine gv (pP c8 (0 + 0 * 1)) (fun _ _ => bK (i := 0) (sz := 1) Tryz.underlying25 (aV _) rfl rfl rfl (by exact Nat.zero_lt_succ _) rfl) ?_
     simp only [pq]
     refine gv _ (fun _ t0 => aE rfl (aT (fG _) (St.fz (St.tells g6 t0) (Le.cell a1 ar)))) ?_
     refine gm ?_
     refine gv (pP c9 (0 + 0 * 1)) (fun _ _ => bK (i := 0) (sz := 1) Tryz.underlying25 (aV _) rfl rfl rfl (by exact Nat.zero_lt_succ _) rfl) ?_
     simp only [pq]
     refine gv _ (fun _ t0 => aE rfl (aT (fG _) (St.fz (St.tells g6 t0) av))) ?_
     refine bN ?_
     intro pm aw ax
     clear ax
     have gu := St.tells g6 aw
     simp only [cW]
     refine dr bT (cB (m := (((bG (((aD g.name 4 + 1) : Nat) : Int)).toNat : Nat) : Int)) (n := (((bG (((aD g.key 4 + 1) : Nat) : Int)).toNat : Nat) : Int)) (b := true) rfl rfl (beq_iff_eq.2 (by rw [hft]))) ?_
     refine wlK o9 ?_
     refine aK ?_
     refine sk fun pn ay => ?_
     refine dx ?_
     refine dr (.agg #[(iI 2), (iI 0), (iI 0), Zn]) (aJ (cG rfl) (by kernel_rfl)) ?_
     simp only [pq]
     refine aZ gu (v := fun n => .slice (aA n 0) 1 1) rfl (bS (ps := #[(0, (.agg #[(iI 2), (iI 0), (iI 0), Zn]))]) (cells := #[(iI 2), (iI 0), (iI 0), Zn]) (E := 33) (cG rfl) (fun w => by kernel_rfl)) (fun po pp az => ?_)
     refine eK (i := 0) (r := 0) (p := Ac.sync) (cs := [(iI 2), (iI 0), (iI 0), Zn]) az rfl h5 (.agg #[(iI 0), (iI 0), (iI 0), Zn]) 48 Tryz.underlying23 c1 c2 c3 c4 rfl (by decide) rfl rfl rfl rfl rfl (AcC.oneCell (F := m2) (p := Ac.sync) ⟨_, rfl, Bs.nil _⟩) (⟨_, rfl, Bs.nil _⟩) (Nat.le_refl _) az.gr.below.size (by unfold maxLen; (simp; have := hB.scr.len; (try simp at this); omega)) (by (simp; have := hB.scr.len; (try simp at this); omega)) ?_
     intro pt pv e9 lh
     simp only [pq]
     have e9 := St.drop e9 (.cons _ (List.Sublist.refl _))
     obtain ⟨gx, t1, rfl, pw, gy⟩ := (e9.own (i := 0) rfl).shape
     unfold maxLen at gy
     refine dy ?_
     refine wn ay ?_
     refine cS ?_
     refine b4 _ _ ?_
     rw [show ((a.map Rc.ac) ++ [Ac.sync]) = ((a ++ [Rc.sync]).map Rc.ac) from (jQ a [Rc.sync])] at e9 ⊢
     refine aB ?_
     refine dx ?_
     refine cD (i + 1) ?_
     refine aC ?_
     refine aH ?_
     have e9 := St.drop e9 (.cons _ (List.Sublist.refl _))
     exact b3 _ _ _ (by omega) ⟨(i + 1), (a ++ [Rc.sync]), gx, t1, m2, _, rfl, rfl, rfl, e9, ((a4.trans a9).trans a1), (by omega), (by omega), (hB.sync.mono (by omega))⟩
    ·refine aQ m2 6 [] (by kernel_rfl) (by kernel_rfl) ?_
     simp only [cV]
     refine gm ?_
     refine gv (pP c8 (0 + 0 * 1)) (fun _ _ => bK (i := 0) (sz := 1) Tryz.underlying25 (aV _) rfl rfl rfl (by exact Nat.zero_lt_succ _) rfl) ?_
     refine gv _ (fun _ t2 => aE rfl (aT (fG _) (St.fz (St.tells g6 t2) (Le.cell a1 ar)))) ?_
     simp only [pq]
     refine gm ?_
     refine gv (pP c9 (0 + 0 * 1)) (fun _ _ => bK (i := 0) (sz := 1) Tryz.underlying25 (aV _) rfl rfl rfl (by exact Nat.zero_lt_succ _) rfl) ?_
     refine gv _ (fun _ t2 => aE rfl (aT (fG _) (St.fz (St.tells g6 t2) av))) ?_
     simp only [pq]
     refine bN ?_
     intro px ba bb
     clear bb
     have t3 := St.tells g6 ba
     simp only [cW]
     refine dr bF (cB (m := (((bG (((aD g.name 4 + 1) : Nat) : Int)).toNat : Nat) : Int)) (n := (((bG (((aD g.key 4 + 1) : Nat) : Int)).toNat : Nat) : Int)) (b := false) rfl rfl (beq_eq_false_iff_ne.2 (by rw [vE (by omega), vE (by omega)]; omega))) ?_
     refine wlK o9 ?_
     refine aG ?_
     refine aI ?_
     refine ap _ _ ?_
     refine aF fun py bc => ?_
     have hFT : Two (aD g.name 4 + 1) (aD g.key 4 + 1) := ⟨by omega, by omega, by omega, by omega, by omega⟩
     refine aB ?_
     iterate 2 refine dx ?_
     refine dr (.agg #[(iI 7), Zn, Zn, Zn, Zn]) (aJ (cG rfl) (by kernel_rfl)) ?_
     simp only [pq]
     refine aY t3 rfl (fn2 (pF _ _)) (fT _ _ _ (aD g.session 8) 7 (⟨[], [], [], []⟩ : Rq) (t3).sat (hT.1.below t3.gr.below) ⟨_, _, _, _, rfl, (Bs.nil _), (Bs.nil _), (Bs.nil _), (Bs.nil _)⟩ ⟨by decide, by kernel_rfl⟩) ?_
     intro pz qa qb t4 a5 gz
     obtain ⟨d9, e0, rfl, t5⟩ := gz
     have t5 : Bs _ (.slice d9 (cH 7 (⟨[], [], [], []⟩ : Rq)).length e0) (cH 7 (⟨[], [], [], []⟩ : Rq)) := t5
     refine dx ?_
     refine dr (.agg #[(iI 1), Zn, Zn, Zn, Zn]) (aJ (cG rfl) (by kernel_rfl)) ?_
     refine aY t4 rfl (fn2 (pF _ _)) (fT _ _ _ (aD g.session 8) 1 (⟨[], [], [], []⟩ : Rq) (t4).sat (hT.1.below t4.gr.below) ⟨_, _, _, _, rfl, (Bs.nil _), (Bs.nil _), (Bs.nil _), (Bs.nil _)⟩ ⟨by decide, by kernel_rfl⟩) ?_
     intro qc qd qe t6 a3 ha
     obtain ⟨e1, e2, rfl, t7⟩ := ha
     have t7 : Bs _ (.slice e1 (cH 1 (⟨[], [], [], []⟩ : Rq)).length e2) (cH 1 (⟨[], [], [], []⟩ : Rq)) := t7
     refine aC ?_
     refine dr (.agg #[(iI 2), (.slice (aA b0 0) 1 1), (.slice (aA c8 0) 1 1), Zn, Zn]) (aJ (PD rfl rfl rfl) (by kernel_rfl)) ?_
     refine aY t6 rfl (fn2 (pF _ _)) (fT _ _ _ (aD g.session 8) 2 (⟨([98] : By), ([bG ((((aD g.name 4) + 1) : Nat) : Int)] : By), [], []⟩ : Rq) (t6).sat (hT.1.below t6.gr.below) ⟨_, _, _, _, rfl, (h6.mono (((((((c6.trans d7).trans d2).trans a4).trans a9).trans a1).trans a5).trans a3)), (s8.mono ((a1.trans a5).trans a3)), (Bs.nil _), (Bs.nil _)⟩ ⟨by decide, by kernel_rfl⟩) ?_
     intro qf qg qh t8 a6 hb
     obtain ⟨e3, e4, rfl, t9⟩ := hb
     have t9 : Bs _ (.slice e3 (cH 2 (⟨([98] : By), ([bG ((((aD g.name 4) + 1) : Nat) : Int)] : By), [], []⟩ : Rq)).length e4) (cH 2 (⟨([98] : By), ([bG ((((aD g.name 4) + 1) : Nat) : Int)] : By), [], []⟩ : Rq)) := t9
     refine aC ?_
     refine dr (.agg #[(iI 2), (.slice (aA b0 0) 1 1), (.slice (aA c9 0) 1 1), Zn, Zn]) (aJ (PD rfl rfl rfl) (by kernel_rfl)) ?_
     refine aY t8 rfl (fn2 (pF _ _)) (fT _ _ _ (aD g.session 8) 2 (⟨([98] : By), ([bG ((((aD g.key 4) + 1) : Nat) : Int)] : By), [], []⟩ : Rq) (t8).sat (hT.1.below t8.gr.below) ⟨_, _, _, _, rfl, (h6.mono ((((((((c6.trans d7).trans d2).trans a4).trans a9).trans a1).trans a5).trans a3).trans a6)), (s9.mono ((a5.trans a3).trans a6)), (Bs.nil _), (Bs.nil _)⟩ ⟨by decide, by kernel_rfl⟩) ?_
     intro qi qj hc hd a8 hf
     obtain ⟨e5, e6, rfl, u0⟩ := hf
     have u0 : Bs _ (.slice e5 (cH 2 (⟨([98] : By), ([bG ((((aD g.key 4) + 1) : Nat) : Int)] : By), [], []⟩ : Rq)).length e6) (cH 2 (⟨([98] : By), ([bG ((((aD g.key 4) + 1) : Nat) : Int)] : By), [], []⟩ : Rq)) := u0
     refine aZ hd (v := fun n => .slice (aA n 0) 4 4) rfl (bS (ps := #[(0, (.agg #[(iI 1), (nI (aD g.session 8)), (iI 0), (.slice d9 (cH 7 (⟨[], [], [], []⟩ : Rq)).length e0)])), (1, (.agg #[(iI 1), (nI (aD g.session 8)), (iI 0), (.slice e1 (cH 1 (⟨[], [], [], []⟩ : Rq)).length e2)])), (2, (.agg #[(iI 1), (nI (aD g.session 8)), (iI 0), (.slice e3 (cH 2 (⟨([98] : By), ([bG ((((aD g.name 4) + 1) : Nat) : Int)] : By), [], []⟩ : Rq)).length e4)])), (3, (.agg #[(iI 1), (nI (aD g.session 8)), (iI 0), (.slice e5 (cH 2 (⟨([98] : By), ([bG ((((aD g.key 4) + 1) : Nat) : Int)] : By), [], []⟩ : Rq)).length e6)]))]) (cells := #[(iI 1), (nI (aD g.session 8)), (iI 0), (.slice d9 (cH 7 (⟨[], [], [], []⟩ : Rq)).length e0), (iI 1), (nI (aD g.session 8)), (iI 0), (.slice e1 (cH 1 (⟨[], [], [], []⟩ : Rq)).length e2), (iI 1), (nI (aD g.session 8)), (iI 0), (.slice e3 (cH 2 (⟨([98] : By), ([bG ((((aD g.name 4) + 1) : Nat) : Int)] : By), [], []⟩ : Rq)).length e4), (iI 1), (nI (aD g.session 8)), (iI 0), (.slice e5 (cH 2 (⟨([98] : By), ([bG ((((aD g.key 4) + 1) : Nat) : Int)] : By), [], []⟩ : Rq)).length e6)]) (E := 33) (mE rfl rfl rfl rfl) (fun w => by kernel_rfl)) (fun m3 hg hh => ?_)
     simp only [pq]
     obtain ⟨u1, a7, bd⟩ := St.freezeBlk hh (i := 0) rfl
     have hk : Acs _ (.slice (some ⟨m3, 0, none⟩) 4 4) ([(Ac.ask (aD g.session 8) (cH 7 (⟨[], [], [], []⟩ : Rq))), (Ac.ask (aD g.session 8) (cH 1 (⟨[], [], [], []⟩ : Rq))), (Ac.ask (aD g.session 8) (cH 2 (⟨([98] : By), ([bG ((((aD g.name 4) + 1) : Nat) : Int)] : By), [], []⟩ : Rq))), (Ac.ask (aD g.session 8) (cH 2 (⟨([98] : By), ([bG ((((aD g.key 4) + 1) : Nat) : Int)] : By), [], []⟩ : Rq)))] : List Ac) := fS (R := AcC) (l := ([(Ac.ask (aD g.session 8) (cH 7 (⟨[], [], [], []⟩ : Rq))), (Ac.ask (aD g.session 8) (cH 1 (⟨[], [], [], []⟩ : Rq))), (Ac.ask (aD g.session 8) (cH 2 (⟨([98] : By), ([bG ((((aD g.name 4) + 1) : Nat) : Int)] : By), [], []⟩ : Rq))), (Ac.ask (aD g.session 8) (cH 2 (⟨([98] : By), ([bG ((((aD g.key 4) + 1) : Nat) : Int)] : By), [], []⟩ : Rq)))] : List Ac)) (el := [[(.int .i64 1), (.int .i64 (((aD g.session 8) : Nat) : Int)), (.int .i64 0), (.slice d9 (cH 7 (⟨[], [], [], []⟩ : Rq)).length e0)], [(.int .i64 1), (.int .i64 (((aD g.session 8) : Nat) : Int)), (.int .i64 0), (.slice e1 (cH 1 (⟨[], [], [], []⟩ : Rq)).length e2)], [(.int .i64 1), (.int .i64 (((aD g.session 8) : Nat) : Int)), (.int .i64 0), (.slice e3 (cH 2 (⟨([98] : By), ([bG ((((aD g.name 4) + 1) : Nat) : Int)] : By), [], []⟩ : Rq)).length e4)], [(.int .i64 1), (.int .i64 (((aD g.session 8) : Nat) : Int)), (.int .i64 0), (.slice e5 (cH 2 (⟨([98] : By), ([bG ((((aD g.key 4) + 1) : Nat) : Int)] : By), [], []⟩ : Rq)).length e6)]]) bd rfl ⟨⟨_, rfl, Bs.mono (t5.mono ((a3.trans a6).trans a8)) a7⟩, ⟨_, rfl, Bs.mono (t7.mono (a6.trans a8)) a7⟩, ⟨_, rfl, Bs.mono (t9.mono a8) a7⟩, ⟨_, rfl, Bs.mono u0 a7⟩, trivial⟩ (by simp) (by unfold maxLen; simp)
     generalize addF hc hg m3 = d1 at *
     refine eG (r := 0) (u := (.slice (aA m3 0) 4 4)) u1 rfl h5 (.agg #[(iI 0), (iI 0), (iI 0), Zn]) 48 Tryz.underlying23 c1 c2 c3 c4 rfl (by decide) rfl rfl rfl (Sl.toW hk (u1).sat) AcC.one (Nat.le_refl _) u1.gr.below.size (by unfold maxLen; (simp; have := hB.scr.len; (try simp at this); omega)) (by (simp; have := hB.scr.len; (try simp at this); omega)) ?_
     intro qk ql i6 li
     simp only [pq]
     obtain ⟨g7, b6, rfl, qm, hl⟩ := (i6.own (i := 0) rfl).shape
     unfold maxLen at hl
     refine dy ?_
     refine wlK bc ?_
     refine aF fun qn be => ?_
     rw [show ((a.map Rc.ac) ++ [(Ac.ask (aD g.session 8) (cH 7 (⟨[], [], [], []⟩ : Rq))), (Ac.ask (aD g.session 8) (cH 1 (⟨[], [], [], []⟩ : Rq))), (Ac.ask (aD g.session 8) (cH 2 (⟨([98] : By), ([bG ((((aD g.name 4) + 1) : Nat) : Int)] : By), [], []⟩ : Rq))), (Ac.ask (aD g.session 8) (cH 2 (⟨([98] : By), ([bG ((((aD g.key 4) + 1) : Nat) : Int)] : By), [], []⟩ : Rq)))]) = ((a ++ gN (aD g.session 8) (aD g.name 4 + 1) (aD g.key 4 + 1)).map Rc.ac) from (jQ a (gN (aD g.session 8) (aD g.name 4 + 1) (aD g.key 4 + 1)))] at i6 ⊢
     refine aB ?_
     refine aC ?_
     obtain ⟨rpa, rpb, hB2, hl2, hra, hrb, hcase⟩ := hB.ask (by omega) hp8 hFT
     obtain ⟨G, hG, h1⟩ : ∃ G, hH (a ++ gN (aD g.session 8) (aD g.name 4 + 1) (aD g.key 4 + 1)) = G ∧ (ScrOk (((a ++ gN (aD g.session 8) (aD g.name 4 + 1) (aD g.key 4 + 1)).map Rc.ac)) ∧ dW (((a ++ gN (aD g.session 8) (aD g.name 4 + 1) (aD g.key 4 + 1)).map Rc.ac)) = G) := ⟨_, rfl, hB2.scr.no (by omega)⟩
     rw [hG] at hl2 hra hrb
     have hgl : G.replies.length ≤ 100000 := by have := LE (((a ++ gN (aD g.session 8) (aD g.name 4 + 1) (aD g.key 4 + 1)).map Rc.ac)); rw [h1.2] at this; have := h1.1.len; omega
     obtain ⟨qo, m4, p0, i7, p1⟩ := St.hold i6
     have i7 : Acs _ (.slice g7 ((a ++ gN (aD g.session 8) (aD g.name 4 + 1) (aD g.key 4 + 1)).map Rc.ac).length b6) ((a ++ gN (aD g.session 8) (aD g.name 4 + 1) (aD g.key 4 + 1)).map Rc.ac) := i7
     refine aY m4 rfl (fn1 (UU _ _)) (CN _ _ _ ((a ++ gN (aD g.session 8) (aD g.name 4 + 1) (aD g.key 4 + 1)).map Rc.ac) (m4).sat (hT.1.below m4.gr.below) (hT.2.at m4.gr.below) i7 h1.1 h1.2) ?_
     intro qp qq qr hm f8 hn
     obtain ⟨_, rfl, ho⟩ := hn
     obtain ⟨m5, m6, d3, d4, rfl, qs, bf⟩ := ho
     refine aC ?_
     refine sA hm (tM _) fun f0 qt hp => ?_
     refine sW 0 hp (nD) fun qu bg => ?_
     refine aC ?_
     refine wlK be ?_
     refine aF fun qv bh => ?_
     refine sk fun qw bi => ?_
     refine aC ?_
     refine eM ?_
     refine dp ?_
     refine wn bi ?_
     refine aG ?_
     refine aI ?_
     refine bh _ _ ?_
     refine aF fun qx bj => ?_
     obtain ⟨bl, bm, bo, i8, i9, j0, j1, j2, j3, m7, m8, m9, n0, n1, n2, hq, g8, hr, qy, qz⟩ := Rps.row bf hra
     have hs : Value.oneCell' m7 = true := g8 _ (by simp)
     have ht : Value.oneCell' m8 = true := g8 _ (by simp)
     have hu : Value.oneCell' m9 = true := g8 _ (by simp)
     have hw : Value.oneCell' n0 = true := g8 _ (by simp)
     have hx : Value.oneCell' n1 = true := g8 _ (by simp)
     have hy : Value.oneCell' n2 = true := g8 _ (by simp)
     refine aB ?_
     refine aC ?_
     refine YR (((G.replies.length - 2) : Nat) : Int) ?_
     simp only [pq]
     refine dr (pP bl (bm + (G.replies.length - 2) * 15)) (bK (i := (G.replies.length - 2)) (sz := 15) Tryz.underlying41 (EJ _) rfl bo rfl (by omega) rfl) ?_
     refine dr _ (aE rfl (cU Tryz.underlying54 rfl (wH) (fun j v h => St.fz bg (hq j v h)))) ?_
     refine sA bg (PH _) fun bp rb hz => ?_
     simp only [pq]
     refine fK (i := 0) (v := (.agg #[(nI rpa.s), (.int .i64 rpa.code), (.int .i64 rpa.turn), (.bool rpa.found), (.slice i8 rpa.value.length i9), (.slice j0 rpa.pairs.length j1), (.slice j2 rpa.root.length j3), (.bool rpa.outer.empty), m7, m8, m9, (.bool rpa.inner.empty), n0, n1, n2])) hz rfl rfl rfl rfl (wH) (by simp only [Value.cells]; simp; exact ⟨rfl, rfl, rfl, rfl, rfl, rfl, rfl, rfl, hs, ht, hu, rfl, hw, hx, hy⟩) (Nat.le_of_ble_eq_true rfl) (fun rd bq => ?_)
     refine wlK bj ?_
     refine aF fun re br => ?_
     obtain ⟨bt, bu, bw, j4, j5, j6, j7, j8, j9, n3, n4, n5, n6, n7, n8, ia, g9, ib, rf, rg⟩ := Rps.row bf hrb
     have ic : Value.oneCell' n3 = true := g9 _ (by simp)
     have id : Value.oneCell' n4 = true := g9 _ (by simp)
     have ie : Value.oneCell' n5 = true := g9 _ (by simp)
     have ig : Value.oneCell' n6 = true := g9 _ (by simp)
     have ii : Value.oneCell' n7 = true := g9 _ (by simp)
     have ij : Value.oneCell' n8 = true := g9 _ (by simp)
     refine aB ?_
     refine aC ?_
     refine YR (((G.replies.length - 1) : Nat) : Int) ?_
     simp only [pq]
     refine dr (pP bt (bu + (G.replies.length - 1) * 15)) (bK (i := (G.replies.length - 1)) (sz := 15) Tryz.underlying41 (EJ _) rfl bw rfl (by omega) rfl) ?_
     refine dr _ (aE rfl (cU Tryz.underlying54 rfl (wH) (fun j v h => St.fz bq (ia j v h)))) ?_
     refine sA bq (PH _) fun bx rh ik => ?_
     simp only [pq]
     refine fK (i := 0) (v := (.agg #[(nI rpb.s), (.int .i64 rpb.code), (.int .i64 rpb.turn), (.bool rpb.found), (.slice j4 rpb.value.length j5), (.slice j6 rpb.pairs.length j7), (.slice j8 rpb.root.length j9), (.bool rpb.outer.empty), n3, n4, n5, (.bool rpb.inner.empty), n6, n7, n8])) ik rfl rfl rfl rfl (wH) (by simp only [Value.cells]; simp; exact ⟨rfl, rfl, rfl, rfl, rfl, rfl, rfl, rfl, ic, id, ie, rfl, ig, ii, ij⟩) (Nat.le_of_ble_eq_true rfl) (fun ri il => ?_)
     refine wlK br ?_
     refine sk fun rj bz => ?_
     refine aC ?_
     have lj := gE g.value (m := 9) (by decide)
     refine aL (v := (nI (aD g.value 9))) il rfl (fn2 (qW _ _)) (fR g.value 9 _ (by omega) (by omega) (by decide) (by decide)) (fun rk k0 => ?_)
     refine dy ?_
     refine wn bz ?_
     refine aF fun im p2 => ?_
     rcases hcase with he | ⟨y, x, z, he1, he2, hput⟩
     ·have io := St.thaw i6 p1 k0 (p0.trans f8) f8
      refine sk fun rl ca => ?_
      refine aC ?_
      refine dr bF (cB (m := rpa.code) (n := (0 : Int)) (b := false) rfl rfl (beq_eq_false_iff_ne.2 (by rw [he]; show (6 : Int) ≠ 0; decide))) ?_
      refine aC ?_
      refine wn ca ?_
      refine aG ?_
      refine aI ?_
      refine p2 _ _ ?_
      refine sk fun rm cb => ?_
      refine aC ?_
      have lk := gE g.kind (m := 7) (by decide)
      refine aL (v := (nI (aD g.kind 7))) io rfl (fn2 (qW _ _)) (fR g.kind 7 _ (by omega) (by omega) (by decide) (by decide)) (fun rn h0 => ?_)
      refine wn cb ?_
      refine aM ?_
      refine sk fun ro p3 => ?_
      by_cases cc : (aD g.kind 7) = 0
      ·refine iR ?_
       refine dy ?_
       refine wn p3 ?_
       refine aK ?_
       refine aB ?_
       refine aC ?_
       have ll := gE g.value (m := 200) (by decide)
       refine aL (v := (nI (aD g.value 200))) h0 rfl (fn2 (qW _ _)) (fR g.value 200 _ (by omega) (by omega) (by decide) (by decide)) (fun rp ip => ?_)
       refine dr (.agg #[(iI 3), (iI 0), (nI (aD g.value 200)), Zn]) (aJ (eZ rfl rfl) (by kernel_rfl)) ?_
       refine dr (.agg #[(iI 4), (iI 0), (iI 0), Zn]) (aJ (cG rfl) (by kernel_rfl)) ?_
       refine aZ ip (v := fun n => .slice (aA n 0) 2 2) rfl (bS (ps := #[(0, (.agg #[(iI 3), (iI 0), (nI (aD g.value 200)), Zn])), (1, (.agg #[(iI 4), (iI 0), (iI 0), Zn]))]) (cells := #[(iI 3), (iI 0), (nI (aD g.value 200)), Zn, (iI 4), (iI 0), (iI 0), Zn]) (E := 33) (eZ rfl rfl) (fun w => by kernel_rfl)) (fun u2 iq ir => ?_)
       simp only [pq]
       obtain ⟨u3, cd, ce⟩ := St.freezeBlk ir (i := 0) rfl
       have it : Acs _ (.slice (some ⟨u2, 0, none⟩) 2 2) ([(Ac.crash (aD g.value 200)), Ac.start] : List Ac) := fS (R := AcC) (l := ([(Ac.crash (aD g.value 200)), Ac.start] : List Ac)) (el := [[(.int .i64 3), (.int .i64 0), (.int .i64 (((aD g.value 200) : Nat) : Int)), (.slice none 0 0)], [(.int .i64 4), (.int .i64 0), (.int .i64 0), (.slice none 0 0)]]) ce rfl ⟨⟨_, rfl, Bs.nil _⟩, ⟨_, rfl, Bs.nil _⟩, trivial⟩ (by simp) (by unfold maxLen; simp)
       generalize addF d1 iq u2 = iu at *
       refine eG (r := 0) (u := (.slice (aA u2 0) 2 2)) u3 rfl h5 (.agg #[(iI 0), (iI 0), (iI 0), Zn]) 48 Tryz.underlying23 c1 c2 c3 c4 rfl (by decide) rfl rfl rfl (Sl.toW it (u3).sat) AcC.one (Nat.le_refl _) u3.gr.below.size (by unfold maxLen; (simp; have := hB2.scr.len; (try simp at this); omega)) (by (simp; have := hB2.scr.len; (try simp at this); omega)) ?_
       intro rr rs k1 lm
       simp only [pq]
       obtain ⟨iv, u4, rfl, rt, iw⟩ := (k1.own (i := 0) rfl).shape
       unfold maxLen at iw
       refine dy ?_
       refine wlK b4 ?_
       rw [show (((a ++ gN (aD g.session 8) (aD g.name 4 + 1) (aD g.key 4 + 1)).map Rc.ac) ++ [(Ac.crash (aD g.value 200)), Ac.start]) = (((a ++ gN (aD g.session 8) (aD g.name 4 + 1) (aD g.key 4 + 1)) ++ [Rc.crash (aD g.value 200), Rc.start]).map Rc.ac) from (jQ (a ++ gN (aD g.session 8) (aD g.name 4 + 1) (aD g.key 4 + 1)) [Rc.crash (aD g.value 200), Rc.start])] at k1 ⊢
       refine aB ?_
       refine dx ?_
       refine cD (i + 1) ?_
       refine aC ?_
       refine aH ?_
       have k1 := St.drop k1 (.cons _ (.cons _ (.cons _ (.cons _ (List.Sublist.refl _)))))
       exact b3 _ _ _ (by omega) ⟨(i + 1), ((a ++ gN (aD g.session 8) (aD g.name 4 + 1) (aD g.key 4 + 1)) ++ [Rc.crash (aD g.value 200), Rc.start]), iv, u4, iu, _, rfl, rfl, rfl, k1, ((((((((a4.trans a9).trans a1).trans a5).trans a3).trans a6).trans a8).trans a7).trans cd), (by omega), (by omega), ((hB2.crash (by omega)).mono (by omega))⟩
      ·refine gL ?_
       refine dy ?_
       refine wn p3 ?_
       refine aG ?_
       refine aF fun ru k3 => ?_
       refine sk fun rv p4 => ?_
       by_cases cf : (aD g.kind 7) = 1
       ·refine iR ?_
        refine aC ?_
        refine wn p4 ?_
        refine aK ?_
        refine aI ?_
        refine k3 _ _ ?_
        refine aK ?_
        refine aB ?_
        refine dx ?_
        refine dr (.agg #[(iI 2), (iI 0), (iI 0), Zn]) (aJ (cG rfl) (by kernel_rfl)) ?_
        refine aZ h0 (v := fun n => .slice (aA n 0) 1 1) rfl (bS (ps := #[(0, (.agg #[(iI 2), (iI 0), (iI 0), Zn]))]) (cells := #[(iI 2), (iI 0), (iI 0), Zn]) (E := 33) (cG rfl) (fun w => by kernel_rfl)) (fun rx ry cg => ?_)
        refine eK (i := 0) (r := 0) (p := Ac.sync) (cs := [(iI 2), (iI 0), (iI 0), Zn]) cg rfl h5 (.agg #[(iI 0), (iI 0), (iI 0), Zn]) 48 Tryz.underlying23 c1 c2 c3 c4 rfl (by decide) rfl rfl rfl rfl rfl (AcC.oneCell (F := d1) (p := Ac.sync) ⟨_, rfl, Bs.nil _⟩) (⟨_, rfl, Bs.nil _⟩) (Nat.le_refl _) cg.gr.below.size (by unfold maxLen; (simp; have := hB2.scr.len; (try simp at this); omega)) (by (simp; have := hB2.scr.len; (try simp at this); omega)) ?_
        intro rz sa f1 ln
        simp only [pq]
        have f1 := St.drop f1 (.cons _ (List.Sublist.refl _))
        obtain ⟨ix, u5, rfl, sb, iy⟩ := (f1.own (i := 0) rfl).shape
        unfold maxLen at iy
        refine dy ?_
        refine wlK b4 ?_
        rw [show (((a ++ gN (aD g.session 8) (aD g.name 4 + 1) (aD g.key 4 + 1)).map Rc.ac) ++ [Ac.sync]) = (((a ++ gN (aD g.session 8) (aD g.name 4 + 1) (aD g.key 4 + 1)) ++ [Rc.sync]).map Rc.ac) from (jQ (a ++ gN (aD g.session 8) (aD g.name 4 + 1) (aD g.key 4 + 1)) [Rc.sync])] at f1 ⊢
        refine aB ?_
        refine dx ?_
        refine cD (i + 1) ?_
        refine aC ?_
        refine aH ?_
        have f1 := St.drop f1 (.cons _ (.cons _ (.cons _ (.cons _ (List.Sublist.refl _)))))
        exact b3 _ _ _ (by omega) ⟨(i + 1), ((a ++ gN (aD g.session 8) (aD g.name 4 + 1) (aD g.key 4 + 1)) ++ [Rc.sync]), ix, u5, d1, _, rfl, rfl, rfl, f1, (((((((a4.trans a9).trans a1).trans a5).trans a3).trans a6).trans a8).trans a7), (by omega), (by omega), (hB2.sync.mono (by omega))⟩
       ·refine gL ?_
        refine dy ?_
        refine wn p4 ?_
        refine aG ?_
        refine aB ?_
        by_cases ch : (aD g.kind 7) = 2
        ·refine iR ?_
         refine aC ?_
         refine wlK k3 ?_
         refine aK ?_
         refine aB ?_
         refine dx ?_
         refine dr (.agg #[(iI 2), (iI 0), (iI 0), Zn]) (aJ (cG rfl) (by kernel_rfl)) ?_
         refine aZ h0 (v := fun n => .slice (aA n 0) 1 1) rfl (bS (ps := #[(0, (.agg #[(iI 2), (iI 0), (iI 0), Zn]))]) (cells := #[(iI 2), (iI 0), (iI 0), Zn]) (E := 33) (cG rfl) (fun w => by kernel_rfl)) (fun sd se ci => ?_)
         refine eK (i := 0) (r := 0) (p := Ac.sync) (cs := [(iI 2), (iI 0), (iI 0), Zn]) ci rfl h5 (.agg #[(iI 0), (iI 0), (iI 0), Zn]) 48 Tryz.underlying23 c1 c2 c3 c4 rfl (by decide) rfl rfl rfl rfl rfl (AcC.oneCell (F := d1) (p := Ac.sync) ⟨_, rfl, Bs.nil _⟩) (⟨_, rfl, Bs.nil _⟩) (Nat.le_refl _) ci.gr.below.size (by unfold maxLen; (simp; have := hB2.scr.len; (try simp at this); omega)) (by (simp; have := hB2.scr.len; (try simp at this); omega)) ?_
         intro sf sg f2 lo
         simp only [pq]
         have f2 := St.drop f2 (.cons _ (List.Sublist.refl _))
         obtain ⟨iz, u6, rfl, sh, ja⟩ := (f2.own (i := 0) rfl).shape
         unfold maxLen at ja
         refine dy ?_
         refine wlK b4 ?_
         rw [show (((a ++ gN (aD g.session 8) (aD g.name 4 + 1) (aD g.key 4 + 1)).map Rc.ac) ++ [Ac.sync]) = (((a ++ gN (aD g.session 8) (aD g.name 4 + 1) (aD g.key 4 + 1)) ++ [Rc.sync]).map Rc.ac) from (jQ (a ++ gN (aD g.session 8) (aD g.name 4 + 1) (aD g.key 4 + 1)) [Rc.sync])] at f2 ⊢
         refine aB ?_
         refine dx ?_
         refine cD (i + 1) ?_
         refine aC ?_
         refine aH ?_
         have f2 := St.drop f2 (.cons _ (.cons _ (.cons _ (.cons _ (List.Sublist.refl _)))))
         exact b3 _ _ _ (by omega) ⟨(i + 1), ((a ++ gN (aD g.session 8) (aD g.name 4 + 1) (aD g.key 4 + 1)) ++ [Rc.sync]), iz, u6, d1, _, rfl, rfl, rfl, f2, (((((((a4.trans a9).trans a1).trans a5).trans a3).trans a6).trans a8).trans a7), (by omega), (by omega), (hB2.sync.mono (by omega))⟩
        ·refine gL ?_
         refine dy ?_
         refine wlK k3 ?_
         refine aG ?_
         refine aI ?_
         refine b4 _ _ ?_
         refine aB ?_
         refine dx ?_
         refine cD (i + 1) ?_
         refine aC ?_
         refine aH ?_
         have h0 := St.drop h0 (.cons _ (.cons _ (.cons _ (.cons _ (List.Sublist.refl _)))))
         exact b3 _ _ _ (by omega) ⟨(i + 1), (a ++ gN (aD g.session 8) (aD g.name 4 + 1) (aD g.key 4 + 1)), g7, b6, d1, _, rfl, rfl, rfl, h0, (((((((a4.trans a9).trans a1).trans a5).trans a3).trans a6).trans a8).trans a7), (by omega), (by omega), (hB2.mono (by omega))⟩
     ·have hfa : rpa.found = true := by rw [he1]; rfl
      have hfb : rpb.found = true := by rw [he2]; rfl
      rw [hfa, hfb] at k0 ⊢
      have hva : rpa.value[0]? = some x := by rw [he1]; rfl
      have hvb : rpb.value[0]? = some z := by rw [he2]; rfl
      have hla := getD_some hva
      have hlb := getD_some hvb
      have hxl := x.toNat_lt
      have hzl := z.toNat_lt
      obtain ⟨cj, ck, p5, jb⟩ := Bs.get hr hva
      have p6 := (St.fz k0 jb)
      obtain ⟨cl, cm, p7, jc⟩ := Bs.get ib hvb
      have p8 := (St.fz k0 jc)
      have b5 := St.thaw i6 p1 k0 (p0.trans f8) f8
      have f9 : ∀ (n9 : Act) (u7 : World), (∃ (a2 : List Rc) (r2 : Option Addr) (k2 : Nat) (d5 : Fz) (u9 : Nat → Value), u9 = dY n9 ∧ n9 = ⟨([(.slice a0 l0.length c0), undef, (d0 2), (.slice (some ⟨b0, 0, none⟩) 1 1), (.slice r2 (a2.map Rc.ac).length k2), (.int .i64 4), (.int .i64 ((i : Nat) : Int)), (.pointer (some ⟨g5, 0, none⟩)), (.int .i64 (((aD g.session 8) : Nat) : Int)), (.slice (some ⟨c8, 0, none⟩) 1 1), (.slice (some ⟨c9, 0, none⟩) 1 1), (.pointer (some ⟨f0, 0, none⟩)), (.bool true), (.pointer (some ⟨bp, 0, none⟩)), (.pointer (some ⟨bx, 0, none⟩)), (.int .i64 (((aD g.value 9) : Nat) : Int))] ++ (udF 4 ([(.slice (some ⟨b0, 0, none⟩) 1 1), (.agg #[(.int .i64 1), (.slice none 0 0), (.slice none 0 0), (.slice none 0 0), (.slice none 0 0)]), (.agg #[(.int .i64 1), (.int .i64 0), (.int .i64 0), (.slice b1 (cH 1 (⟨[], [], [], []⟩ : Rq)).length b2)]), (.slice (some ⟨d6, 0, none⟩) 1 1), (.int .i64 4), (.bool false)] ++ (usF e7 26 13 ([(.slice r4 ((kL.take (1 + 4)).map Rc.ac).length k4), (.agg #[(.int .i64 6), (.slice none 0 0), (.slice none 0 0), (.slice none 0 0), (.slice none 0 0)]), (.agg #[(.int .i64 1), (.int .i64 0), (.int .i64 0), (.slice b7 (cH 6 (⟨[], [], [], []⟩ : Rq)).length b9)]), (.agg #[(.int .i64 2), (.int .i64 0), (.int .i64 0), (.slice none 0 0)]), (.slice (some ⟨e8, 0, none⟩) 2 2), (.slice h9 (kL.map Rc.ac).length c7), (.int .i64 ((i : Nat) : Int)), (.slice a0 l0.length c0), (.int .i64 ((l0.length : Nat) : Int)), (.bool true), (.bool true), (.int .i64 ((i : Nat) : Int)), (.bool true), (.bool true), (d0 53), (d0 54), (.slice a0 l0.length c0), (.int .i64 ((i : Nat) : Int)), (.pointer (some ⟨ai, aj + i * 5, none⟩)), (.agg #[(.int .i64 g.kind), (.int .i64 g.session), (.int .i64 g.name), (.int .i64 g.key), (.int .i64 g.value)]), (.pointer (some ⟨g5, 1, none⟩)), (.int .i64 g.session), (.int .i64 (((aD g.session 8) : Nat) : Int)), (.pointer (some ⟨g5, 2, none⟩)), (.int .i64 g.name), (.int .i64 (((aD g.name 4) : Nat) : Int)), (.int .i64 ((((aD g.name 4) + 1) : Nat) : Int)), (.int .u8 (((bG ((((aD g.name 4) + 1) : Nat) : Int)).toNat : Nat) : Int)), (.slice (some ⟨c8, 0, none⟩) 1 1), (.pointer (some ⟨g5, 3, none⟩)), (.int .i64 g.key), (.int .i64 (((aD g.key 4) : Nat) : Int)), (.int .i64 ((((aD g.key 4) + 1) : Nat) : Int)), (.int .u8 (((bG ((((aD g.key 4) + 1) : Nat) : Int)).toNat : Nat) : Int)), (.slice (some ⟨c9, 0, none⟩) 1 1), (.slice (some ⟨c8, 0, none⟩) 1 1), (.pointer (some ⟨c8, 0 + 0 * 1, none⟩)), (bv (bG (((aD g.name 4 + 1) : Nat) : Int))), (.slice (some ⟨c9, 0, none⟩) 1 1), (.pointer (some ⟨c9, 0 + 0 * 1, none⟩)), (bv (bG (((aD g.key 4 + 1) : Nat) : Int))), (.bool false)] ++ (usF d0 81 4 ([(.slice ra (a.map Rc.ac).length rc), (.int .i64 (((aD g.session 8) : Nat) : Int)), (.agg #[(.int .i64 7), (.slice none 0 0), (.slice none 0 0), (.slice none 0 0), (.slice none 0 0)]), (.agg #[(.int .i64 1), (.int .i64 (((aD g.session 8) : Nat) : Int)), (.int .i64 0), (.slice d9 (cH 7 (⟨[], [], [], []⟩ : Rq)).length e0)]), (.int .i64 (((aD g.session 8) : Nat) : Int)), (.agg #[(.int .i64 1), (.slice none 0 0), (.slice none 0 0), (.slice none 0 0), (.slice none 0 0)]), (.agg #[(.int .i64 1), (.int .i64 (((aD g.session 8) : Nat) : Int)), (.int .i64 0), (.slice e1 (cH 1 (⟨[], [], [], []⟩ : Rq)).length e2)]), (.int .i64 (((aD g.session 8) : Nat) : Int)), (.slice (some ⟨b0, 0, none⟩) 1 1), (.slice (some ⟨c8, 0, none⟩) 1 1), (.agg #[(.int .i64 2), (.slice (some ⟨b0, 0, none⟩) 1 1), (.slice (some ⟨c8, 0, none⟩) 1 1), (.slice none 0 0), (.slice none 0 0)]), (.agg #[(.int .i64 1), (.int .i64 (((aD g.session 8) : Nat) : Int)), (.int .i64 0), (.slice e3 (cH 2 (⟨([98] : By), ([bG ((((aD g.name 4) + 1) : Nat) : Int)] : By), [], []⟩ : Rq)).length e4)]), (.int .i64 (((aD g.session 8) : Nat) : Int)), (.slice (some ⟨b0, 0, none⟩) 1 1), (.slice (some ⟨c9, 0, none⟩) 1 1), (.agg #[(.int .i64 2), (.slice (some ⟨b0, 0, none⟩) 1 1), (.slice (some ⟨c9, 0, none⟩) 1 1), (.slice none 0 0), (.slice none 0 0)]), (.agg #[(.int .i64 1), (.int .i64 (((aD g.session 8) : Nat) : Int)), (.int .i64 0), (.slice e5 (cH 2 (⟨([98] : By), ([bG ((((aD g.key 4) + 1) : Nat) : Int)] : By), [], []⟩ : Rq)).length e6)]), (.slice (some ⟨m3, 0, none⟩) 4 4), (.slice g7 ((a ++ gN (aD g.session 8) (aD g.name 4 + 1) (aD g.key 4 + 1)).map Rc.ac).length b6), (.tuple #[(.agg #[(.bool G.up), (.int .i64 ((G.synced : Nat) : Int)), (.int .i64 ((G.waiting.length : Nat) : Int)), (.slice m5 (G.forest G.synced).length m6), (.slice d3 G.replies.length d4)]), (.bool true)]), (.slice g7 ((a ++ gN (aD g.session 8) (aD g.name 4 + 1) (aD g.key 4 + 1)).map Rc.ac).length b6), (.tuple #[(.agg #[(.bool G.up), (.int .i64 ((G.synced : Nat) : Int)), (.int .i64 ((G.waiting.length : Nat) : Int)), (.slice m5 (G.forest G.synced).length m6), (.slice d3 G.replies.length d4)]), (.bool true)]), (.agg #[(.bool G.up), (.int .i64 ((G.synced : Nat) : Int)), (.int .i64 ((G.waiting.length : Nat) : Int)), (.slice m5 (G.forest G.synced).length m6), (.slice d3 G.replies.length d4)]), (.bool true), (.bool true), (.bool false), (.bool false), (.pointer (some ⟨f0, 4, none⟩)), (.slice d3 G.replies.length d4), (.int .i64 ((G.replies.length : Nat) : Int)), (.bool false), (.bool false), (.pointer (some ⟨f0, 4, none⟩)), (.slice d3 G.replies.length d4), (.pointer (some ⟨f0, 4, none⟩)), (.slice d3 G.replies.length d4), (.int .i64 ((G.replies.length : Nat) : Int)), (.int .i64 (((G.replies.length - 2) : Nat) : Int)), (.pointer (some ⟨bl, bm + (G.replies.length - 2) * 15, none⟩)), (.agg #[(.int .i64 ((rpa.s : Nat) : Int)), (.int .i64 rpa.code), (.int .i64 rpa.turn), (.bool true), (.slice i8 rpa.value.length i9), (.slice j0 rpa.pairs.length j1), (.slice j2 rpa.root.length j3), (.bool rpa.outer.empty), m7, m8, m9, (.bool rpa.inner.empty), n0, n1, n2]), (.pointer (some ⟨f0, 4, none⟩)), (.slice d3 G.replies.length d4), (.pointer (some ⟨f0, 4, none⟩)), (.slice d3 G.replies.length d4), (.int .i64 ((G.replies.length : Nat) : Int)), (.int .i64 (((G.replies.length - 1) : Nat) : Int)), (.pointer (some ⟨bt, bu + (G.replies.length - 1) * 15, none⟩)), (.agg #[(.int .i64 ((rpb.s : Nat) : Int)), (.int .i64 rpb.code), (.int .i64 rpb.turn), (.bool true), (.slice j4 rpb.value.length j5), (.slice j6 rpb.pairs.length j7), (.slice j8 rpb.root.length j9), (.bool rpb.outer.empty), n3, n4, n5, (.bool rpb.inner.empty), n6, n7, n8]), (.pointer (some ⟨g5, 4, none⟩)), (.int .i64 g.value), (.int .i64 (((aD g.value 9) : Nat) : Int))] ++ (usF u9 136 74 (usF d0 210 20 (udF 42 [])))))))))).toArray, []⟩ ∧ St W (whole W) u7 d5 [⟨bx, [(.int .i64 ((rpb.s : Nat) : Int)), (.int .i64 rpb.code), (.int .i64 rpb.turn), (.bool true), (.slice j4 rpb.value.length j5), (.slice j6 rpb.pairs.length j7), (.slice j8 rpb.root.length j9), (.bool rpb.outer.empty), n3, n4, n5, (.bool rpb.inner.empty), n6, n7, n8], 54⟩, ⟨bp, [(.int .i64 ((rpa.s : Nat) : Int)), (.int .i64 rpa.code), (.int .i64 rpa.turn), (.bool true), (.slice i8 rpa.value.length i9), (.slice j0 rpa.pairs.length j1), (.slice j2 rpa.root.length j3), (.bool rpa.outer.empty), m7, m8, m9, (.bool rpa.inner.empty), n0, n1, n2], 54⟩, ⟨f0, [(.bool G.up), (.int .i64 ((G.synced : Nat) : Int)), (.int .i64 ((G.waiting.length : Nat) : Int)), (.slice m5 (G.forest G.synced).length m6), (.slice d3 G.replies.length d4)], 43⟩, ⟨g5, [(.int .i64 g.kind), (.int .i64 g.session), (.int .i64 g.name), (.int .i64 g.key), (.int .i64 g.value)], 31⟩] [bV 4 AcC AcC.mono 33 W.heap.size (.slice r2 (a2.map Rc.ac).length k2) (a2.map Rc.ac)] ∧ Le d1 d5 ∧ (BankS (4 * i + 3) a2)) → im n9 u7 := by
       rintro n9 u7 ⟨a2, r2, k2, d5, u9, -, hfr, jd, g0, hB4⟩
       simp only [uzF, Nat.reduceAdd] at hfr; subst hfr
       refine p2 _ _ ?_
       refine sk fun si cn => ?_
       refine aC ?_
       have lp := gE g.kind (m := 7) (by decide)
       refine aL (v := (nI (aD g.kind 7))) jd rfl (fn2 (qW _ _)) (fR g.kind 7 _ (by omega) (by omega) (by decide) (by decide)) (fun sj h3 => ?_)
       refine wn cn ?_
       refine aM ?_
       refine sk fun sl p9 => ?_
       by_cases cc : (aD g.kind 7) = 0
       ·refine iR ?_
        refine dy ?_
        refine wn p9 ?_
        refine aK ?_
        refine aB ?_
        refine aC ?_
        have lq := gE g.value (m := 200) (by decide)
        refine aL (v := (nI (aD g.value 200))) h3 rfl (fn2 (qW _ _)) (fR g.value 200 _ (by omega) (by omega) (by decide) (by decide)) (fun sm je => ?_)
        refine dr (.agg #[(iI 3), (iI 0), (nI (aD g.value 200)), Zn]) (aJ (eZ rfl rfl) (by kernel_rfl)) ?_
        refine dr (.agg #[(iI 4), (iI 0), (iI 0), Zn]) (aJ (cG rfl) (by kernel_rfl)) ?_
        refine aZ je (v := fun n => .slice (aA n 0) 2 2) rfl (bS (ps := #[(0, (.agg #[(iI 3), (iI 0), (nI (aD g.value 200)), Zn])), (1, (.agg #[(iI 4), (iI 0), (iI 0), Zn]))]) (cells := #[(iI 3), (iI 0), (nI (aD g.value 200)), Zn, (iI 4), (iI 0), (iI 0), Zn]) (E := 33) (eZ rfl rfl) (fun w => by kernel_rfl)) (fun v1 jf jg => ?_)
        simp only [pq]
        obtain ⟨v2, co, cp⟩ := St.freezeBlk jg (i := 0) rfl
        have jh : Acs _ (.slice (some ⟨v1, 0, none⟩) 2 2) ([(Ac.crash (aD g.value 200)), Ac.start] : List Ac) := fS (R := AcC) (l := ([(Ac.crash (aD g.value 200)), Ac.start] : List Ac)) (el := [[(.int .i64 3), (.int .i64 0), (.int .i64 (((aD g.value 200) : Nat) : Int)), (.slice none 0 0)], [(.int .i64 4), (.int .i64 0), (.int .i64 0), (.slice none 0 0)]]) cp rfl ⟨⟨_, rfl, Bs.nil _⟩, ⟨_, rfl, Bs.nil _⟩, trivial⟩ (by simp) (by unfold maxLen; simp)
        generalize addF d5 jf v1 = ji at *
        refine eG (r := 0) (u := (.slice (aA v1 0) 2 2)) v2 rfl h5 (.agg #[(iI 0), (iI 0), (iI 0), Zn]) 48 Tryz.underlying23 c1 c2 c3 c4 rfl (by decide) rfl rfl rfl (Sl.toW jh (v2).sat) AcC.one (Nat.le_refl _) v2.gr.below.size (by unfold maxLen; (simp; have := hB4.scr.len; (try simp at this); omega)) (by (simp; have := hB4.scr.len; (try simp at this); omega)) ?_
        intro sn so k5 lr
        simp only [pq]
        obtain ⟨jj, v3, rfl, sp, jk⟩ := (k5.own (i := 0) rfl).shape
        unfold maxLen at jk
        refine dy ?_
        refine wlK b4 ?_
        rw [show ((a2.map Rc.ac) ++ [(Ac.crash (aD g.value 200)), Ac.start]) = ((a2 ++ [Rc.crash (aD g.value 200), Rc.start]).map Rc.ac) from (jQ a2 [Rc.crash (aD g.value 200), Rc.start])] at k5 ⊢
        refine aB ?_
        refine dx ?_
        refine cD (i + 1) ?_
        refine aC ?_
        refine aH ?_
        have k5 := St.drop k5 (.cons _ (.cons _ (.cons _ (.cons _ (List.Sublist.refl _)))))
        exact b3 _ _ _ (by omega) ⟨(i + 1), (a2 ++ [Rc.crash (aD g.value 200), Rc.start]), jj, v3, ji, _, rfl, rfl, rfl, k5, (((((((((a4.trans a9).trans a1).trans a5).trans a3).trans a6).trans a8).trans a7).trans g0).trans co), (by omega), (by omega), ((hB4.crash (by omega)).mono (by omega))⟩
       ·refine gL ?_
        refine dy ?_
        refine wn p9 ?_
        refine aG ?_
        refine aF fun sq k6 => ?_
        refine sk fun sr q1 => ?_
        by_cases cf : (aD g.kind 7) = 1
        ·refine iR ?_
         refine aC ?_
         refine wn q1 ?_
         refine aK ?_
         refine aI ?_
         refine k6 _ _ ?_
         refine aK ?_
         refine aB ?_
         refine dx ?_
         refine dr (.agg #[(iI 2), (iI 0), (iI 0), Zn]) (aJ (cG rfl) (by kernel_rfl)) ?_
         refine aZ h3 (v := fun n => .slice (aA n 0) 1 1) rfl (bS (ps := #[(0, (.agg #[(iI 2), (iI 0), (iI 0), Zn]))]) (cells := #[(iI 2), (iI 0), (iI 0), Zn]) (E := 33) (cG rfl) (fun w => by kernel_rfl)) (fun ss st cq => ?_)
         refine eK (i := 0) (r := 0) (p := Ac.sync) (cs := [(iI 2), (iI 0), (iI 0), Zn]) cq rfl h5 (.agg #[(iI 0), (iI 0), (iI 0), Zn]) 48 Tryz.underlying23 c1 c2 c3 c4 rfl (by decide) rfl rfl rfl rfl rfl (AcC.oneCell (F := d5) (p := Ac.sync) ⟨_, rfl, Bs.nil _⟩) (⟨_, rfl, Bs.nil _⟩) (Nat.le_refl _) cq.gr.below.size (by unfold maxLen; (simp; have := hB4.scr.len; (try simp at this); omega)) (by (simp; have := hB4.scr.len; (try simp at this); omega)) ?_
         intro su sv f3 ls
         simp only [pq]
         have f3 := St.drop f3 (.cons _ (List.Sublist.refl _))
         obtain ⟨jl, v4, rfl, sw, jm⟩ := (f3.own (i := 0) rfl).shape
         unfold maxLen at jm
         refine dy ?_
         refine wlK b4 ?_
         rw [show ((a2.map Rc.ac) ++ [Ac.sync]) = ((a2 ++ [Rc.sync]).map Rc.ac) from (jQ a2 [Rc.sync])] at f3 ⊢
         refine aB ?_
         refine dx ?_
         refine cD (i + 1) ?_
         refine aC ?_
         refine aH ?_
         have f3 := St.drop f3 (.cons _ (.cons _ (.cons _ (.cons _ (List.Sublist.refl _)))))
         exact b3 _ _ _ (by omega) ⟨(i + 1), (a2 ++ [Rc.sync]), jl, v4, d5, _, rfl, rfl, rfl, f3, ((((((((a4.trans a9).trans a1).trans a5).trans a3).trans a6).trans a8).trans a7).trans g0), (by omega), (by omega), (hB4.sync.mono (by omega))⟩
        ·refine gL ?_
         refine dy ?_
         refine wn q1 ?_
         refine aG ?_
         refine aB ?_
         by_cases ch : (aD g.kind 7) = 2
         ·refine iR ?_
          refine aC ?_
          refine wlK k6 ?_
          refine aK ?_
          refine aB ?_
          refine dx ?_
          refine dr (.agg #[(iI 2), (iI 0), (iI 0), Zn]) (aJ (cG rfl) (by kernel_rfl)) ?_
          refine aZ h3 (v := fun n => .slice (aA n 0) 1 1) rfl (bS (ps := #[(0, (.agg #[(iI 2), (iI 0), (iI 0), Zn]))]) (cells := #[(iI 2), (iI 0), (iI 0), Zn]) (E := 33) (cG rfl) (fun w => by kernel_rfl)) (fun sx sy cr => ?_)
          refine eK (i := 0) (r := 0) (p := Ac.sync) (cs := [(iI 2), (iI 0), (iI 0), Zn]) cr rfl h5 (.agg #[(iI 0), (iI 0), (iI 0), Zn]) 48 Tryz.underlying23 c1 c2 c3 c4 rfl (by decide) rfl rfl rfl rfl rfl (AcC.oneCell (F := d5) (p := Ac.sync) ⟨_, rfl, Bs.nil _⟩) (⟨_, rfl, Bs.nil _⟩) (Nat.le_refl _) cr.gr.below.size (by unfold maxLen; (simp; have := hB4.scr.len; (try simp at this); omega)) (by (simp; have := hB4.scr.len; (try simp at this); omega)) ?_
          intro ta tb f4 lt
          simp only [pq]
          have f4 := St.drop f4 (.cons _ (List.Sublist.refl _))
          obtain ⟨jn, v5, rfl, tc, jo⟩ := (f4.own (i := 0) rfl).shape
          unfold maxLen at jo
          refine dy ?_
          refine wlK b4 ?_
          rw [show ((a2.map Rc.ac) ++ [Ac.sync]) = ((a2 ++ [Rc.sync]).map Rc.ac) from (jQ a2 [Rc.sync])] at f4 ⊢
          refine aB ?_
          refine dx ?_
          refine cD (i + 1) ?_
          refine aC ?_
          refine aH ?_
          have f4 := St.drop f4 (.cons _ (.cons _ (.cons _ (.cons _ (List.Sublist.refl _)))))
          exact b3 _ _ _ (by omega) ⟨(i + 1), (a2 ++ [Rc.sync]), jn, v5, d5, _, rfl, rfl, rfl, f4, ((((((((a4.trans a9).trans a1).trans a5).trans a3).trans a6).trans a8).trans a7).trans g0), (by omega), (by omega), (hB4.sync.mono (by omega))⟩
         ·refine gL ?_
          refine dy ?_
          refine wlK k6 ?_
          refine aG ?_
          refine aI ?_
          refine b4 _ _ ?_
          refine aB ?_
          refine dx ?_
          refine cD (i + 1) ?_
          refine aC ?_
          refine aH ?_
          have h3 := St.drop h3 (.cons _ (.cons _ (.cons _ (.cons _ (List.Sublist.refl _)))))
          exact b3 _ _ _ (by omega) ⟨(i + 1), a2, r2, k2, d5, _, rfl, rfl, rfl, h3, ((((((((a4.trans a9).trans a1).trans a5).trans a3).trans a6).trans a8).trans a7).trans g0), (by omega), (by omega), (hB4.mono (by omega))⟩
      refine sk fun td k7 => ?_
      refine aC ?_
      refine dr bT (cB (m := rpa.code) (n := (0 : Int)) (b := true) rfl rfl (beq_iff_eq.2 (by rw [he1]; rfl))) ?_
      refine aC ?_
      refine dr bT (cB (m := rpb.code) (n := (0 : Int)) (b := true) rfl rfl (beq_iff_eq.2 (by rw [he2]; rfl))) ?_
      refine aC ?_
      refine dr (pP cj (ck + 0 * 1)) (bK (i := 0) (sz := 1) Tryz.underlying25 (aV _) rfl p5 rfl (by omega) rfl) ?_
      refine dr _ (aE rfl (aT (fG _) p6)) ?_
      simp only [pq]
      refine dr (nI x.toNat) (aX (v := (bv x)) rfl (gB x _)) ?_
      refine aC ?_
      by_cases lu : (aD g.value 9) ≤ x.toNat
      ·refine UD ?_
       refine aC ?_
       refine dr (pP cl (cm + 0 * 1)) (bK (i := 0) (sz := 1) Tryz.underlying25 (aV _) rfl p7 rfl (by omega) rfl) ?_
       simp only [pq]
       refine dr _ (aE rfl (aT (fG _) p8)) ?_
       refine dr (nI z.toNat) (aX (v := (bv z)) rfl (gB z _)) ?_
       refine aC ?_
       refine cD (z.toNat + (aD g.value 9)) ?_
       simp only [pq]
       by_cases lv : (z.toNat + (aD g.value 9)) < 256
       ·refine fA ?_
        refine dp ?_
        refine wn k7 ?_
        refine aK ?_
        refine aF fun te ct => ?_
        refine aQ d1 28 [(11, .made (fun F' u => Bs F' u [(x - bG (((aD g.value 9) : Nat) : Int))])), (12, .made (fun F' u => ReqR F' u ((4, (⟨([98] : By), ([bG ((((aD g.name 4) + 1) : Nat) : Int)] : By), [], [(x - bG (((aD g.value 9) : Nat) : Int))]⟩ : Rq)) : Nat × Rq))), (13, .made (fun F' u => AcV F' u (Ac.ask (aD g.session 8) (cH 4 (⟨([98] : By), ([bG ((((aD g.name 4) + 1) : Nat) : Int)] : By), [], [(x - bG (((aD g.value 9) : Nat) : Int))]⟩ : Rq))))), (24, .made (fun F' u => Bs F' u [(z + bG (((aD g.value 9) : Nat) : Int))])), (25, .made (fun F' u => ReqR F' u ((4, (⟨([98] : By), ([bG ((((aD g.key 4) + 1) : Nat) : Int)] : By), [], [(z + bG (((aD g.value 9) : Nat) : Int))]⟩ : Rq)) : Nat × Rq))), (26, .made (fun F' u => AcV F' u (Ac.ask (aD g.session 8) (cH 4 (⟨([98] : By), ([bG ((((aD g.key 4) + 1) : Nat) : Int)] : By), [], [(z + bG (((aD g.value 9) : Nat) : Int))]⟩ : Rq))))), (27, .made (fun F' u => Acs F' u ([(Ac.ask (aD g.session 8) (cH 4 (⟨([98] : By), ([bG ((((aD g.name 4) + 1) : Nat) : Int)] : By), [], [(x - bG (((aD g.value 9) : Nat) : Int))]⟩ : Rq))), (Ac.ask (aD g.session 8) (cH 4 (⟨([98] : By), ([bG ((((aD g.key 4) + 1) : Nat) : Int)] : By), [], [(z + bG (((aD g.value 9) : Nat) : Int))]⟩ : Rq)))] : List Ac)))] (by kernel_rfl) (by kernel_rfl) ?_
        simp only [cV]
        refine gm ?_
        simp only [pq]
        iterate 3 refine gm ?_
        simp only [pq]
        refine gf (GK _ _) ?_
        refine gl bD b5 1 ?_
        refine gv (pP cj (ck + 0 * 1)) (fun _ _ => bK (i := 0) (sz := 1) Tryz.underlying25 (aV _) rfl p5 rfl (by omega) rfl) ?_
        simp only [pq]
        refine gv _ (fun _ c5 => aE rfl (aT (fG _) (nH c5 p6))) ?_
        refine gm ?_
        refine gv (.int .u8 (((bG (((aD g.value 9) : Nat) : Int)).toNat : Nat) : Int)) (fun _ _ => aX (v := (nI (aD g.value 9))) rfl (xD (((aD g.value 9) : Nat) : Int) _)) ?_
        simp only [pq]
        refine gv (.int .u8 (((x - bG (((aD g.value 9) : Nat) : Int)).toNat : Nat) : Int)) (fun _ _ => Cb (a := x) (b := bG (((aD g.value 9) : Nat) : Int)) rfl rfl) ?_
        simp only [pq]
        refine dJ rfl rfl (fun h4 c5 _ => FK (b := (x - bG (((aD g.value 9) : Nat) : Int))) (Gr.of_below b5.sat c5) (bS (ps := #[(0, (.int .u8 (((x - bG (((aD g.value 9) : Nat) : Int)).toNat : Nat) : Int)))]) (cells := #[(.int .u8 (((x - bG (((aD g.value 9) : Nat) : Int)).toNat : Nat) : Int))]) (E := 5) (cG rfl) (fun w => by kernel_rfl))) (fun tf => ?_)
        simp only [pq]
        refine dJ rfl rfl (fun h4 c5 hF_ => ?_) (fun tg => ?_)
        ·obtain ⟨cu, v6, jp⟩ := hF_.get 11 (by kernel_rfl) rfl rfl
         have hR1 := ((h6.mono ((((((((((c6.trans d7).trans d2).trans a4).trans a9).trans a1).trans a5).trans a3).trans a6).trans a8).trans a7)).mono (v6.le b5.sat))
         have hR2 := ((s8.mono (((((a1.trans a5).trans a3).trans a6).trans a8).trans a7)).mono (v6.le b5.sat))
         have hR4 := jp
         obtain ⟨lw, lx, rfl, _⟩ := hR4.shape
         have hR3 := Bs.nil cu
         exact fY (aJ (mE rfl rfl rfl rfl) (by kernel_rfl)) ⟨cu, v6, ⟨_, _, _, _, _, _, _, _, rfl, hR1, hR2, hR3, hR4⟩⟩ (Below.refl _ _)
        simp only [pq]
        refine dJ rfl rfl (fun h4 c5 hF_ => ?_) (fun th => ?_)
        ·obtain ⟨ti, v7, jq⟩ := hF_.get 12 (by kernel_rfl) rfl rfl
         obtain ⟨cv, cw, cx, cy, cz, db, dc, dd, rfl, jr, js, jt, ju⟩ := jq
         exact bX (cP (vs := #[(.int .i64 (((aD g.session 8) : Nat) : Int)), (.agg #[(.int .i64 4), (.slice cv ([98] : By).length cw), (.slice cx ([bG ((((aD g.name 4) + 1) : Nat) : Int)] : By).length cy), (.slice cz [].length db), (.slice dc [(x - bG (((aD g.value 9) : Nat) : Int))].length dd)])]) (iX rfl rfl) rfl (pF _ _)) (BR v7 (fT _ _ _ (aD g.session 8) 4 (⟨([98] : By), ([bG ((((aD g.name 4) + 1) : Nat) : Int)] : By), [], [(x - bG (((aD g.value 9) : Nat) : Int))]⟩ : Rq) (v7).sat ((hT.1.below b5.gr.below).below v7.below) ⟨_, _, _, _, rfl, jr, js, jt, ju⟩ ⟨by decide, by kernel_rfl⟩))
        iterate 3 refine gm ?_
        simp only [pq]
        refine gf (GK _ _) ?_
        refine gl bD b5 0 ?_
        refine gv (pP cl (cm + 0 * 1)) (fun _ _ => bK (i := 0) (sz := 1) Tryz.underlying25 (aV _) rfl p7 rfl (by omega) rfl) ?_
        simp only [pq]
        refine gv _ (fun _ c5 => aE rfl (aT (fG _) (nH c5 p8))) ?_
        refine gm ?_
        refine gv (.int .u8 (((bG (((aD g.value 9) : Nat) : Int)).toNat : Nat) : Int)) (fun _ _ => aX (v := (nI (aD g.value 9))) rfl (xD (((aD g.value 9) : Nat) : Int) _)) ?_
        simp only [pq]
        refine gv (.int .u8 (((z + bG (((aD g.value 9) : Nat) : Int)).toNat : Nat) : Int)) (fun _ _ => Cc (a := z) (b := bG (((aD g.value 9) : Nat) : Int)) rfl rfl) ?_
        simp only [pq]
        refine dJ rfl rfl (fun h4 c5 _ => FK (b := (z + bG (((aD g.value 9) : Nat) : Int))) (Gr.of_below b5.sat c5) (bS (ps := #[(0, (.int .u8 (((z + bG (((aD g.value 9) : Nat) : Int)).toNat : Nat) : Int)))]) (cells := #[(.int .u8 (((z + bG (((aD g.value 9) : Nat) : Int)).toNat : Nat) : Int))]) (E := 5) (cG rfl) (fun w => by kernel_rfl))) (fun tj => ?_)
        simp only [pq]
        refine dJ rfl rfl (fun h4 c5 hF_ => ?_) (fun tk => ?_)
        ·obtain ⟨dg, v8, jv⟩ := hF_.get 24 (by kernel_rfl) rfl rfl
         have hR1 := ((h6.mono ((((((((((c6.trans d7).trans d2).trans a4).trans a9).trans a1).trans a5).trans a3).trans a6).trans a8).trans a7)).mono (v8.le b5.sat))
         have hR2 := ((s9.mono ((((a5.trans a3).trans a6).trans a8).trans a7)).mono (v8.le b5.sat))
         have hR4 := jv
         obtain ⟨ly, lz, rfl, _⟩ := hR4.shape
         have hR3 := Bs.nil dg
         exact fY (aJ (mE rfl rfl rfl rfl) (by kernel_rfl)) ⟨dg, v8, ⟨_, _, _, _, _, _, _, _, rfl, hR1, hR2, hR3, hR4⟩⟩ (Below.refl _ _)
        simp only [pq]
        refine dJ rfl rfl (fun h4 c5 hF_ => ?_) (fun tl => ?_)
        ·obtain ⟨tm, v9, jw⟩ := hF_.get 25 (by kernel_rfl) rfl rfl
         obtain ⟨dh, dj, dk, dm, dq, ds, du, dv, rfl, jx, jy, jz, ka⟩ := jw
         exact bX (cP (vs := #[(.int .i64 (((aD g.session 8) : Nat) : Int)), (.agg #[(.int .i64 4), (.slice dh ([98] : By).length dj), (.slice dk ([bG ((((aD g.key 4) + 1) : Nat) : Int)] : By).length dm), (.slice dq [].length ds), (.slice du [(z + bG (((aD g.value 9) : Nat) : Int))].length dv)])]) (iX rfl rfl) rfl (pF _ _)) (BR v9 (fT _ _ _ (aD g.session 8) 4 (⟨([98] : By), ([bG ((((aD g.key 4) + 1) : Nat) : Int)] : By), [], [(z + bG (((aD g.value 9) : Nat) : Int))]⟩ : Rq) (v9).sat ((hT.1.below b5.gr.below).below v9.below) ⟨_, _, _, _, rfl, jx, jy, jz, ka⟩ ⟨by decide, by kernel_rfl⟩))
        simp only [pq]
        refine dJ rfl rfl (fun h4 c5 hF_ => ?_) (fun tp => ?_)
        ·obtain ⟨kb, dw, kc⟩ := hF_.get 13 (by kernel_rfl) rfl rfl
         obtain ⟨kd, dz, ke⟩ := hF_.get 26 (by kernel_rfl) rfl rfl
         obtain ⟨q2, q3, rfl, kf⟩ := (kc.mono (kM kb kd))
         obtain ⟨q4, q5, rfl, kg⟩ := (ke.mono (lN dw.sat dz.sat))
         exact TH (k := 4) (R := AcC) AcC.mono (l := [(Ac.ask (aD g.session 8) (cH 4 (⟨([98] : By), ([bG ((((aD g.name 4) + 1) : Nat) : Int)] : By), [], [(x - bG (((aD g.value 9) : Nat) : Int))]⟩ : Rq))), (Ac.ask (aD g.session 8) (cH 4 (⟨([98] : By), ([bG ((((aD g.key 4) + 1) : Nat) : Int)] : By), [], [(z + bG (((aD g.value 9) : Nat) : Int))]⟩ : Rq)))]) (el := [[_, _, _, .slice q2 _ q3], [_, _, _, .slice q4 _ q5]]) (E := 33) (dw.both dz) ⟨⟨_, rfl, kf⟩, ⟨_, rfl, kg⟩, trivial⟩ (by simp) (by unfold maxLen; simp) (bS (E := 33) (cells := #[_, _, _, .slice q2 _ q3, _, _, _, .slice q4 _ q5]) (eZ rfl rfl) (fun w => by kernel_rfl))
        refine bN ?_
        intro tq ma q6
        obtain ⟨kh, ea, ki⟩ := q6.get 27 rfl rfl
        have w0 := St.gives b5 ea
        have q7 : Le _ _ := ea.le b5.sat
        have eb := ki
        generalize kh = kj at *
        obtain ⟨ec, ed, rfl, _⟩ := Sl.shape eb
        clear q6
        simp only [cW]
        refine eG (r := 0) (u := (.slice ec ([(Ac.ask (aD g.session 8) (cH 4 (⟨([98] : By), ([bG ((((aD g.name 4) + 1) : Nat) : Int)] : By), [], [(x - bG (((aD g.value 9) : Nat) : Int))]⟩ : Rq))), (Ac.ask (aD g.session 8) (cH 4 (⟨([98] : By), ([bG ((((aD g.key 4) + 1) : Nat) : Int)] : By), [], [(z + bG (((aD g.value 9) : Nat) : Int))]⟩ : Rq)))] : List Ac).length ed)) w0 rfl h5 (.agg #[(iI 0), (iI 0), (iI 0), Zn]) 48 Tryz.underlying23 c1 c2 c3 c4 rfl (by decide) rfl rfl rfl (Sl.toW eb (w0).sat) AcC.one (Nat.le_refl _) w0.gr.below.size (by unfold maxLen; (simp; have := hB2.scr.len; (try simp at this); omega)) (by (simp; have := hB2.scr.len; (try simp at this); omega)) ?_
        intro tr ts w1 mb
        simp only [pq]
        obtain ⟨kk, w2, rfl, tt, kl⟩ := (w1.own (i := 0) rfl).shape
        unfold maxLen at kl
        refine dy ?_
        refine wlK ct ?_
        refine aF fun tu q8 => ?_
        have hB3 := hput (x - bG (((aD g.value 9) : Nat) : Int)) (z + bG (((aD g.value 9) : Nat) : Int)) (Ca hp9 (by omega) (by omega))
        rw [show (((a ++ gN (aD g.session 8) (aD g.name 4 + 1) (aD g.key 4 + 1)).map Rc.ac) ++ ([(Ac.ask (aD g.session 8) (cH 4 (⟨([98] : By), ([bG ((((aD g.name 4) + 1) : Nat) : Int)] : By), [], [(x - bG (((aD g.value 9) : Nat) : Int))]⟩ : Rq))), (Ac.ask (aD g.session 8) (cH 4 (⟨([98] : By), ([bG ((((aD g.key 4) + 1) : Nat) : Int)] : By), [], [(z + bG (((aD g.value 9) : Nat) : Int))]⟩ : Rq)))] : List Ac)) = (((a ++ gN (aD g.session 8) (aD g.name 4 + 1) (aD g.key 4 + 1)) ++ (vF (aD g.session 8) (aD g.name 4 + 1) (aD g.key 4 + 1) (x - bG (((aD g.value 9) : Nat) : Int)) (z + bG (((aD g.value 9) : Nat) : Int)) ++ if false = true then [Rc.rq (aD g.session 8) 6 rq0] else [])).map Rc.ac) from (jQ (a ++ gN (aD g.session 8) (aD g.name 4 + 1) (aD g.key 4 + 1)) (vF (aD g.session 8) (aD g.name 4 + 1) (aD g.key 4 + 1) (x - bG (((aD g.value 9) : Nat) : Int)) (z + bG (((aD g.value 9) : Nat) : Int)) ++ if false = true then [Rc.rq (aD g.session 8) 6 rq0] else []))] at w1 ⊢
        have hp3 := gE g.kind (m := 3) (by decide)
        refine aB ?_
        refine aC ?_
        have mc := gE g.kind (m := 3) (by decide)
        refine aL (v := (nI (aD g.kind 3))) w1 rfl (fn2 (qW _ _)) (fR g.kind 3 _ (by omega) (by omega) (by decide) (by decide)) (fun tv o0 => ?_)
        simp only [pq]
        by_cases md : 0 < (aD g.kind 3)
        ·refine pR ?_
         refine wlK q8 ?_
         refine aK ?_
         refine aB ?_
         iterate 2 refine dx ?_
         refine dr (.agg #[(iI 6), Zn, Zn, Zn, Zn]) (aJ (cG rfl) (by kernel_rfl)) ?_
         simp only [pq]
         refine aY o0 rfl (fn2 (pF _ _)) (fT _ _ _ (aD g.session 8) 6 (⟨[], [], [], []⟩ : Rq) (o0).sat (hT.1.below o0.gr.below) ⟨_, _, _, _, rfl, (Bs.nil _), (Bs.nil _), (Bs.nil _), (Bs.nil _)⟩ ⟨by decide, by kernel_rfl⟩) ?_
         intro tw tx ee km eg kn
         obtain ⟨g1, g2, rfl, o1⟩ := kn
         have o1 : Bs _ (.slice g1 (cH 6 (⟨[], [], [], []⟩ : Rq)).length g2) (cH 6 (⟨[], [], [], []⟩ : Rq)) := o1
         refine aZ km (v := fun n => .slice (aA n 0) 1 1) rfl (bS (ps := #[(0, (.agg #[(iI 1), (nI (aD g.session 8)), (iI 0), (.slice g1 (cH 6 (⟨[], [], [], []⟩ : Rq)).length g2)]))]) (cells := #[(iI 1), (nI (aD g.session 8)), (iI 0), (.slice g1 (cH 6 (⟨[], [], [], []⟩ : Rq)).length g2)]) (E := 33) (cG rfl) (fun w => by kernel_rfl)) (fun ty tz eh => ?_)
         simp only [pq]
         refine eK (i := 0) (r := 0) (p := (Ac.ask (aD g.session 8) (cH 6 (⟨[], [], [], []⟩ : Rq)))) (cs := [(iI 1), (nI (aD g.session 8)), (iI 0), (.slice g1 (cH 6 (⟨[], [], [], []⟩ : Rq)).length g2)]) eh rfl h5 (.agg #[(iI 0), (iI 0), (iI 0), Zn]) 48 Tryz.underlying23 c1 c2 c3 c4 rfl (by decide) rfl rfl rfl rfl rfl (AcC.oneCell (F := ee) (p := (Ac.ask (aD g.session 8) (cH 6 (⟨[], [], [], []⟩ : Rq)))) ⟨_, rfl, o1⟩) (⟨_, rfl, o1⟩) (Nat.le_refl _) eh.gr.below.size (by unfold maxLen; (simp; have := (hB3 false).scr.len; (try simp at this); omega)) (by (simp; have := (hB3 false).scr.len; (try simp at this); omega)) ?_
         intro ua ub k9 me
         simp only [pq]
         have k9 := St.drop k9 (.cons _ (List.Sublist.refl _))
         obtain ⟨ko, w3, rfl, uc, kp⟩ := (k9.own (i := 0) rfl).shape
         unfold maxLen at kp
         refine dy ?_
         refine aH ?_
         rw [show ((((a ++ gN (aD g.session 8) (aD g.name 4 + 1) (aD g.key 4 + 1)) ++ (vF (aD g.session 8) (aD g.name 4 + 1) (aD g.key 4 + 1) (x - bG (((aD g.value 9) : Nat) : Int)) (z + bG (((aD g.value 9) : Nat) : Int)) ++ if false = true then [Rc.rq (aD g.session 8) 6 rq0] else [])).map Rc.ac) ++ [(Ac.ask (aD g.session 8) (cH 6 (⟨[], [], [], []⟩ : Rq)))]) = (((a ++ gN (aD g.session 8) (aD g.name 4 + 1) (aD g.key 4 + 1)) ++ (vF (aD g.session 8) (aD g.name 4 + 1) (aD g.key 4 + 1) (x - bG (((aD g.value 9) : Nat) : Int)) (z + bG (((aD g.value 9) : Nat) : Int)) ++ if true = true then [Rc.rq (aD g.session 8) 6 rq0] else [])).map Rc.ac) from (YI (a ++ gN (aD g.session 8) (aD g.name 4 + 1) (aD g.key 4 + 1)) (aD g.session 8) (aD g.name 4 + 1) (aD g.key 4 + 1) (x - bG (((aD g.value 9) : Nat) : Int)) (z + bG (((aD g.value 9) : Nat) : Int)))] at k9 ⊢
         exact f9 _ _ ⟨((a ++ gN (aD g.session 8) (aD g.name 4 + 1) (aD g.key 4 + 1)) ++ (vF (aD g.session 8) (aD g.name 4 + 1) (aD g.key 4 + 1) (x - bG (((aD g.value 9) : Nat) : Int)) (z + bG (((aD g.value 9) : Nat) : Int)) ++ if true = true then [Rc.rq (aD g.session 8) 6 rq0] else [])), ko, w3, ee, _, rfl, rfl, k9, (q7.trans eg), ((hB3 true).mono (by omega))⟩
        ·refine lF ?_
         refine wlK q8 ?_
         refine aG ?_
         refine aI ?_
         exact f9 _ _ ⟨((a ++ gN (aD g.session 8) (aD g.name 4 + 1) (aD g.key 4 + 1)) ++ (vF (aD g.session 8) (aD g.name 4 + 1) (aD g.key 4 + 1) (x - bG (((aD g.value 9) : Nat) : Int)) (z + bG (((aD g.value 9) : Nat) : Int)) ++ if false = true then [Rc.rq (aD g.session 8) 6 rq0] else [])), kk, w2, kj, _, rfl, rfl, o0, q7, ((hB3 false).mono (by omega))⟩
       ·refine eM ?_
        refine aC ?_
        refine wn k7 ?_
        refine aG ?_
        refine aI ?_
        exact f9 _ _ ⟨(a ++ gN (aD g.session 8) (aD g.name 4 + 1) (aD g.key 4 + 1)), g7, b6, d1, _, rfl, rfl, b5, Le.refl _, (hB2.mono (by omega))⟩
      ·refine UE ?_
       refine aC ?_
       refine wn k7 ?_
       refine aG ?_
       refine aI ?_
       exact f9 _ _ ⟨(a ++ gN (aD g.session 8) (aD g.name 4 + 1) (aD g.key 4 + 1)), g7, b6, d1, _, rfl, rfl, b5, Le.refl _, (hB2.mono (by omega))⟩
   ·refine eM ?_
    refine dp ?_
    refine wn i3 ?_
    refine aG ?_
    refine cS ?_
    exact o5 _ _ ⟨i, a, ra, rc, g4, _, rfl, rfl, m1, a4, him, hB⟩
  ·refine eM ?_
   refine aC ?_
   refine wn i3 ?_
   refine aG ?_
   refine cS ?_
   exact o5 _ _ ⟨i, a, ra, rc, g4, _, rfl, rfl, m1, a4, him, hB⟩
end Go.Proofs.YtilgpdpooildcaaGreatDoor
