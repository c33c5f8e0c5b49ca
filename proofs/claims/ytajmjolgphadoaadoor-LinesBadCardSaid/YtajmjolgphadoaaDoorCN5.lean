/- Rules, plain laws and walks: LN LS SP P38 SY LA LK -/
import Derived.Test.YtajmjolgphadoaaDoorCN4
import Derived.Test.YtajmjolgphadoaaDoorCN3
import Derived.Test.YtajmjolgphadoaaDoorCN2
import Derived.LoopN
import Derived.Lib.Strings
namespace Go.Proofs.YtajmjolgphadoaaDoor
open Go.RowKit
set_option maxRecDepth 100000
set_option linter.unusedVariables false
set_option linter.unusedSimpArgs false
theorem zero_69 (w : World) : (zeroValue 69).run Tryd.prog w = .ok (.agg #[.pointer none, .slice none 0 0]) w := by kernel_rfl
theorem ent_26 (vs : Array Value) (w : World) : (callFunc 26 vs).run Tryd.prog w = .ok (.enter 26 vs) w := by kernel_rfl
theorem ent_28 (vs : Array Value) (w : World) : (callFunc 28 vs).run Tryd.prog w = .ok (.enter 28 vs) w := by kernel_rfl
theorem ent_48 (vs : Array Value) (w : World) : (callFunc 48 vs).run Tryd.prog w = .ok (.enter 48 vs) w := by kernel_rfl
theorem nagg_9 (w : World) : (isAgg 9).run Tryd.prog w = .ok false w := by kernel_rfl
theorem sizeof_9 (w : World) : (sizeOf 9).run Tryd.prog w = .ok 1 w := by kernel_rfl
theorem ex_bound {P : Program} {ρ : Operand → Value} {w : World} {d : Option Tmp} {t : TypeId} {pos : String} {after : Array Edge} {guard : Option (Nat × Bool)} {k : FuncId} {x : Operand} {v : Value} (hx : ρ x = v) : (execOp ρ ⟨d, .makeFunc (.func k) #[x] #[], t, pos, after, guard⟩).run P w = .ok (.value (.func (.func k) #[v] #[])) w := by
  subst hx
  simp [execOp, Instr.makeFunc]
theorem ex_atW {P : Program} {ρ : Operand → Value} {w : World} {d : Option Tmp} {t X E : TypeId} {n : Nat} {pos : String} {after : Array Edge} {guard : Option (Nat × Bool)} {x y : Operand} {b i : Nat} (hX : P.underlying X = some (.array n E)) (hs : (sizeOf E).run P w = .ok 1 w) (hx : ρ x = .pointer (some ⟨b, 0, none⟩)) (hy : ρ y = .int .i64 (i : Nat)) (hi : i < n) :
    (execOp ρ ⟨d, .indexAddr X x y, t, pos, after, guard⟩).run P w = .ok (.value (.pointer (some ⟨b, i, none⟩))) w := by
  have hadd : (⟨b, 0, none⟩ : Addr).add (i * 1) = ⟨b, i, none⟩ := by rw [Addr.add_mid]; simp
  have hlt : (0 : Int) ≤ (i : Int) ∧ (i : Int) < (n : Int) := by omega
  have hlt' : ¬ ((i : Int) < 0 ∨ (n : Int) ≤ (i : Int)) := by omega
  simp only [Nat.mul_one] at hadd
  simp [execOp, hx, hy, Instr.indexAt, Instr.sureAddr, asIntOf, Sem.run_bind, Sem.run_pure, Result.andThen_ok, run_underlying hX w, hs, hadd, hlt, hi]
/-- The words, as they are laid. -/
def WordsL (W : World) : Prop := ∀ i, i < 5 → W.cell? ⟨0, i, none⟩ = some (strV (wordL (i : Int)))
theorem dig_fin : ∀ i : Fin 16, (digs.drop i.val).take (i.val + 1 - i.val) = [(digs[i.val]?).getD 0] := by decide +kernel
theorem shr_lt (b : UInt8) : (b >>> 4).toNat < 16 := by
  have := UInt8.toNat_lt b
  rw [UInt8.toNat_shiftRight]
  simp [Nat.shiftRight_eq_div_pow]
  omega
theorem and_fin : ∀ i : Fin 256, ((UInt8.ofNat i.val) &&& 15).toNat < 16 := by decide +kernel
theorem and_lt (b : UInt8) : (b &&& 15).toNat < 16 := by
  have := and_fin ⟨b.toNat, UInt8.toNat_lt b⟩
  simpa using this
theorem hex_snoc {l : By} {j : Nat} {c : UInt8} (h : l[j]? = some c) (x : By) : ((x ++ (l.take j).flatMap hexB) ++ [(digs[(c >>> 4).toNat]?).getD 0]) ++ [(digs[(c &&& 15).toNat]?).getD 0] = x ++ (l.take (j + 1)).flatMap hexB := by
  rw [List.take_add_one, h]
  simp [hexB]
theorem bs_at {F : Fz} {a : Option Addr} {n c : Nat} {l : By} (h : Bs F (.slice a n c) l) {i : Nat} {b : UInt8} (hp : l[i]? = some b) : ∃ g o, a = some ⟨g, o, none⟩ ∧ cellF F g (o + i * 1) = some (bv b) := by
  obtain ⟨hi, rfl⟩ := List.getElem?_eq_some_iff.1 hp
  have hn := Sl.len h.sl
  obtain ⟨g, o, e, hc⟩ := h.addr (by omega)
  exact ⟨g, o, e, by rw [Nat.mul_one]; exact hc i hi⟩
theorem dig_cut {i : Nat} (h : i < 16) {P : Program} {r : Sem Next} (w : World) (q : r.run P w = .ok (.value (strV ((digs.drop i).take (i + 1 - i)))) w) : r.run P w = .ok (.value (strV [(digs[i]?).getD 0])) w := by
  rw [dig_fin ⟨i, h⟩] at q
  exact q
theorem hex_len {dt : By} (hd : dt.length ≤ 4000) (j : Nat) : ((dt.take j).flatMap hexB).length ≤ 8000 := by
  have key : ∀ l : By, (l.flatMap hexB).length = 2 * l.length := by
    intro l
    induction l with
    | nil => rfl
    | cons b l ih => rw [List.flatMap_cons, List.length_append, ih, List.length_cons]; simp [hexB]; omega
  rw [key, List.length_take]; omega
theorem dec_len : ∀ (m u : Nat), u < 10 ^ (m + 1) → (Lib.decDigits u).length ≤ m + 1 := by
  intro m
  induction m with
  | zero => intro u h; rw [Lib.decDigits, dif_pos (by omega)]; simp
  | succ m ih =>
    intro u h
    rw [Lib.decDigits]
    split
    · simp
    · rw [List.length_append, List.length_singleton]
      have := ih (u / 10) (by rw [Nat.pow_succ] at h; omega)
      omega
theorem itoa_len (u : Nat) (h : u ≤ 200000) : (Lib.itoa (u : Int)).length ≤ 6 := by
  have e : Lib.itoa (u : Int) = Lib.decDigits u := by unfold Lib.itoa; rw [if_neg (by omega)]; rfl
  rw [e]
  exact dec_len 5 u (by omega)
theorem word_len (k : Nat) (h : k < 5) : (wordL (k : Int)).length ≤ 5 := by
  match k, h with
  | 0, _ => decide
  | 1, _ => decide
  | 2, _ => decide
  | 3, _ => decide
  | 4, _ => decide
set_option maxHeartbeats 8000000 in
theorem line_spec (W : World) (hT : Laid W) (hW : WordsL W) (F : Fz) (hF : Le (whole W) F) (w : World) (v : Value) (k u n : Nat) (dt : By) (hs : Sat w F) (hv : AtV F v ⟨k, u, n, dt⟩) (hk : 1 ≤ k ∧ k ≤ 4) (hu : u ≤ 200000) (hn : n ≤ 200000) (hd : dt.length ≤ 4000) :
    Calls Tryd.prog 27 #[v] w (Tells w (strV (lineL ⟨k, u, n, dt⟩))) := by
 obtain ⟨x, y, rfl, hv⟩ := hv
 have hul := itoa_len u hu
 have hnl := itoa_len n hn
 have hwl := word_len k (by omega)
 have htl : ∀ j, ((dt.take j).flatMap hexB).length ≤ 8000 := hex_len hd
 have S := St.start hs
 go_enter Tryd.func27, Tryd.ntmps27
 refine wp_seq_k (fun K1 hK1 => region_wl ?_)
 refine stNew S (v := fun n => .pointer (some ⟨n, 0, none⟩)) rfl (ex_box (v := (.agg #[(.int .i64 ((k : Nat) : Int)), (.int .i64 ((u : Nat) : Int)), (.int .i64 ((n : Nat) : Int)), (.slice x dt.length y)])) rfl) (fun n2 w3 S4 => ?_)
 simp only [pS, pN, pA, pC, pZ]
 have S4 : St w F w3 F [⟨n2, [(.int .i64 ((k : Nat) : Int)), (.int .i64 ((u : Nat) : Int)), (.int .i64 ((n : Nat) : Int)), (.slice x dt.length y)], 50⟩] [] := S4
 refine do_ rfl (.string ⟨([] : By).toArray⟩) (ex_assign _) ?_
 simp only [pS, pN, pA, pC, pZ]
 refine wl_nil (hK1 _ _ ?_)
 refine wp_seq_k (fun K5 hK5 => region_wl ?_)
 refine stNew S4 (v := fun n => .pointer (some ⟨n, 0, none⟩)) rfl (ex_alloc (zero_69 _)) (fun n6 w7 S8 => ?_)
 simp only [pS, pN, pA, pC, pZ]
 have S8 : St w F w7 F [⟨n6, [(.pointer none), (.slice none 0 0)], 69⟩, ⟨n2, [(.int .i64 ((k : Nat) : Int)), (.int .i64 ((u : Nat) : Int)), (.int .i64 ((n : Nat) : Int)), (.slice x dt.length y)], 50⟩] [] := S8
 refine wl_nil (hK5 _ _ ?_)
 refine wp_seq_k (fun K9 hK9 => ?_)
 have S10 := St.addNil S8 1 ByC ByC.mono 5 w.heap.size
 refine region_wl ?_
 refine do_ rfl (.func (.func 26) #[(.pointer (some ⟨n6, 0, none⟩))] #[]) (ex_bound rfl) ?_
 simp only [pS, pN, pA, pC, pZ]
 refine do_ rfl (.func (.func 26) #[(.pointer (some ⟨n6, 0, none⟩))] #[]) (ex_assign _) ?_
 simp only [pS, pN, pA, pC, pZ]
 refine wl_nil (hK9 _ _ ?_)
 refine wp_seq_k (fun K11 hK11 => ?_)
 have hwd : w7.cell? ⟨0, k, none⟩ = some (strV (wordL (k : Int))) := cell_keep hF (S10).sat (hW k (by omega))
 refine region_wl ?_
 refine do_ rfl (.func (.func 26) #[(.pointer (some ⟨n6, 0, none⟩))] #[]) (ex_move _) ?_
 simp only [pS, pN, pA, pC, pZ]
 refine do_ rfl (.pointer (some ⟨n2, 0, none⟩)) (ex_field (q := ⟨n2, 0, none⟩) rfl (fa_50_0 _ _)) ?_
 simp only [pS, pN, pA, pC, pZ]
 refine do_ rfl (.int .i64 ((k : Nat) : Int)) (ex_load rfl (load1 (nagg_3 _) (St.cell S10 (i := 1) rfl rfl))) ?_
 simp only [pS, pN, pA, pC, pZ]
 refine do_ rfl (.pointer (some ⟨0, k, none⟩)) (ex_atW (i := k) Tryd.underlying105 (sizeof_9 _) rfl rfl (by omega)) ?_
 simp only [pS, pN, pA, pC, pZ]
 refine do_ rfl (.string ⟨(wordL (k : Int)).toArray⟩) (ex_load rfl (load1 (nagg_9 _) hwd)) ?_
 simp only [pS, pN, pA, pC, pZ]
 refine doC rfl (ex_fv (fs := #[(.pointer (some ⟨n6, 0, none⟩))]) (cs := #[]) (vs := #[(.pointer (some ⟨n6, 0, none⟩)), (.string ⟨(wordL (k : Int)).toArray⟩)]) rfl (vmap (fs := #[(.pointer (some ⟨n6, 0, none⟩))]) (cs := #[]) (xs := #[(.string ⟨(wordL (k : Int)).toArray⟩)]) (map1 rfl) (by simp)) (ent_26 _ _)) (write_own (l := []) (s := (wordL (k : Int))) S10 (.inl rfl) (by first | (simp only [List.length_append, List.length_cons, List.length_nil]; omega) | (have := htl j; simp only [List.length_append, List.length_cons, List.length_nil]; omega))) (fun e_ w12 hh_ => ?_)
 obtain ⟨v14, rfl, S13⟩ := hh_
 refine ⟨_, rfl, ?_⟩
 simp only [pS, pN, pA, pC, pZ]
 have S13 : St w F w12 F [⟨n6, [(.pointer (some ⟨n6, 0, none⟩)), v14], 69⟩, ⟨n2, [(.int .i64 ((k : Nat) : Int)), (.int .i64 ((u : Nat) : Int)), (.int .i64 ((n : Nat) : Int)), (.slice x dt.length y)], 50⟩] [ownP 1 ByC ByC.mono 5 w.heap.size v14 ([] ++ (wordL (k : Int)))] := S13
 refine wl_nil (hK11 _ _ ?_)
 refine wp_seq_k (fun K15 hK15 => ?_)
 refine wp_seq_k (fun K16 hK16 => region_wl ?_)
 refine do_ rfl (.pointer (some ⟨n2, 0, none⟩)) (ex_field (q := ⟨n2, 0, none⟩) rfl (fa_50_0 _ _)) ?_
 simp only [pS, pN, pA, pC, pZ]
 refine do_ rfl (.int .i64 ((k : Nat) : Int)) (ex_load rfl (load1 (nagg_3 _) (St.cell S13 (i := 1) rfl rfl))) ?_
 simp only [pS, pN, pA, pC, pZ]
 refine wl_nil (hK16 _ _ ?_)
 refine wp_block ?_
 refine wp_seq_k (fun K17 hK17 => region_wl ?_)
 by_cases hc17 : k = 1
 ·refine do_ rfl (.bool true) (ex_eql (m := ((k : Nat) : Int)) (n := (1 : Int)) (b := true) rfl rfl (beq_iff_eq.2 (by omega))) ?_
  simp only [pS, pN, pA, pC, pZ]
  refine do_ rfl (.bool true) (ex_assign _) ?_
  simp only [pS, pN, pA, pC, pZ]
  refine wl_nil (hK17 _ _ ?_)
  refine wp_cond_true rfl ?_
  refine wp_seq_k (fun K18 hK18 => region_wl ?_)
  refine do_ rfl (.func (.func 26) #[(.pointer (some ⟨n6, 0, none⟩))] #[]) (ex_move _) ?_
  simp only [pS, pN, pA, pC, pZ]
  refine do_ rfl (.pointer (some ⟨n2, 1, none⟩)) (ex_field (q := ⟨n2, 1, none⟩) rfl (fa_50_1 _ _)) ?_
  simp only [pS, pN, pA, pC, pZ]
  refine do_ rfl (.int .i64 ((u : Nat) : Int)) (ex_load rfl (load1 (nagg_3 _) (St.cell S13 (i := 1) rfl rfl))) ?_
  simp only [pS, pN, pA, pC, pZ]
  refine stTells (v := (.string ⟨(Lib.itoa ((u : Nat) : Int)).toArray⟩)) S13 rfl (ex_fn (vs := #[(.int .i64 ((u : Nat) : Int))]) (map1 rfl) rfl (ent_48 _ _)) (itoa_spec _ (hT.keep hF (S13).sat) ((u : Nat) : Int) (by omega) (by omega)) (fun w19 S20 => ?_)
  simp only [pS, pN, pA, pC, pZ]
  refine do_ rfl (.string ⟨(([32] : By) ++ (Lib.itoa ((u : Nat) : Int))).toArray⟩) (ex_addS (l := ([32] : By)) (m := (Lib.itoa ((u : Nat) : Int))) rfl rfl (by simp only [List.length_append, List.length_cons, List.length_nil]; omega)) ?_
  simp only [pS, pN, pA, pC, pZ]
  refine do_ rfl (.string ⟨((([32] : By) ++ (Lib.itoa ((u : Nat) : Int))) ++ ([32] : By)).toArray⟩) (ex_addS (l := (([32] : By) ++ (Lib.itoa ((u : Nat) : Int)))) (m := ([32] : By)) rfl rfl (by simp only [List.length_append, List.length_cons, List.length_nil]; omega)) ?_
  simp only [pS, pN, pA, pC, pZ]
  refine doC rfl (ex_fv (fs := #[(.pointer (some ⟨n6, 0, none⟩))]) (cs := #[]) (vs := #[(.pointer (some ⟨n6, 0, none⟩)), (.string ⟨((([32] : By) ++ (Lib.itoa ((u : Nat) : Int))) ++ ([32] : By)).toArray⟩)]) rfl (vmap (fs := #[(.pointer (some ⟨n6, 0, none⟩))]) (cs := #[]) (xs := #[(.string ⟨((([32] : By) ++ (Lib.itoa ((u : Nat) : Int))) ++ ([32] : By)).toArray⟩)]) (map1 rfl) (by simp)) (ent_26 _ _)) (write_own (l := ([] ++ (wordL (k : Int)))) (s := ((([32] : By) ++ (Lib.itoa ((u : Nat) : Int))) ++ ([32] : By))) S20 (.inr rfl) (by first | (simp only [List.length_append, List.length_cons, List.length_nil]; omega) | (have := htl j; simp only [List.length_append, List.length_cons, List.length_nil]; omega))) (fun e_ w21 hh_ => ?_)
  obtain ⟨v23, rfl, S22⟩ := hh_
  refine ⟨_, rfl, ?_⟩
  simp only [pS, pN, pA, pC, pZ]
  have S22 : St w F w21 F [⟨n6, [(.pointer (some ⟨n6, 0, none⟩)), v23], 69⟩, ⟨n2, [(.int .i64 ((k : Nat) : Int)), (.int .i64 ((u : Nat) : Int)), (.int .i64 ((n : Nat) : Int)), (.slice x dt.length y)], 50⟩] [ownP 1 ByC ByC.mono 5 w.heap.size v23 (([] ++ (wordL (k : Int))) ++ ((([32] : By) ++ (Lib.itoa ((u : Nat) : Int))) ++ ([32] : By)))] := S22
  refine wl_nil (hK18 _ _ ?_)
  refine wp_seq_k (fun K24 hK24 => region_wl ?_)
  refine do_ rfl (.pointer (some ⟨n2, 3, none⟩)) (ex_field (q := ⟨n2, 3, none⟩) rfl (fa_50_3 _ _)) ?_
  simp only [pS, pN, pA, pC, pZ]
  refine do_ rfl (.slice x dt.length y) (ex_load rfl (load1 (nagg_27 _) (St.cell S22 (i := 1) rfl rfl))) ?_
  simp only [pS, pN, pA, pC, pZ]
  refine do_ rfl (.int .i64 ((dt.length : Nat) : Int)) (ex_len Tryd.underlying27 rfl) ?_
  simp only [pS, pN, pA, pC, pZ]
  refine do_ rfl (.int .i64 0) (ex_move _) ?_
  simp only [pS, pN, pA, pC, pZ]
  refine wl_nil (hK24 _ _ ?_)
  refine wp_block ?_
  have he : (([] ++ (wordL (k : Int))) ++ ((([32] : By) ++ (Lib.itoa ((u : Nat) : Int))) ++ ([32] : By))) = (([] ++ (wordL (k : Int))) ++ ((([32] : By) ++ (Lib.itoa ((u : Nat) : Int))) ++ ([32] : By))) ++ (dt.take 0).flatMap hexB := by simp
  rw [he] at S22
  refine wp_loop_g (fun mm aa w26 => ∃ (j : Nat) (v : Value) (u25 : Nat → Value), mm = dt.length - j ∧ u25 = slots aa ∧ aa = ⟨#[(.agg #[(.int .i64 ((k : Nat) : Int)), (.int .i64 ((u : Nat) : Int)), (.int .i64 ((n : Nat) : Int)), (.slice x dt.length y)]), (.pointer (some ⟨n2, 0, none⟩)), (.string ⟨([] : By).toArray⟩), (.pointer (some ⟨n6, 0, none⟩)), (.func (.func 26) #[(.pointer (some ⟨n6, 0, none⟩))] #[]), undef, (u25 6), (.func (.func 26) #[(.pointer (some ⟨n6, 0, none⟩))] #[]), (.func (.func 26) #[(.pointer (some ⟨n6, 0, none⟩))] #[]), (.pointer (some ⟨n2, 0, none⟩)), (.int .i64 ((k : Nat) : Int)), (.pointer (some ⟨0, k, none⟩)), (.string ⟨(wordL (k : Int)).toArray⟩), (.tuple #[.int .i64 (((wordL (k : Int)).length : Nat) : Int), .nilIface]), (.pointer (some ⟨n2, 0, none⟩)), (.int .i64 ((k : Nat) : Int)), (.bool true), (.bool true), (.func (.func 26) #[(.pointer (some ⟨n6, 0, none⟩))] #[]), (.pointer (some ⟨n2, 1, none⟩)), (.int .i64 ((u : Nat) : Int)), (.string ⟨(Lib.itoa ((u : Nat) : Int)).toArray⟩), (.string ⟨(([32] : By) ++ (Lib.itoa ((u : Nat) : Int))).toArray⟩), (.string ⟨((([32] : By) ++ (Lib.itoa ((u : Nat) : Int))) ++ ([32] : By)).toArray⟩), (.tuple #[.int .i64 ((((([32] : By) ++ (Lib.itoa ((u : Nat) : Int))) ++ ([32] : By)).length : Nat) : Int), .nilIface]), (.pointer (some ⟨n2, 3, none⟩)), (.slice x dt.length y), (.int .i64 ((dt.length : Nat) : Int)), (.int .i64 ((j : Nat) : Int)), (u25 29), (u25 30), (u25 31), (u25 32), (u25 33), (u25 34), (u25 35), (u25 36), (u25 37), (u25 38), (u25 39), (u25 40), (u25 41), (u25 42), (u25 43), (u25 44), (u25 45), (u25 46), (u25 47), (u25 48), undef, undef, undef, undef, undef, undef, undef, undef, undef, undef, undef], []⟩ ∧ St w F w26 F [⟨n6, [(.pointer (some ⟨n6, 0, none⟩)), v], 69⟩, ⟨n2, [(.int .i64 ((k : Nat) : Int)), (.int .i64 ((u : Nat) : Int)), (.int .i64 ((n : Nat) : Int)), (.slice x dt.length y)], 50⟩] [ownP 1 ByC ByC.mono 5 w.heap.size v ((([] ++ (wordL (k : Int))) ++ ((([32] : By) ++ (Lib.itoa ((u : Nat) : Int))) ++ ([32] : By))) ++ (dt.take j).flatMap hexB)] ∧ (j ≤ dt.length)) _ ⟨0, v23, _, rfl, rfl, rfl, S22, (by omega)⟩ ?_
  rintro m27 a28 w29 ⟨j, v, u25, rfl, -, rfl, S30, hj⟩ K32 hK32
  refine wp_seq_k (fun K33 hK33 => region_wl ?_)
  by_cases hc29 : j < dt.length
  ·refine do_ rfl (.bool true) (ex_lss (m := ((j : Nat) : Int)) (n := ((dt.length : Nat) : Int)) (b := true) rfl rfl (decide_eq_true (by omega))) ?_
   simp only [pS, pN, pA, pC, pZ]
   refine wl_nil (hK33 _ _ ?_)
   refine wp_seq_k (fun K34 hK34 => ?_)
   refine wp_cond_true rfl ?_
   refine wp_skip ?_
   refine hK34 _ _ ?_
   refine wp_seq_k (fun K35 hK35 => ?_)
   refine wp_block ?_
   refine wp_seq_k (fun K36 hK36 => ?_)
   obtain ⟨c, hc⟩ : ∃ c, dt[j]? = some c := ⟨dt[j], List.getElem?_eq_getElem (by omega)⟩
   have hs4 := shr_lt c
   have ha4 := and_lt c
   obtain ⟨b37, o38, ha39, cc40⟩ := bs_at hv hc
   refine region_wl ?_
   refine do_ rfl (.pointer (some ⟨b37, o38 + j * 1, none⟩)) (ex_at (i := j) (sz := 1) Tryd.underlying27 (sizeof_5 _) rfl ha39 rfl (by omega) rfl) ?_
   simp only [pS, pN, pA, pC, pZ]
   refine do_ rfl (bv c) (ex_load rfl (load1 (nagg_5 _) (St.fz S30 cc40))) ?_
   simp only [pS, pN, pA, pC, pZ]
   refine do_ rfl (bv c) (ex_assign _) ?_
   simp only [pS, pN, pA, pC, pZ]
   refine wl_nil (hK36 _ _ ?_)
   refine wp_seq_k (fun K41 hK41 => region_wl ?_)
   refine do_ rfl (.func (.func 26) #[(.pointer (some ⟨n6, 0, none⟩))] #[]) (ex_move _) ?_
   simp only [pS, pN, pA, pC, pZ]
   refine do_ rfl (bv c) (ex_move _) ?_
   simp only [pS, pN, pA, pC, pZ]
   refine do_ rfl (bv (c >>> 4)) (ex_shr4 (b := c) rfl rfl) ?_
   simp only [pS, pN, pA, pC, pZ]
   refine do_ rfl (bv c) (ex_move _) ?_
   simp only [pS, pN, pA, pC, pZ]
   refine do_ rfl (bv (c >>> 4)) (ex_shr4 (b := c) rfl rfl) ?_
   simp only [pS, pN, pA, pC, pZ]
   refine do_ rfl (.int .u8 (((c >>> 4).toNat + 1 : Nat) : Int)) (ex_inc (b := (c >>> 4)) rfl rfl (by omega)) ?_
   simp only [pS, pN, pA, pC, pZ]
   refine do_ rfl (.string ⟨[(digs[(c >>> 4).toNat]?).getD 0].toArray⟩) ((dig_cut (by omega) _ (ex_cutS (s := digs) (l := (c >>> 4).toNat) (h := (c >>> 4).toNat + 1) Tryd.underlying9 rfl (.inr ⟨_, rfl, rfl⟩) (.inr ⟨_, rfl, rfl⟩) (by omega) (by show _ ≤ 16; omega)))) ?_
   simp only [pS, pN, pA, pC, pZ]
   refine doC rfl (ex_fv (fs := #[(.pointer (some ⟨n6, 0, none⟩))]) (cs := #[]) (vs := #[(.pointer (some ⟨n6, 0, none⟩)), (.string ⟨[(digs[(c >>> 4).toNat]?).getD 0].toArray⟩)]) rfl (vmap (fs := #[(.pointer (some ⟨n6, 0, none⟩))]) (cs := #[]) (xs := #[(.string ⟨[(digs[(c >>> 4).toNat]?).getD 0].toArray⟩)]) (map1 rfl) (by simp)) (ent_26 _ _)) (write_own (l := ((([] ++ (wordL (k : Int))) ++ ((([32] : By) ++ (Lib.itoa ((u : Nat) : Int))) ++ ([32] : By))) ++ (dt.take j).flatMap hexB)) (s := [(digs[(c >>> 4).toNat]?).getD 0]) S30 (.inr rfl) (by first | (simp only [List.length_append, List.length_cons, List.length_nil]; omega) | (have := htl j; simp only [List.length_append, List.length_cons, List.length_nil]; omega))) (fun e_ w42 hh_ => ?_)
   obtain ⟨v44, rfl, S43⟩ := hh_
   refine ⟨_, rfl, ?_⟩
   simp only [pS, pN, pA, pC, pZ]
   have S43 : St w F w42 F [⟨n6, [(.pointer (some ⟨n6, 0, none⟩)), v44], 69⟩, ⟨n2, [(.int .i64 ((k : Nat) : Int)), (.int .i64 ((u : Nat) : Int)), (.int .i64 ((n : Nat) : Int)), (.slice x dt.length y)], 50⟩] [ownP 1 ByC ByC.mono 5 w.heap.size v44 (((([] ++ (wordL (k : Int))) ++ ((([32] : By) ++ (Lib.itoa ((u : Nat) : Int))) ++ ([32] : By))) ++ (dt.take j).flatMap hexB) ++ [(digs[(c >>> 4).toNat]?).getD 0])] := S43
   refine wl_nil (hK41 _ _ ?_)
   refine region_wl ?_
   refine do_ rfl (.func (.func 26) #[(.pointer (some ⟨n6, 0, none⟩))] #[]) (ex_move _) ?_
   simp only [pS, pN, pA, pC, pZ]
   refine do_ rfl (bv c) (ex_move _) ?_
   simp only [pS, pN, pA, pC, pZ]
   refine do_ rfl (bv (c &&& 15)) (ex_and15 (b := c) rfl rfl) ?_
   simp only [pS, pN, pA, pC, pZ]
   refine do_ rfl (bv c) (ex_move _) ?_
   simp only [pS, pN, pA, pC, pZ]
   refine do_ rfl (bv (c &&& 15)) (ex_and15 (b := c) rfl rfl) ?_
   simp only [pS, pN, pA, pC, pZ]
   refine do_ rfl (.int .u8 (((c &&& 15).toNat + 1 : Nat) : Int)) (ex_inc (b := (c &&& 15)) rfl rfl (by omega)) ?_
   simp only [pS, pN, pA, pC, pZ]
   refine do_ rfl (.string ⟨[(digs[(c &&& 15).toNat]?).getD 0].toArray⟩) ((dig_cut (by omega) _ (ex_cutS (s := digs) (l := (c &&& 15).toNat) (h := (c &&& 15).toNat + 1) Tryd.underlying9 rfl (.inr ⟨_, rfl, rfl⟩) (.inr ⟨_, rfl, rfl⟩) (by omega) (by show _ ≤ 16; omega)))) ?_
   simp only [pS, pN, pA, pC, pZ]
   refine doC rfl (ex_fv (fs := #[(.pointer (some ⟨n6, 0, none⟩))]) (cs := #[]) (vs := #[(.pointer (some ⟨n6, 0, none⟩)), (.string ⟨[(digs[(c &&& 15).toNat]?).getD 0].toArray⟩)]) rfl (vmap (fs := #[(.pointer (some ⟨n6, 0, none⟩))]) (cs := #[]) (xs := #[(.string ⟨[(digs[(c &&& 15).toNat]?).getD 0].toArray⟩)]) (map1 rfl) (by simp)) (ent_26 _ _)) (write_own (l := (((([] ++ (wordL (k : Int))) ++ ((([32] : By) ++ (Lib.itoa ((u : Nat) : Int))) ++ ([32] : By))) ++ (dt.take j).flatMap hexB) ++ [(digs[(c >>> 4).toNat]?).getD 0])) (s := [(digs[(c &&& 15).toNat]?).getD 0]) S43 (.inr rfl) (by first | (simp only [List.length_append, List.length_cons, List.length_nil]; omega) | (have := htl j; simp only [List.length_append, List.length_cons, List.length_nil]; omega))) (fun e_ w45 hh_ => ?_)
   obtain ⟨v47, rfl, S46⟩ := hh_
   refine ⟨_, rfl, ?_⟩
   simp only [pS, pN, pA, pC, pZ]
   have S46 : St w F w45 F [⟨n6, [(.pointer (some ⟨n6, 0, none⟩)), v47], 69⟩, ⟨n2, [(.int .i64 ((k : Nat) : Int)), (.int .i64 ((u : Nat) : Int)), (.int .i64 ((n : Nat) : Int)), (.slice x dt.length y)], 50⟩] [ownP 1 ByC ByC.mono 5 w.heap.size v47 ((((([] ++ (wordL (k : Int))) ++ ((([32] : By) ++ (Lib.itoa ((u : Nat) : Int))) ++ ([32] : By))) ++ (dt.take j).flatMap hexB) ++ [(digs[(c >>> 4).toNat]?).getD 0]) ++ [(digs[(c &&& 15).toNat]?).getD 0])] := S46
   refine wl_nil (hK35 _ _ ?_)
   refine region_wl ?_
   refine do_ rfl (.int .i64 (((j + 1) : Nat) : Int)) (ex_add (m := ((j : Nat) : Int)) (n := (1 : Int)) (r := (((j + 1) : Nat) : Int)) rfl rfl (by omega) (by omega) (by omega)) ?_
   simp only [pS, pN, pA, pC, pZ]
   refine do_ rfl (.int .i64 (((j + 1) : Nat) : Int)) (ex_move _) ?_
   simp only [pS, pN, pA, pC, pZ]
   refine wl_nil ?_
   rw [hex_snoc hc] at S46
   exact hK32 _ _ _ (by omega) ⟨(j + 1), v47, _, rfl, rfl, rfl, S46, (by omega)⟩
  ·refine do_ rfl (.bool false) (ex_lss (m := ((j : Nat) : Int)) (n := ((dt.length : Nat) : Int)) (b := false) rfl rfl (decide_eq_false (by omega))) ?_
   simp only [pS, pN, pA, pC, pZ]
   refine wl_nil (hK33 _ _ ?_)
   refine wp_seq_k (fun K48 hK48 => ?_)
   refine wp_cond_false rfl ?_
   refine wp_exit ?_
   refine hK15 _ _ ?_
   refine wp_seq_k (fun K49 hK49 => region_wl ?_)
   refine do_ rfl (.func (.func 26) #[(.pointer (some ⟨n6, 0, none⟩))] #[]) (ex_move _) ?_
   simp only [pS, pN, pA, pC, pZ]
   refine doC rfl (ex_fv (fs := #[(.pointer (some ⟨n6, 0, none⟩))]) (cs := #[]) (vs := #[(.pointer (some ⟨n6, 0, none⟩)), (.string ⟨([10] : By).toArray⟩)]) rfl (vmap (fs := #[(.pointer (some ⟨n6, 0, none⟩))]) (cs := #[]) (xs := #[(.string ⟨([10] : By).toArray⟩)]) (map1 rfl) (by simp)) (ent_26 _ _)) (write_own (l := ((([] ++ (wordL (k : Int))) ++ ((([32] : By) ++ (Lib.itoa ((u : Nat) : Int))) ++ ([32] : By))) ++ (dt.take j).flatMap hexB)) (s := ([10] : By)) S30 (.inr rfl) (by first | (simp only [List.length_append, List.length_cons, List.length_nil]; omega) | (have := htl j; simp only [List.length_append, List.length_cons, List.length_nil]; omega))) (fun e_ w50 hh_ => ?_)
   obtain ⟨v52, rfl, S51⟩ := hh_
   refine ⟨_, rfl, ?_⟩
   simp only [pS, pN, pA, pC, pZ]
   have S51 : St w F w50 F [⟨n6, [(.pointer (some ⟨n6, 0, none⟩)), v52], 69⟩, ⟨n2, [(.int .i64 ((k : Nat) : Int)), (.int .i64 ((u : Nat) : Int)), (.int .i64 ((n : Nat) : Int)), (.slice x dt.length y)], 50⟩] [ownP 1 ByC ByC.mono 5 w.heap.size v52 (((([] ++ (wordL (k : Int))) ++ ((([32] : By) ++ (Lib.itoa ((u : Nat) : Int))) ++ ([32] : By))) ++ (dt.take j).flatMap hexB) ++ ([10] : By))] := S51
   refine wl_nil (hK49 _ _ ?_)
   refine wp_seq_k (fun K53 hK53 => region_wl ?_)
   have hne : (((([] ++ (wordL (k : Int))) ++ ((([32] : By) ++ (Lib.itoa ((u : Nat) : Int))) ++ ([32] : By))) ++ (dt.take j).flatMap hexB) ++ ([10] : By)) ≠ [] := by simp
   refine doC rfl (ex_fn (vs := #[(.pointer (some ⟨n6, 0, none⟩))]) (map1 rfl) rfl (ent_28 _ _)) (string_own S51 hne) (fun e_ w54 hh_ => ?_)
   obtain ⟨rfl, S55⟩ := hh_
   refine ⟨_, rfl, ?_⟩
   simp only [pS, pN, pA, pC, pZ]
   have S55 : St w F w54 F [⟨n6, [(.pointer (some ⟨n6, 0, none⟩)), v52], 69⟩, ⟨n2, [(.int .i64 ((k : Nat) : Int)), (.int .i64 ((u : Nat) : Int)), (.int .i64 ((n : Nat) : Int)), (.slice x dt.length y)], 50⟩] [] := S55
   refine do_ rfl (.string ⟨(((([] ++ (wordL (k : Int))) ++ ((([32] : By) ++ (Lib.itoa ((u : Nat) : Int))) ++ ([32] : By))) ++ (dt.take j).flatMap hexB) ++ ([10] : By)).toArray⟩) (ex_assign _) ?_
   simp only [pS, pN, pA, pC, pZ]
   refine wl_nil (hK53 _ _ ?_)
   refine wp_ret ?_
   (try simp only [Exit.then, Exit.inBlock, ↓reduceIte, Nat.reduceEqDiff])
   refine bodyPost_ret (v := (.string ⟨(((([] ++ (wordL (k : Int))) ++ ((([32] : By) ++ (Lib.itoa ((u : Nat) : Int))) ++ ([32] : By))) ++ (dt.take j).flatMap hexB) ++ ([10] : By)).toArray⟩)) ?_ rfl ?_
   ·exact res_t rfl rfl
   ·refine ⟨?_, S55.gr.below⟩
    refine congrArg Ending.returned (congrArg (fun z : By => strV z) ?_)
    unfold lineL
    simp only
    first
    | (rw [if_pos (by omega), List.take_of_length_le (by omega)]; simp)
    | (rw [if_neg (by omega), if_pos (by omega)]; simp)
    | (rw [if_neg (by omega), if_neg (by omega)]; simp)
 ·refine do_ rfl (.bool false) (ex_eql (m := ((k : Nat) : Int)) (n := (1 : Int)) (b := false) rfl rfl (beq_eq_false_iff_ne.2 (by omega))) ?_
  simp only [pS, pN, pA, pC, pZ]
  refine do_ rfl (.bool false) (ex_assign _) ?_
  simp only [pS, pN, pA, pC, pZ]
  refine wl_nil (hK17 _ _ ?_)
  refine wp_cond_false rfl ?_
  refine wp_seq_k (fun K56 hK56 => region_wl ?_)
  by_cases hc50 : k = 3
  ·refine do_ rfl (.bool true) (ex_eql (m := ((k : Nat) : Int)) (n := (3 : Int)) (b := true) rfl rfl (beq_iff_eq.2 (by omega))) ?_
   simp only [pS, pN, pA, pC, pZ]
   refine do_ rfl (.bool true) (ex_assign _) ?_
   simp only [pS, pN, pA, pC, pZ]
   refine wl_nil (hK56 _ _ ?_)
   refine wp_cond_true rfl ?_
   refine region_wl ?_
   refine do_ rfl (.func (.func 26) #[(.pointer (some ⟨n6, 0, none⟩))] #[]) (ex_move _) ?_
   simp only [pS, pN, pA, pC, pZ]
   refine do_ rfl (.pointer (some ⟨n2, 2, none⟩)) (ex_field (q := ⟨n2, 2, none⟩) rfl (fa_50_2 _ _)) ?_
   simp only [pS, pN, pA, pC, pZ]
   refine do_ rfl (.int .i64 ((n : Nat) : Int)) (ex_load rfl (load1 (nagg_3 _) (St.cell S13 (i := 1) rfl rfl))) ?_
   simp only [pS, pN, pA, pC, pZ]
   refine stTells (v := (.string ⟨(Lib.itoa ((n : Nat) : Int)).toArray⟩)) S13 rfl (ex_fn (vs := #[(.int .i64 ((n : Nat) : Int))]) (map1 rfl) rfl (ent_48 _ _)) (itoa_spec _ (hT.keep hF (S13).sat) ((n : Nat) : Int) (by omega) (by omega)) (fun w57 S58 => ?_)
   simp only [pS, pN, pA, pC, pZ]
   refine do_ rfl (.string ⟨(([32] : By) ++ (Lib.itoa ((n : Nat) : Int))).toArray⟩) (ex_addS (l := ([32] : By)) (m := (Lib.itoa ((n : Nat) : Int))) rfl rfl (by simp only [List.length_append, List.length_cons, List.length_nil]; omega)) ?_
   simp only [pS, pN, pA, pC, pZ]
   refine doC rfl (ex_fv (fs := #[(.pointer (some ⟨n6, 0, none⟩))]) (cs := #[]) (vs := #[(.pointer (some ⟨n6, 0, none⟩)), (.string ⟨(([32] : By) ++ (Lib.itoa ((n : Nat) : Int))).toArray⟩)]) rfl (vmap (fs := #[(.pointer (some ⟨n6, 0, none⟩))]) (cs := #[]) (xs := #[(.string ⟨(([32] : By) ++ (Lib.itoa ((n : Nat) : Int))).toArray⟩)]) (map1 rfl) (by simp)) (ent_26 _ _)) (write_own (l := ([] ++ (wordL (k : Int)))) (s := (([32] : By) ++ (Lib.itoa ((n : Nat) : Int)))) S58 (.inr rfl) (by first | (simp only [List.length_append, List.length_cons, List.length_nil]; omega) | (have := htl j; simp only [List.length_append, List.length_cons, List.length_nil]; omega))) (fun e_ w59 hh_ => ?_)
   obtain ⟨v61, rfl, S60⟩ := hh_
   refine ⟨_, rfl, ?_⟩
   simp only [pS, pN, pA, pC, pZ]
   have S60 : St w F w59 F [⟨n6, [(.pointer (some ⟨n6, 0, none⟩)), v61], 69⟩, ⟨n2, [(.int .i64 ((k : Nat) : Int)), (.int .i64 ((u : Nat) : Int)), (.int .i64 ((n : Nat) : Int)), (.slice x dt.length y)], 50⟩] [ownP 1 ByC ByC.mono 5 w.heap.size v61 (([] ++ (wordL (k : Int))) ++ (([32] : By) ++ (Lib.itoa ((n : Nat) : Int))))] := S60
   refine wl_nil (hK15 _ _ ?_)
   refine wp_seq_k (fun K62 hK62 => region_wl ?_)
   refine do_ rfl (.func (.func 26) #[(.pointer (some ⟨n6, 0, none⟩))] #[]) (ex_move _) ?_
   simp only [pS, pN, pA, pC, pZ]
   refine doC rfl (ex_fv (fs := #[(.pointer (some ⟨n6, 0, none⟩))]) (cs := #[]) (vs := #[(.pointer (some ⟨n6, 0, none⟩)), (.string ⟨([10] : By).toArray⟩)]) rfl (vmap (fs := #[(.pointer (some ⟨n6, 0, none⟩))]) (cs := #[]) (xs := #[(.string ⟨([10] : By).toArray⟩)]) (map1 rfl) (by simp)) (ent_26 _ _)) (write_own (l := (([] ++ (wordL (k : Int))) ++ (([32] : By) ++ (Lib.itoa ((n : Nat) : Int))))) (s := ([10] : By)) S60 (.inr rfl) (by first | (simp only [List.length_append, List.length_cons, List.length_nil]; omega) | (have := htl j; simp only [List.length_append, List.length_cons, List.length_nil]; omega))) (fun e_ w63 hh_ => ?_)
   obtain ⟨v65, rfl, S64⟩ := hh_
   refine ⟨_, rfl, ?_⟩
   simp only [pS, pN, pA, pC, pZ]
   have S64 : St w F w63 F [⟨n6, [(.pointer (some ⟨n6, 0, none⟩)), v65], 69⟩, ⟨n2, [(.int .i64 ((k : Nat) : Int)), (.int .i64 ((u : Nat) : Int)), (.int .i64 ((n : Nat) : Int)), (.slice x dt.length y)], 50⟩] [ownP 1 ByC ByC.mono 5 w.heap.size v65 ((([] ++ (wordL (k : Int))) ++ (([32] : By) ++ (Lib.itoa ((n : Nat) : Int)))) ++ ([10] : By))] := S64
   refine wl_nil (hK62 _ _ ?_)
   refine wp_seq_k (fun K66 hK66 => region_wl ?_)
   have hne : ((([] ++ (wordL (k : Int))) ++ (([32] : By) ++ (Lib.itoa ((n : Nat) : Int)))) ++ ([10] : By)) ≠ [] := by simp
   refine doC rfl (ex_fn (vs := #[(.pointer (some ⟨n6, 0, none⟩))]) (map1 rfl) rfl (ent_28 _ _)) (string_own S64 hne) (fun e_ w67 hh_ => ?_)
   obtain ⟨rfl, S68⟩ := hh_
   refine ⟨_, rfl, ?_⟩
   simp only [pS, pN, pA, pC, pZ]
   have S68 : St w F w67 F [⟨n6, [(.pointer (some ⟨n6, 0, none⟩)), v65], 69⟩, ⟨n2, [(.int .i64 ((k : Nat) : Int)), (.int .i64 ((u : Nat) : Int)), (.int .i64 ((n : Nat) : Int)), (.slice x dt.length y)], 50⟩] [] := S68
   refine do_ rfl (.string ⟨((([] ++ (wordL (k : Int))) ++ (([32] : By) ++ (Lib.itoa ((n : Nat) : Int)))) ++ ([10] : By)).toArray⟩) (ex_assign _) ?_
   simp only [pS, pN, pA, pC, pZ]
   refine wl_nil (hK66 _ _ ?_)
   refine wp_ret ?_
   (try simp only [Exit.then, Exit.inBlock, ↓reduceIte, Nat.reduceEqDiff])
   refine bodyPost_ret (v := (.string ⟨((([] ++ (wordL (k : Int))) ++ (([32] : By) ++ (Lib.itoa ((n : Nat) : Int)))) ++ ([10] : By)).toArray⟩)) ?_ rfl ?_
   ·exact res_t rfl rfl
   ·refine ⟨?_, S68.gr.below⟩
    refine congrArg Ending.returned (congrArg (fun z : By => strV z) ?_)
    unfold lineL
    simp only
    first
    | (rw [if_pos (by omega), List.take_of_length_le (by omega)]; simp)
    | (rw [if_neg (by omega), if_pos (by omega)]; simp)
    | (rw [if_neg (by omega), if_neg (by omega)]; simp)
  ·refine do_ rfl (.bool false) (ex_eql (m := ((k : Nat) : Int)) (n := (3 : Int)) (b := false) rfl rfl (beq_eq_false_iff_ne.2 (by omega))) ?_
   simp only [pS, pN, pA, pC, pZ]
   refine do_ rfl (.bool false) (ex_assign _) ?_
   simp only [pS, pN, pA, pC, pZ]
   refine wl_nil (hK56 _ _ ?_)
   refine wp_cond_false rfl ?_
   refine wp_skip ?_
   refine hK15 _ _ ?_
   refine wp_seq_k (fun K69 hK69 => region_wl ?_)
   refine do_ rfl (.func (.func 26) #[(.pointer (some ⟨n6, 0, none⟩))] #[]) (ex_move _) ?_
   simp only [pS, pN, pA, pC, pZ]
   refine doC rfl (ex_fv (fs := #[(.pointer (some ⟨n6, 0, none⟩))]) (cs := #[]) (vs := #[(.pointer (some ⟨n6, 0, none⟩)), (.string ⟨([10] : By).toArray⟩)]) rfl (vmap (fs := #[(.pointer (some ⟨n6, 0, none⟩))]) (cs := #[]) (xs := #[(.string ⟨([10] : By).toArray⟩)]) (map1 rfl) (by simp)) (ent_26 _ _)) (write_own (l := ([] ++ (wordL (k : Int)))) (s := ([10] : By)) S13 (.inr rfl) (by first | (simp only [List.length_append, List.length_cons, List.length_nil]; omega) | (have := htl j; simp only [List.length_append, List.length_cons, List.length_nil]; omega))) (fun e_ w70 hh_ => ?_)
   obtain ⟨v72, rfl, S71⟩ := hh_
   refine ⟨_, rfl, ?_⟩
   simp only [pS, pN, pA, pC, pZ]
   have S71 : St w F w70 F [⟨n6, [(.pointer (some ⟨n6, 0, none⟩)), v72], 69⟩, ⟨n2, [(.int .i64 ((k : Nat) : Int)), (.int .i64 ((u : Nat) : Int)), (.int .i64 ((n : Nat) : Int)), (.slice x dt.length y)], 50⟩] [ownP 1 ByC ByC.mono 5 w.heap.size v72 (([] ++ (wordL (k : Int))) ++ ([10] : By))] := S71
   refine wl_nil (hK69 _ _ ?_)
   refine wp_seq_k (fun K73 hK73 => region_wl ?_)
   have hne : (([] ++ (wordL (k : Int))) ++ ([10] : By)) ≠ [] := by simp
   refine doC rfl (ex_fn (vs := #[(.pointer (some ⟨n6, 0, none⟩))]) (map1 rfl) rfl (ent_28 _ _)) (string_own S71 hne) (fun e_ w74 hh_ => ?_)
   obtain ⟨rfl, S75⟩ := hh_
   refine ⟨_, rfl, ?_⟩
   simp only [pS, pN, pA, pC, pZ]
   have S75 : St w F w74 F [⟨n6, [(.pointer (some ⟨n6, 0, none⟩)), v72], 69⟩, ⟨n2, [(.int .i64 ((k : Nat) : Int)), (.int .i64 ((u : Nat) : Int)), (.int .i64 ((n : Nat) : Int)), (.slice x dt.length y)], 50⟩] [] := S75
   refine do_ rfl (.string ⟨(([] ++ (wordL (k : Int))) ++ ([10] : By)).toArray⟩) (ex_assign _) ?_
   simp only [pS, pN, pA, pC, pZ]
   refine wl_nil (hK73 _ _ ?_)
   refine wp_ret ?_
   (try simp only [Exit.then, Exit.inBlock, ↓reduceIte, Nat.reduceEqDiff])
   refine bodyPost_ret (v := (.string ⟨(([] ++ (wordL (k : Int))) ++ ([10] : By)).toArray⟩)) ?_ rfl ?_
   ·exact res_t rfl rfl
   ·refine ⟨?_, S75.gr.below⟩
    refine congrArg Ending.returned (congrArg (fun z : By => strV z) ?_)
    unfold lineL
    simp only
    first
    | (rw [if_pos (by omega), List.take_of_length_le (by omega)]; simp)
    | (rw [if_neg (by omega), if_pos (by omega)]; simp)
    | (rw [if_neg (by omega), if_neg (by omega)]; simp)
end Go.Proofs.YtajmjolgphadoaaDoor
namespace Go.Proofs.YtajmjolgphadoaaDoor
open Go.RowKit
set_option maxRecDepth 100000
set_option linter.unusedVariables false
set_option linter.unusedSimpArgs false
def AtC (F : Fz) (cs : List Value) (a : At) : Prop := ∃ x y, cs = [.int .i64 a.kind, .int .i64 a.sess, .int .i64 a.n, .slice x a.data.length y] ∧ Bs F (.slice x a.data.length y) a.data
theorem AtC.mono (F F' : Fz) (x : List Value) (p : At) (hl : Le F F') (h : AtC F x p) : AtC F' x p := by
  obtain ⟨a, b, e, h⟩ := h
  exact ⟨a, b, e, h.mono hl⟩
theorem AtC.one (F : Fz) (cs : List Value) (p : At) (h : AtC F cs p) : ∀ u ∈ cs, u.oneCell' = true := by
  obtain ⟨a, b, rfl, _⟩ := h
  intro u hu
  simp only [List.mem_cons, List.not_mem_nil, or_false] at hu
  rcases hu with rfl | rfl | rfl | rfl <;> rfl
abbrev Ats (F : Fz) (v : Value) (l : List At) : Prop := Sl 4 AtC F v l
theorem Ats.mono {F F' : Fz} {v : Value} {l : List At} (h : Ats F v l) (hl : Le F F') : Ats F' v l := Sl.mono AtC.mono h hl
theorem Ats.get {F : Fz} {a : Option Addr} {n c : Nat} {l : List At} (h : Ats F (.slice a n c) l) {i : Nat} {p : At} (hp : l[i]? = some p) :
    ∃ b o, a = some ⟨b, o, none⟩ ∧ ∃ xa xc, cellF F b (o + i * 4) = some (.int .i64 p.kind) ∧ cellF F b (o + i * 4 + 1) = some (.int .i64 p.sess) ∧ cellF F b (o + i * 4 + 2) = some (.int .i64 p.n) ∧ cellF F b (o + i * 4 + 3) = some (.slice xa p.data.length xc) ∧ Bs F (.slice xa p.data.length xc) p.data := by
  obtain ⟨hi, rfl⟩ := List.getElem?_eq_some_iff.1 hp
  have hn := Sl.len h
  obtain ⟨b, o, e, h1⟩ := Sl.at h (by omega) (by omega)
  obtain ⟨cs, q1, ⟨x, y, rfl, h0⟩, q3⟩ := h1 i hi
  exact ⟨b, o, e, x, y, by simpa using q3 0 (by simp), by simpa [Nat.add_assoc] using q3 1 (by simp), by simpa [Nat.add_assoc] using q3 2 (by simp), by simpa [Nat.add_assoc] using q3 3 (by simp), h0⟩
theorem at_nat {a : At} (h : checkA a = 0) : ∃ k u n : Nat, a = ⟨k, u, n, a.data⟩ ∧ (1 ≤ k ∧ k ≤ 4) ∧ u ≤ 200000 ∧ n ≤ 200000 ∧ a.data.length ≤ 4000 := by
  obtain ⟨k, s, n, d⟩ := a
  unfold checkA at h
  simp only at h
  split at h
  · cases h
  split at h
  · cases h
  split at h
  · cases h
  split at h
  · cases h
  refine ⟨k.toNat, s.toNat, n.toNat, ?_, ⟨by omega, by omega⟩, by omega, by omega, by simp only; omega⟩
  simp only [At.mk.injEq, and_true]
  omega
theorem lineA_spec (W : World) (hT : Laid W) (hW : WordsL W) (F : Fz) (hF : Le (whole W) F) (w : World) (v : Value) (a : At) (hs : Sat w F) (hv : AtV F v a) (hc : checkA a = 0) :
    Calls Tryd.prog 27 #[v] w (Tells w (strV (lineL a))) := by
  obtain ⟨k, u, n, e, h1, h2, h3, h4⟩ := at_nat hc
  rw [e] at hv ⊢
  exact line_spec W hT hW F hF w v k u n a.data hs hv h1 h2 h3 h4
theorem flat_take {l : List At} {i : Nat} {a : At} (h : l[i]? = some a) : flatA (l.take i) ++ lineL a = flatA (l.take (i + 1)) := by
  rw [List.take_add_one, h]
  simp [flatA]
theorem flat_le (l : List At) (i : Nat) : (flatA (l.take i)).length ≤ (flatA l).length := by
  conv => rhs; rw [← List.take_append_drop i l]
  unfold flatA
  rw [List.flatMap_append, List.length_append]; omega
theorem flat_ne {l : List At} (h : l ≠ []) : flatA l ≠ [] := by
  cases l with
  | nil => exact absurd rfl h
  | cons a l => unfold flatA lineL; simp
set_option maxHeartbeats 8000000 in
theorem showSome_spec (W : World) (hT : Laid W) (hW : WordsL W) (F : Fz) (hF : Le (whole W) F) (w : World) (v : Value) (zs : List At) (hs : Sat w F) (hv : Ats F v zs) (hok : ∀ a ∈ zs, checkA a = 0) (hl : zs.length ≤ 100000) (hlen : (flatA zs).length ≤ 100000000) (hz : zs ≠ []) :
    Calls Tryd.prog 14 #[v] w (Tells w (.tuple #[strV (flatA zs), .int .i64 0, .int .i64 0])) := by
 obtain ⟨a0, c0, rfl, hc1, hc2⟩ := Sl.shape hv
 unfold maxLen at hc2
 have S := St.start hs
 go_enter Tryd.func14, Tryd.ntmps14
 refine wp_seq_k (fun K1 hK1 => region_wl ?_)
 refine do_ rfl (.string ⟨([] : By).toArray⟩) (ex_assign _) ?_
 simp only [pS, pN, pA, pC, pZ]
 refine do_ rfl (.int .i64 0) (ex_assign _) ?_
 simp only [pS, pN, pA, pC, pZ]
 refine do_ rfl (.int .i64 0) (ex_assign _) ?_
 simp only [pS, pN, pA, pC, pZ]
 refine wl_nil (hK1 _ _ ?_)
 refine wp_seq_k (fun K2 hK2 => ?_)
 refine wp_seq_k (fun K3 hK3 => region_wl ?_)
 refine do_ rfl (.slice a0 zs.length c0) (ex_move _) ?_
 simp only [pS, pN, pA, pC, pZ]
 refine do_ rfl (.int .i64 ((zs.length : Nat) : Int)) (ex_len Tryd.underlying43 rfl) ?_
 simp only [pS, pN, pA, pC, pZ]
 refine do_ rfl (.bool false) (ex_gtr (m := ((zs.length : Nat) : Int)) (n := (100000 : Int)) (b := false) rfl rfl (decide_eq_false (by omega))) ?_
 simp only [pS, pN, pA, pC, pZ]
 refine wl_nil (hK3 _ _ ?_)
 refine wp_cond_false rfl ?_
 refine wp_skip ?_
 refine hK2 _ _ ?_
 refine wp_seq_k (fun K4 hK4 => region_wl ?_)
 refine stNew S (v := fun n => .pointer (some ⟨n, 0, none⟩)) rfl (ex_alloc (zero_69 _)) (fun n5 w6 S7 => ?_)
 simp only [pS, pN, pA, pC, pZ]
 have S7 : St w F w6 F [⟨n5, [(.pointer none), (.slice none 0 0)], 69⟩] [] := S7
 refine wl_nil (hK4 _ _ ?_)
 refine wp_seq_k (fun K8 hK8 => ?_)
 refine wp_seq_k (fun K9 hK9 => region_wl ?_)
 refine do_ rfl (.slice a0 zs.length c0) (ex_move _) ?_
 simp only [pS, pN, pA, pC, pZ]
 refine do_ rfl (.int .i64 ((zs.length : Nat) : Int)) (ex_len Tryd.underlying43 rfl) ?_
 simp only [pS, pN, pA, pC, pZ]
 refine do_ rfl (.int .i64 0) (ex_move _) ?_
 simp only [pS, pN, pA, pC, pZ]
 refine wl_nil (hK9 _ _ ?_)
 refine wp_block ?_
 have S10 := St.addNil S7 1 ByC ByC.mono 5 w.heap.size
 have S10 : St w F w6 F [⟨n5, [(.pointer none), (.slice none 0 0)], 69⟩] [ownP 1 ByC ByC.mono 5 w.heap.size (.slice none 0 0) (flatA (zs.take 0))] := S10
 refine wp_loop_g (fun mm aa w12 => ∃ (i : Nat) (p : Value) (v : Value) (u11 : Nat → Value), mm = zs.length - i ∧ u11 = slots aa ∧ aa = ⟨#[(.slice a0 zs.length c0), undef, (u11 2), (u11 3), (u11 4), (.pointer (some ⟨n5, 0, none⟩)), (u11 6), (u11 7), (u11 8), (.slice a0 zs.length c0), (.int .i64 ((zs.length : Nat) : Int)), (.bool false), (.slice a0 zs.length c0), (.int .i64 ((zs.length : Nat) : Int)), (.int .i64 ((i : Nat) : Int)), (u11 15), (u11 16), (u11 17), (u11 18), (u11 19), (u11 20), (u11 21), (u11 22), (u11 23), (u11 24), (u11 25), (u11 26), (u11 27), (u11 28), undef], []⟩ ∧ St w F w12 F [⟨n5, [p, v], 69⟩] [ownP 1 ByC ByC.mono 5 w.heap.size v (flatA (zs.take i))] ∧ (i ≤ zs.length) ∧ (p = .pointer none ∨ p = .pointer (some ⟨n5, 0, none⟩))) _ ⟨0, (.pointer none), (.slice none 0 0), _, rfl, rfl, rfl, S10, (by omega), (.inl rfl)⟩ ?_
 rintro m13 a14 w15 ⟨i, p, v, u11, rfl, -, rfl, S16, hi, hpp⟩ K18 hK18
 refine wp_seq_k (fun K19 hK19 => region_wl ?_)
 by_cases hc15 : i < zs.length
 ·refine do_ rfl (.bool true) (ex_lss (m := ((i : Nat) : Int)) (n := ((zs.length : Nat) : Int)) (b := true) rfl rfl (decide_eq_true (by omega))) ?_
  simp only [pS, pN, pA, pC, pZ]
  refine wl_nil (hK19 _ _ ?_)
  refine wp_seq_k (fun K20 hK20 => ?_)
  refine wp_cond_true rfl ?_
  refine wp_skip ?_
  refine hK20 _ _ ?_
  refine wp_seq_k (fun K21 hK21 => ?_)
  refine wp_block ?_
  refine wp_seq_k (fun K22 hK22 => ?_)
  obtain ⟨a, hp⟩ : ∃ a, zs[i]? = some a := ⟨zs[i], List.getElem?_eq_getElem hc15⟩
  have ha0 := hok a (List.mem_of_getElem? hp)
  obtain ⟨b23, o24, ha25, xa30, xc31, c26, c27, c28, c29, r32⟩ := Ats.get hv hp
  refine region_wl ?_
  refine do_ rfl (.int .i64 ((i : Nat) : Int)) (ex_move _) ?_
  simp only [pS, pN, pA, pC, pZ]
  refine do_ rfl (.pointer (some ⟨b23, o24 + i * 4, none⟩)) (ex_at (i := i) (sz := 4) Tryd.underlying43 (sizeof_50 _) rfl ha25 rfl (by omega) rfl) ?_
  simp only [pS, pN, pA, pC, pZ]
  refine do_ rfl (.agg #[(.int .i64 a.kind), (.int .i64 a.sess), (.int .i64 a.n), (.slice xa30 a.data.length xc31)]) (ex_load rfl (loadN (cs := [(.int .i64 a.kind), (.int .i64 a.sess), (.int .i64 a.n), (.slice xa30 a.data.length xc31)]) Tryd.underlying50 rfl (size_50) (range4 (St.fz S16 c26) (St.fz S16 c27) (St.fz S16 c28) (St.fz S16 c29)))) ?_
  simp only [pS, pN, pA, pC, pZ]
  refine stNew S16 (v := fun n => .pointer (some ⟨n, 0, none⟩)) rfl (ex_alloc (zero_50 _)) (fun n33 w34 S35 => ?_)
  simp only [pS, pN, pA, pC, pZ]
  have S35 : St w F w34 F [⟨n33, [(.int .i64 0), (.int .i64 0), (.int .i64 0), (.slice none 0 0)], 50⟩, ⟨n5, [p, v], 69⟩] [ownP 1 ByC ByC.mono 5 w.heap.size v (flatA (zs.take i))] := S35
  refine do_ rfl (.int .i64 ((i : Nat) : Int)) (ex_assign _) ?_
  simp only [pS, pN, pA, pC, pZ]
  refine stStore (i := 0) (v := (.agg #[(.int .i64 a.kind), (.int .i64 a.sess), (.int .i64 a.n), (.slice xa30 a.data.length xc31)])) S35 rfl rfl rfl rfl (size_50) (allc4 rfl rfl rfl rfl) (Nat.le_of_ble_eq_true rfl) (fun w36 S37 => ?_)
  simp only [pS, pN, pA, pC, pZ]
  have S37 : St w F w36 F [⟨n33, [(.int .i64 a.kind), (.int .i64 a.sess), (.int .i64 a.n), (.slice xa30 a.data.length xc31)], 50⟩, ⟨n5, [p, v], 69⟩] [ownP 1 ByC ByC.mono 5 w.heap.size v (flatA (zs.take i))] := S37
  refine wl_nil (hK22 _ _ ?_)
  refine wp_seq_k (fun K38 hK38 => ?_)
  refine wp_seq_k (fun K39 hK39 => region_wl ?_)
  refine do_ rfl (.agg #[(.int .i64 a.kind), (.int .i64 a.sess), (.int .i64 a.n), (.slice xa30 a.data.length xc31)]) (ex_load rfl (loadN (cs := [(.int .i64 a.kind), (.int .i64 a.sess), (.int .i64 a.n), (.slice xa30 a.data.length xc31)]) Tryd.underlying50 rfl (size_50) (St.range S37 (i := 0) rfl 0 [(.int .i64 a.kind), (.int .i64 a.sess), (.int .i64 a.n), (.slice xa30 a.data.length xc31)] (sub_range 0 rfl)))) ?_
  simp only [pS, pN, pA, pC, pZ]
  refine stTells (v := (.int .i64 0)) S37 rfl (ex_fn (vs := #[(.agg #[(.int .i64 a.kind), (.int .i64 a.sess), (.int .i64 a.n), (.slice xa30 a.data.length xc31)])]) (map1 rfl) rfl (ent_25 _ _)) (ha0 ▸ checkA_spec _ _ _ a (S37).sat ⟨_, _, rfl, r32⟩) (fun w40 S41 => ?_)
  simp only [pS, pN, pA, pC, pZ]
  refine do_ rfl (.int .i64 0) (ex_assign _) ?_
  simp only [pS, pN, pA, pC, pZ]
  refine wl_nil (hK39 _ _ ?_)
  refine wp_seq_k (fun K42 hK42 => region_wl ?_)
  refine do_ rfl (.int .i64 0) (ex_move _) ?_
  simp only [pS, pN, pA, pC, pZ]
  refine do_ rfl (.bool false) (ex_neq (b := false) rfl rfl (by decide)) ?_
  simp only [pS, pN, pA, pC, pZ]
  refine wl_nil (hK42 _ _ ?_)
  refine wp_cond_false rfl ?_
  refine wp_skip ?_
  refine hK38 _ _ ?_
  refine region_wl ?_
  refine do_ rfl (.agg #[(.int .i64 a.kind), (.int .i64 a.sess), (.int .i64 a.n), (.slice xa30 a.data.length xc31)]) (ex_load rfl (loadN (cs := [(.int .i64 a.kind), (.int .i64 a.sess), (.int .i64 a.n), (.slice xa30 a.data.length xc31)]) Tryd.underlying50 rfl (size_50) (St.range S41 (i := 0) rfl 0 [(.int .i64 a.kind), (.int .i64 a.sess), (.int .i64 a.n), (.slice xa30 a.data.length xc31)] (sub_range 0 rfl)))) ?_
  simp only [pS, pN, pA, pC, pZ]
  refine stTells (v := (.string ⟨(lineL a).toArray⟩)) S41 rfl (ex_fn (vs := #[(.agg #[(.int .i64 a.kind), (.int .i64 a.sess), (.int .i64 a.n), (.slice xa30 a.data.length xc31)])]) (map1 rfl) rfl (ent_27 _ _)) (lineA_spec W hT hW _ hF _ _ a (S41).sat ⟨_, _, rfl, r32⟩ ha0) (fun w43 S44 => ?_)
  simp only [pS, pN, pA, pC, pZ]
  have S45 := St.drop S44 (L' := [⟨n5, [p, v], 69⟩]) (.cons _ (List.Sublist.refl _))
  have S45 : St w F w43 F [⟨n5, [p, v], 69⟩] [ownP 1 ByC ByC.mono 5 w.heap.size v (flatA (zs.take i))] := S45
  have hfl := flat_le zs (i + 1)
  rw [← flat_take hp, List.length_append] at hfl
  refine doC rfl (ex_fn (vs := #[(.pointer (some ⟨n5, 0, none⟩)), (.string ⟨(lineL a).toArray⟩)]) (map2 rfl rfl) rfl (ent_26 _ _)) (write_own (l := (flatA (zs.take i))) (s := (lineL a)) S45 hpp (by omega)) (fun e_ w46 hh_ => ?_)
  obtain ⟨v48, rfl, S47⟩ := hh_
  refine ⟨_, rfl, ?_⟩
  simp only [pS, pN, pA, pC, pZ]
  have S47 : St w F w46 F [⟨n5, [(.pointer (some ⟨n5, 0, none⟩)), v48], 69⟩] [ownP 1 ByC ByC.mono 5 w.heap.size v48 ((flatA (zs.take i)) ++ (lineL a))] := S47
  refine wl_nil (hK21 _ _ ?_)
  refine region_wl ?_
  refine do_ rfl (.int .i64 (((i + 1) : Nat) : Int)) (ex_add (m := ((i : Nat) : Int)) (n := (1 : Int)) (r := (((i + 1) : Nat) : Int)) rfl rfl (by omega) (by omega) (by omega)) ?_
  simp only [pS, pN, pA, pC, pZ]
  refine do_ rfl (.int .i64 (((i + 1) : Nat) : Int)) (ex_move _) ?_
  simp only [pS, pN, pA, pC, pZ]
  refine wl_nil ?_
  rw [flat_take hp] at S47
  exact hK18 _ _ _ (by omega) ⟨(i + 1), (.pointer (some ⟨n5, 0, none⟩)), v48, _, rfl, rfl, rfl, S47, (by omega), (.inr rfl)⟩
 ·refine do_ rfl (.bool false) (ex_lss (m := ((i : Nat) : Int)) (n := ((zs.length : Nat) : Int)) (b := false) rfl rfl (decide_eq_false (by omega))) ?_
  simp only [pS, pN, pA, pC, pZ]
  refine wl_nil (hK19 _ _ ?_)
  refine wp_seq_k (fun K49 hK49 => ?_)
  refine wp_cond_false rfl ?_
  refine wp_exit ?_
  refine hK8 _ _ ?_
  refine wp_seq_k (fun K50 hK50 => region_wl ?_)
  rw [List.take_of_length_le (by omega)] at S16
  refine doC rfl (ex_fn (vs := #[(.pointer (some ⟨n5, 0, none⟩))]) (map1 rfl) rfl (ent_28 _ _)) (string_own S16 (flat_ne hz)) (fun e_ w51 hh_ => ?_)
  obtain ⟨rfl, S52⟩ := hh_
  refine ⟨_, rfl, ?_⟩
  simp only [pS, pN, pA, pC, pZ]
  have S52 : St w F w51 F [⟨n5, [p, v], 69⟩] [] := S52
  refine do_ rfl (.string ⟨(flatA zs).toArray⟩) (ex_assign _) ?_
  simp only [pS, pN, pA, pC, pZ]
  refine do_ rfl (.int .i64 0) (ex_assign _) ?_
  simp only [pS, pN, pA, pC, pZ]
  refine do_ rfl (.int .i64 0) (ex_assign _) ?_
  simp only [pS, pN, pA, pC, pZ]
  refine wl_nil (hK50 _ _ ?_)
  refine wp_ret ?_
  (try simp only [Exit.then, Exit.inBlock, ↓reduceIte, Nat.reduceEqDiff])
  refine bodyPost_ret (v := (.tuple #[(.string ⟨(flatA zs).toArray⟩), (.int .i64 0), (.int .i64 0)])) ?_ rfl ?_
  ·exact res_ttt rfl rfl rfl rfl
  ·exact ⟨rfl, S52.gr.below⟩
set_option maxHeartbeats 8000000 in
theorem showNil_spec (F : Fz) (w : World) (a0 : Option Addr) (c0 : Nat) (hs : Sat w F) :
    Calls Tryd.prog 14 #[.slice a0 0 c0] w (Tells w (.tuple #[strV [], .int .i64 0, .int .i64 0])) := by
 have S := St.start hs
 go_enter Tryd.func14, Tryd.ntmps14
 refine wp_seq_k (fun K1 hK1 => region_wl ?_)
 refine do_ rfl (.string ⟨([] : By).toArray⟩) (ex_assign _) ?_
 simp only [pS, pN, pA, pC, pZ]
 refine do_ rfl (.int .i64 0) (ex_assign _) ?_
 simp only [pS, pN, pA, pC, pZ]
 refine do_ rfl (.int .i64 0) (ex_assign _) ?_
 simp only [pS, pN, pA, pC, pZ]
 refine wl_nil (hK1 _ _ ?_)
 refine wp_seq_k (fun K2 hK2 => ?_)
 refine wp_seq_k (fun K3 hK3 => region_wl ?_)
 refine do_ rfl (.slice a0 0 c0) (ex_move _) ?_
 simp only [pS, pN, pA, pC, pZ]
 refine do_ rfl (.int .i64 0) (ex_len Tryd.underlying43 rfl) ?_
 simp only [pS, pN, pA, pC, pZ]
 refine do_ rfl (.bool false) (ex_gtr (m := (0 : Int)) (n := (100000 : Int)) (b := false) rfl rfl (decide_eq_false (by omega))) ?_
 simp only [pS, pN, pA, pC, pZ]
 refine wl_nil (hK3 _ _ ?_)
 refine wp_cond_false rfl ?_
 refine wp_skip ?_
 refine hK2 _ _ ?_
 refine wp_seq_k (fun K4 hK4 => region_wl ?_)
 refine stNew S (v := fun n => .pointer (some ⟨n, 0, none⟩)) rfl (ex_alloc (zero_69 _)) (fun n5 w6 S7 => ?_)
 simp only [pS, pN, pA, pC, pZ]
 have S7 : St w F w6 F [⟨n5, [(.pointer none), (.slice none 0 0)], 69⟩] [] := S7
 refine wl_nil (hK4 _ _ ?_)
 refine wp_seq_k (fun K8 hK8 => ?_)
 refine wp_seq_k (fun K9 hK9 => region_wl ?_)
 refine do_ rfl (.slice a0 0 c0) (ex_move _) ?_
 simp only [pS, pN, pA, pC, pZ]
 refine do_ rfl (.int .i64 0) (ex_len Tryd.underlying43 rfl) ?_
 simp only [pS, pN, pA, pC, pZ]
 refine do_ rfl (.int .i64 0) (ex_move _) ?_
 simp only [pS, pN, pA, pC, pZ]
 refine wl_nil (hK9 _ _ ?_)
 refine wp_block ?_
 refine wp_loop_rounds 1 ?_
 rw [rounds_succ]
 refine wp_seq_k (fun K10 hK10 => region_wl ?_)
 refine do_ rfl (.bool false) (ex_lss (b := false) rfl rfl (by decide)) ?_
 simp only [pS, pN, pA, pC, pZ]
 refine wl_nil (hK10 _ _ ?_)
 refine wp_seq_k (fun K11 hK11 => ?_)
 refine wp_cond_false rfl ?_
 refine wp_exit ?_
 refine hK8 _ _ ?_
 refine wp_seq_k (fun K12 hK12 => region_wl ?_)
 refine doC rfl (ex_fn (vs := #[(.pointer (some ⟨n5, 0, none⟩))]) (map1 rfl) rfl (ent_28 _ _)) (string_nil S7) (fun e_ w13 hh_ => ?_)
 obtain ⟨rfl, S14⟩ := hh_
 refine ⟨_, rfl, ?_⟩
 simp only [pS, pN, pA, pC, pZ]
 have S14 : St w F w13 F [⟨n5, [(.pointer none), (.slice none 0 0)], 69⟩] [] := S14
 refine do_ rfl (.string ⟨([] : By).toArray⟩) (ex_assign _) ?_
 simp only [pS, pN, pA, pC, pZ]
 refine do_ rfl (.int .i64 0) (ex_assign _) ?_
 simp only [pS, pN, pA, pC, pZ]
 refine do_ rfl (.int .i64 0) (ex_assign _) ?_
 simp only [pS, pN, pA, pC, pZ]
 refine wl_nil (hK12 _ _ ?_)
 refine wp_ret ?_
 (try simp only [Exit.then, Exit.inBlock, ↓reduceIte, Nat.reduceEqDiff])
 refine bodyPost_ret (v := (.tuple #[(.string ⟨([] : By).toArray⟩), (.int .i64 0), (.int .i64 0)])) ?_ rfl ?_
 ·exact res_ttt rfl rfl rfl rfl
 ·exact ⟨rfl, S14.gr.below⟩
theorem show_spec (W : World) (hT : Laid W) (hW : WordsL W) (F : Fz) (hF : Le (whole W) F) (w : World) (v : Value) (zs : List At) (hs : Sat w F) (hv : Ats F v zs) (hok : ∀ a ∈ zs, checkA a = 0) (hl : zs.length ≤ 100000) (hlen : (flatA zs).length ≤ 100000000) :
    Calls Tryd.prog 14 #[v] w (Tells w (.tuple #[strV (flatA zs), .int .i64 0, .int .i64 0])) := by
  by_cases hz : zs = []
  · subst hz
    obtain ⟨a0, c0, rfl, _⟩ := Sl.shape hv
    exact showNil_spec F w a0 c0 hs
  · exact showSome_spec W hT hW F hF w v zs hs hv hok hl hlen hz
end Go.Proofs.YtajmjolgphadoaaDoor
namespace Go.Proofs.YtajmjolgphadoaaDoor
open Go.RowKit Go.Shelf
set_option linter.unusedVariables false
set_option linter.unusedSimpArgs false
set_option maxRecDepth 100000
def StrC (F : Fz) (cs : List Value) (l : By) : Prop := cs = [strV l]
theorem StrC.mono (F F' : Fz) (x : List Value) (p : By) (hl : Le F F') (h : StrC F x p) : StrC F' x p := h
abbrev Strs (F : Fz) (v : Value) (l : List By) : Prop := Sl 1 StrC F v l
theorem Strs.mono {F F' : Fz} {v : Value} {l : List By} (h : Strs F v l) (hl : Le F F') : Strs F' v l := Sl.mono StrC.mono h hl
theorem strs_get {F : Fz} {a : Option Addr} {n c : Nat} {l : List By} (h : Strs F (.slice a n c) l) {i : Nat} {p : By} (hp : l[i]? = some p) :
    ∃ b o, a = some ⟨b, o, none⟩ ∧ cellF F b (o + i * 1) = some (strV p) := by
  obtain ⟨hi, rfl⟩ := List.getElem?_eq_some_iff.1 hp
  have hn := Sl.len h
  obtain ⟨b, o, e, h1⟩ := Sl.at h (by omega) (by omega)
  obtain ⟨cs, q1, q2, q3⟩ := h1 i hi
  have q2 : cs = [strV l[i]] := q2
  subst q2
  exact ⟨b, o, e, by simpa using q3 0 (by simp)⟩
theorem strs_all (F : Fz) : ∀ l : List By, AllR (StrC F) (l.map fun x => [strV x]) l
  | [] => trivial
  | _ :: l => ⟨rfl, strs_all F l⟩
theorem strs_flat : ∀ l : List By, ((l.map fun x => [strV x]).flatten) = l.map fun x => strV x
  | [] => rfl
  | x :: l => by rw [List.map_cons, List.flatten_cons, strs_flat l]; rfl
theorem split_spec (F : Fz) (w : World) (hs : Sat w F) (hT : Laid w) (l : By) (h : l.length ≤ 2000000) :
    Calls Tryd.prog 51 #[strV l, strV [32]] w (Gives w F fun F' u => Strs F' u (sp l)) := by
  obtain ⟨m, hm⟩ := hT.max
  have q := Go.Proofs.Any.strings_Split (P := Tryd.prog) (ρ := lSplit_ren) lSplit (by kernel_rfl) ⟨l.toArray⟩ ⟨([32] : By).toArray⟩ m w (by simp [ByteArray.size]; omega) hm (by decide)
  have hk : (Lib.splitB ⟨([32] : By).toArray⟩ 0 (Lib.countB ⟨l.toArray⟩ ⟨([32] : By).toArray⟩) ⟨l.toArray⟩).map (·.data.toList) = sp l := by
    rw [Lib.splitB_data]
    exact split_sp (l.length + 1) l (by omega)
  generalize hb : Lib.splitB ⟨([32] : By).toArray⟩ 0 (Lib.countB ⟨l.toArray⟩ ⟨([32] : By).toArray⟩) ⟨l.toArray⟩ = bs at q hk
  have hbs : bs.map Value.string = (sp l).map fun x => strV x := by rw [← hk, List.map_map]; rfl
  have hcnt : Lib.countB ⟨l.toArray⟩ ⟨([32] : By).toArray⟩ + 1 = (sp l).length := by
    rw [← hk, List.length_map, ← hb]
    exact (Lib.splitB_all _ (by decide) 0 _ _ rfl).symm
  rw [hcnt, hbs] at q
  refine q.mono fun e w' hh => ?_
  obtain ⟨rfl, rfl⟩ := hh
  have S := (St.start hs).alloc ((sp l).map fun x => strV x).toArray 9
  obtain ⟨S2, le, hc⟩ := St.freezeBlk S (i := 0) rfl
  have hlen : (sp l).length ≤ maxLen := by
    have h1 : (sp l).length ≤ l.length + 1 := sp_len l
    unfold maxLen; omega
  have hr : Strs _ (.slice (some ⟨w.heap.size, 0, none⟩) (sp l).length (sp l).length) (sp l) := sl_of_block (R := StrC) (l := sp l) (el := (sp l).map fun x => [strV x]) hc (by rw [strs_flat]) (strs_all _ _) (fun x hx => by obtain ⟨y, _, rfl⟩ := List.mem_map.1 hx; rfl) hlen
  exact ⟨_, _, rfl, S2.gr, hr⟩
end Go.Proofs.YtajmjolgphadoaaDoor
namespace Go.Proofs.YtajmjolgphadoaaDoor
set_option linter.unusedVariables false
set_option linter.unusedSimpArgs false
/-- The number of the word so far. -/
def kn (p : By) : Nat → Int
  | 0 => 0
  | i + 1 => if 0 < i ∧ words[i]? = some p then (i : Int) else kn p i
theorem kn_hit {p : By} {i : Nat} (h : 0 < i) (hw : words[i]? = some p) : kn p (i + 1) = i := by unfold kn; rw [if_pos ⟨h, hw⟩]
theorem kn_miss {p : By} {i : Nat} (h : ¬ (0 < i ∧ words[i]? = some p)) : kn p (i + 1) = kn p i := by
  conv => lhs; unfold kn
  rw [if_neg h]
theorem kn_five (p : By) : kn p 5 = kindL p := by
  simp only [kn, kindL, words, List.getElem?_cons_succ, List.getElem?_cons_zero, Option.some.injEq]
  by_cases h4 : p = [115, 116, 97, 114, 116]
  · subst h4; rfl
  by_cases h3 : p = [99, 114, 97, 115, 104]
  · subst h3; rfl
  by_cases h2 : p = [115, 121, 110, 99]
  · subst h2; rfl
  by_cases h1 : p = [97, 115, 107]
  · subst h1; rfl
  simp [h1, h2, h3, h4, Ne.symm h1, Ne.symm h2, Ne.symm h3, Ne.symm h4, eq_comm]
theorem act_short {l p : By} {ps : List By} (hs : sp (trimL l) = ps) (hp : ps[0]? = some p) (h : ps.length < 2) : actL l = ⟨kindL p, 0, 0, []⟩ := by
  have e : ps.head?.getD [] = p := by rw [List.head?_eq_getElem?, hp]; rfl
  unfold actL
  simp only [hs, e]
  rw [if_pos h]
theorem act_three {l p q : By} {ps : List By} (hs : sp (trimL l) = ps) (hp : ps[0]? = some p) (hq : ps[1]? = some q) (h : ¬ ps.length < 2) (hk : kindL p = 3) : actL l = ⟨3, 0, atoiV q, []⟩ := by
  have e : ps.head?.getD [] = p := by rw [List.head?_eq_getElem?, hp]; rfl
  unfold actL
  simp only [hs, e]
  rw [if_neg h, if_pos hk, hq]; rfl
theorem act_one {l p q r : By} {ps : List By} (hs : sp (trimL l) = ps) (hp : ps[0]? = some p) (hq : ps[1]? = some q) (hr : ps[ps.length - 1]? = some r) (h : ¬ ps.length < 2) (hk : kindL p = 1) : actL l = ⟨1, atoiV q, 0, unhex r⟩ := by
  have e : ps.head?.getD [] = p := by rw [List.head?_eq_getElem?, hp]; rfl
  have e2 : ps.getLast?.getD [] = r := by rw [List.getLast?_eq_getElem?, hr]; rfl
  unfold actL
  simp only [hs, e, e2]
  rw [if_neg h, if_neg (by rw [hk]; decide), if_pos hk, hq]; rfl
theorem act_else {l p : By} {ps : List By} (hs : sp (trimL l) = ps) (hp : ps[0]? = some p) (h : ¬ ps.length < 2) (h3 : kindL p ≠ 3) (h1 : kindL p ≠ 1) : actL l = ⟨kindL p, 0, 0, []⟩ := by
  have e : ps.head?.getD [] = p := by rw [List.head?_eq_getElem?, hp]; rfl
  unfold actL
  simp only [hs, e]
  rw [if_neg h, if_neg h3, if_neg h1]
theorem unhex_step {c d : UInt8} {h : By} (x : By) : x ++ unhex (c :: d :: h) = (x ++ [hexV c d]) ++ unhex h := by
  rw [unhex, List.append_assoc]; rfl
theorem unhex_end {h : By} (hl : ¬ 1 < h.length) : unhex h = [] := by
  match h, hl with
  | [], _ => rfl
  | [_], _ => rfl
  | _ :: _ :: _, hl => simp at hl
theorem trimL_len (l : By) : (trimL l).length ≤ l.length := by
  unfold trimL; split
  · simp
  · exact Nat.le_refl _
theorem trim_eq (l : By) : Lib.trimSuffix l [10] = trimL l := by
  unfold Lib.trimSuffix trimL Lib.hasSuffix
  by_cases h : l.getLast? = some 10
  · obtain ⟨x, rfl⟩ : ∃ x, l = x ++ [10] := ⟨l.dropLast, by
      obtain ⟨hne, he⟩ := List.getLast?_eq_some_iff.1 h
      rw [he]; simp⟩
    simp
  · rw [if_neg h, if_neg]
    intro hs
    obtain ⟨t, rfl⟩ := List.isSuffixOf_iff_suffix.1 hs
    simp at h
theorem idx_bd (c : UInt8) : -1 ≤ Lib.indexByte digs c ∧ Lib.indexByte digs c ≤ 15 := by
  have key : ∀ i : Fin 256, -1 ≤ Lib.indexByte digs (UInt8.ofNat i.val) ∧ Lib.indexByte digs (UInt8.ofNat i.val) ≤ 15 := by decide +kernel
  have := key ⟨c.toNat, UInt8.toNat_lt c⟩
  simpa using this
end Go.Proofs.YtajmjolgphadoaaDoor
namespace Go.Proofs.YtajmjolgphadoaaDoor
open Go.RowKit
set_option linter.unusedVariables false
set_option linter.unusedSimpArgs false
set_option maxRecDepth 100000
section
variable {P : Program} {ρ : Operand → Value} {w : World} {d : Option Tmp} {t : TypeId} {pos : String} {after : Array Edge} {guard : Option (Nat × Bool)} {x y : Operand} {X Y : TypeId}
theorem ex_shl4 {c : UInt8} (hx : ρ x = .int .i64 (Lib.indexByte digs c)) (hy : ρ y = .int .u64 4) : (execOp ρ ⟨d, .binOp .shl X x y Y, t, pos, after, guard⟩).run P w = .ok (.value (.int .i64 (Lib.indexByte digs c * 16))) w := by
  have e : (eqGuard .shl X x y (.int .i64 (Lib.indexByte digs c)) (.int .u64 4)).run P w = .ok () w := rfl
  have hb := idx_bd c
  have h : (binOp .shl X (.int .i64 (Lib.indexByte digs c)) (.int .u64 4)).run P w = .ok (.int .i64 (Lib.indexByte digs c * 16)) w := by
    show (Op.shift .shl .i64 (Lib.indexByte digs c) .u64 4).run P w = _
    unfold Op.shift
    rw [if_neg (by omega)]
    show Result.ok (Value.int .i64 (IntKind.i64.wrap (Lib.indexByte digs c * 2 ^ 4))) w = _
    rw [show (2 : Int) ^ 4 = 16 from rfl, wrap64_in (by omega) (by omega)]
  simp only [execOp, hx, hy, Sem.run_bind, e, Result.andThen_ok, h, Sem.run_pure]
theorem and_key : ∀ i : Fin 17, IntKind.i64.wrap ((BitVec.ofInt 64 ((i.val : Int) - 1) &&& BitVec.ofInt 64 15).toNat : Int) = ((i.val : Int) - 1) % 16 := by decide +kernel
theorem ex_and16 {c : UInt8} (hx : ρ x = .int .i64 (Lib.indexByte digs c)) (hy : ρ y = .int .i64 15) : (execOp ρ ⟨d, .binOp .and X x y Y, t, pos, after, guard⟩).run P w = .ok (.value (.int .i64 (Lib.indexByte digs c % 16))) w := by
  have hb := idx_bd c
  refine ex_bin hx hy ?_
  obtain ⟨i, hi⟩ : ∃ i : Fin 17, Lib.indexByte digs c = (i.val : Int) - 1 := ⟨⟨(Lib.indexByte digs c + 1).toNat, by omega⟩, by simp only; omega⟩
  rw [hi]
  show Result.ok (Value.int .i64 (IntKind.i64.wrap ((BitVec.ofInt 64 ((i.val : Int) - 1) &&& BitVec.ofInt 64 15).toNat : Int))) w = _
  rw [and_key]
theorem or_key : ∀ i : Fin 17, ∀ j : Fin 16, IntKind.i64.wrap ((BitVec.ofInt 64 (((i.val : Int) - 1) * 16) ||| BitVec.ofInt 64 (j.val : Int)).toNat : Int) = ((i.val : Int) - 1) * 16 + j.val := by decide +kernel
theorem ex_or16 {c e : UInt8} (hx : ρ x = .int .i64 (Lib.indexByte digs c * 16)) (hy : ρ y = .int .i64 (Lib.indexByte digs e % 16)) : (execOp ρ ⟨d, .binOp .or X x y Y, t, pos, after, guard⟩).run P w = .ok (.value (.int .i64 (Lib.indexByte digs c * 16 + Lib.indexByte digs e % 16))) w := by
  have hb := idx_bd c
  refine ex_bin hx hy ?_
  obtain ⟨i, hi⟩ : ∃ i : Fin 17, Lib.indexByte digs c = (i.val : Int) - 1 := ⟨⟨(Lib.indexByte digs c + 1).toNat, by omega⟩, by simp only; omega⟩
  obtain ⟨j, hj⟩ : ∃ j : Fin 16, Lib.indexByte digs e % 16 = (j.val : Int) := ⟨⟨(Lib.indexByte digs e % 16).toNat, by omega⟩, by simp only; omega⟩
  rw [hi, hj]
  show Result.ok (Value.int .i64 (IntKind.i64.wrap ((BitVec.ofInt 64 (((i.val : Int) - 1) * 16) ||| BitVec.ofInt 64 (j.val : Int)).toNat : Int))) w = _
  rw [or_key]
/-- Text[i]. -/
theorem ex_atS {l : By} {i : Nat} {b : UInt8} (hX : P.underlying X = some .string) (hx : ρ x = strV l) (hy : ρ y = .int .i64 (i : Nat)) (hb : l[i]? = some b) : (execOp ρ ⟨d, .index X x y, t, pos, after, guard⟩).run P w = .ok (.value (bv b)) w := by
  obtain ⟨hi, rfl⟩ := List.getElem?_eq_some_iff.1 hb
  have hg : (⟨l.toArray⟩ : ByteArray)[i]? = some l[i] := by
    rw [getElem?_pos (⟨l.toArray⟩ : ByteArray) i (by simpa [ByteArray.size] using hi)]; rfl
  have h1 : (0 : Int) ≤ (i : Int) := by omega
  simp [execOp, hx, hy, Instr.index, run_underlying hX w, asIntOf, hg, h1]
  rfl
end
theorem conv_hex (c e : UInt8) (w : World) : (convert 3 5 (.int .i64 (Lib.indexByte digs c * 16 + Lib.indexByte digs e % 16))).run Tryd.prog w = .ok (bv (hexV c e)) w := by
  have h : ∀ z : Int, (convert 3 5 (.int .i64 z)).run Tryd.prog w = .ok (.int .u8 (IntKind.u8.wrap z)) w := fun z => by kernel_rfl
  rw [h]
  have e2 : ∀ z : Int, IntKind.u8.wrap z = ((UInt8.ofNat (z % 256).toNat).toNat : Int) := by
    intro z
    rw [show IntKind.u8.wrap z = z % 256 from rfl, UInt8.toNat_ofNat']
    omega
  rw [e2]
  rfl
end Go.Proofs.YtajmjolgphadoaaDoor
namespace Go.Proofs.YtajmjolgphadoaaDoor
open Go.RowKit
set_option maxRecDepth 100000
set_option linter.unusedVariables false
set_option linter.unusedSimpArgs false
theorem does_byte {P : Program} {o : Oper} {a : Act} {W w : World} {F F1 : Fz} {b : UInt8} {E : TypeId} (g : Gr W F w F1)
    (hr : (execOp a.eval o).run P w = .ok (.value (.slice (some ⟨w.heap.size, 0, none⟩) 1 1)) (w.alloc (.cells #[bv b] E))) : Does P o a w (RelPost (Made W F fun F' u => Bs F' u [b]) w) := by
  have h := does_lit (R := ByC) (hR := ByC.mono) (p := b) (cs := [bv b]) (k := 1) g rfl rfl hr
  unfold Does at h ⊢
  rw [hr] at h ⊢
  obtain ⟨⟨F', h2, h3⟩, h4⟩ := h
  exact ⟨⟨F', h2, bs_of_sl h3⟩, h4⟩
theorem size_105 : (Tryd.prog.info? 105).map (·.size) = some 5 := by kernel_rfl
theorem ent_52 (vs : Array Value) (w : World) : (callFunc 52 vs).run Tryd.prog w = .ok (.enter 52 vs) w := by kernel_rfl
theorem ent_51 (vs : Array Value) (w : World) : (callFunc 51 vs).run Tryd.prog w = .ok (.enter 51 vs) w := by kernel_rfl
theorem ent_50 (vs : Array Value) (w : World) : (callFunc 50 vs).run Tryd.prog w = .ok (.enter 50 vs) w := by kernel_rfl
theorem ent_53 (vs : Array Value) (w : World) : (callFunc 53 vs).run Tryd.prog w = .ok (.enter 53 vs) w := by kernel_rfl
theorem range5 {w : World} {b o : Nat} {x y z u v : Value} (h0 : w.cell? ⟨b, o, none⟩ = some x) (h1 : w.cell? ⟨b, o + 1, none⟩ = some y) (h2 : w.cell? ⟨b, o + 2, none⟩ = some z) (h3 : w.cell? ⟨b, o + 3, none⟩ = some u) (h4 : w.cell? ⟨b, o + 4, none⟩ = some v) : w.rangeAt b o [x, y, z, u, v] := fun j q hv => by
  match j, hv with
  | 0, hv => cases hv; exact h0
  | 1, hv => cases hv; exact h1
  | 2, hv => cases hv; exact h2
  | 3, hv => cases hv; exact h3
  | 4, hv => cases hv; exact h4
theorem indexBc_spec (w : World) (c : UInt8) : Calls Tryd.prog 50 #[strV digs, bv c] w (Tells w (.int .i64 (Lib.indexByte digs c))) := by
  have := indexB_spec w digs (c.toNat : Int)
  show Calls _ _ #[strV digs, .int .u8 (c.toNat : Int)] w _
  simpa using this
theorem sp_el : ∀ (l : By), ∀ p ∈ sp l, p.length ≤ l.length
  | [], p, h => by simp [sp] at h; simp [h]
  | c :: r, p, h => by
    have ih := sp_el r
    unfold sp at h
    split at h
    · rcases List.mem_cons.1 h with rfl | h
      · simp
      · have := ih p h; simp only [List.length_cons]; omega
    · cases hr : sp r with
      | nil => rw [hr] at h; simp only [List.mem_singleton] at h; rw [h]; simp
      | cons q qs =>
        rw [hr] at h ih
        rcases List.mem_cons.1 h with rfl | h
        · have := ih q (List.mem_cons_self ..); simp only [List.length_cons]; omega
        · have := ih p (List.mem_cons_of_mem _ h); simp only [List.length_cons]; omega
theorem ex_indexG {P : Program} {ρ : Operand → Value} {w : World} {d : Option Tmp} {t X E : TypeId} {n : Nat} {pos : String} {after : Array Edge} {guard : Option (Nat × Bool)} {x y : Operand} {cs : Array Value} {i : Nat} {v : Value} (hX : P.underlying X = some (.array n E)) (hs : (sizeOf E).run P w = .ok 1 w) (hx : ρ x = .agg cs) (hy : ρ y = .int .i64 (i : Nat)) (hi : i < n) (hb : (isAgg E).run P w = .ok false w) (hv : cs[i]? = some v) :
    (execOp ρ ⟨d, .index X x y, t, pos, after, guard⟩).run P w = .ok (.value v) w := by
  have h1 : (0 : Int) ≤ (i : Int) ∧ (i : Int) < (n : Int) := by omega
  simp [execOp, hx, hy, Instr.index, part, Sem.run_bind, run_underlying hX w, asIntOf, hs, h1, hb, hv, hi]
theorem ex_wordV {P : Program} {ρ : Operand → Value} {w : World} {d : Option Tmp} {t X E : TypeId} {pos : String} {after : Array Edge} {guard : Option (Nat × Bool)} {x y : Operand} {i : Nat} (hX : P.underlying X = some (.array 5 E)) (hs : (sizeOf E).run P w = .ok 1 w) (hx : ρ x = .agg #[strV ((words[0]?).getD []), strV ((words[1]?).getD []), strV ((words[2]?).getD []), strV ((words[3]?).getD []), strV ((words[4]?).getD [])]) (hy : ρ y = .int .i64 (i : Nat)) (hi : i < 5) (hb : (isAgg E).run P w = .ok false w) :
    (execOp ρ ⟨d, .index X x y, t, pos, after, guard⟩).run P w = .ok (.value (strV ((words[i]?).getD []))) w := by
  have h1 : (0 : Int) ≤ (i : Int) ∧ (i : Int) < (5 : Int) := by omega
  have hv : (#[strV ((words[0]?).getD []), strV ((words[1]?).getD []), strV ((words[2]?).getD []), strV ((words[3]?).getD []), strV ((words[4]?).getD [])] : Array Value)[i]? = some (strV ((words[i]?).getD [])) := by
    match i, hi with
    | 0, _ => rfl
    | 1, _ => rfl
    | 2, _ => rfl
    | 3, _ => rfl
    | 4, _ => rfl
  exact ex_indexG hX hs hx hy hi hb hv
theorem ex_cut2 {P : Program} {ρ : Operand → Value} {w : World} {d : Option Tmp} {t X : TypeId} {pos : String} {after : Array Edge} {guard : Option (Nat × Bool)} {x lo : Operand} {c e : UInt8} {h : By} (hX : P.underlying X = some .string) (hx : ρ x = strV (c :: e :: h)) (hl : ρ lo = .int .i64 2) : (execOp ρ ⟨d, .slice X x (some lo) none none, t, pos, after, guard⟩).run P w = .ok (.value (strV h)) w := by
  have q := ex_cutS (P := P) (ρ := ρ) (w := w) (d := d) (t := t) (pos := pos) (after := after) (guard := guard) (lo := some lo) (hi := none) (l := 2) (h := (c :: e :: h).length) (k := .i64) (k' := .i64) hX hx (.inr ⟨_, rfl, hl⟩) (.inl ⟨rfl, rfl⟩) (by simp) (Nat.le_refl _)
  simpa using q
set_option maxHeartbeats 8000000 in
theorem act_spec (W : World) (hT : Laid W) (hW : WordsL W) (F : Fz) (hF : Le (whole W) F) (w : World) (l : By) (hs : Sat w F) (hl : l.length ≤ 2000000) :
    Calls Tryd.prog 30 #[strV l] w (Gives w F fun F' u => AtV F' u (actL l)) := by
 obtain ⟨i5, hi5, hz5, hs5, hb5⟩ := info_parts lExtra.infoByte
 have S := St.start hs
 go_enter Tryd.func30, Tryd.ntmps30
 refine wp_seq_k (fun K1 hK1 => region_wl ?_)
 refine stNew S (v := fun n => .pointer (some ⟨n, 0, none⟩)) rfl (ex_alloc (zero_50 _)) (fun n2 w3 S4 => ?_)
 simp only [pS, pN, pA, pC, pZ]
 have S4 : St w F w3 F [⟨n2, [(.int .i64 0), (.int .i64 0), (.int .i64 0), (.slice none 0 0)], 50⟩] [] := S4
 refine wl_nil (hK1 _ _ ?_)
 refine wp_seq_k (fun K5 hK5 => region_wl ?_)
 refine do_ rfl (.string ⟨l.toArray⟩) (ex_move _) ?_
 simp only [pS, pN, pA, pC, pZ]
 refine stTells (v := (.string ⟨(trimL l).toArray⟩)) S4 rfl (ex_fn (vs := #[(.string ⟨l.toArray⟩), (.string ⟨([10] : By).toArray⟩)]) (map2 rfl rfl) rfl (ent_52 _ _)) (trim_eq l ▸ trim_spec _ l [10] (by omega)) (fun w6 S7 => ?_)
 simp only [pS, pN, pA, pC, pZ]
 refine stGives S7 rfl (ex_fn (vs := #[(.string ⟨(trimL l).toArray⟩), (.string ⟨([32] : By).toArray⟩)]) (map2 rfl rfl) rfl (ent_51 _ _)) (split_spec _ _ (S7).sat (hT.keep hF (S7).sat) (trimL l) (by have := trimL_len l; omega)) ?_
 intro v13 w8 F10 S9 le11 R12
 generalize hps : sp (trimL l) = ps at R12
 obtain ⟨a14, c15, rfl, h16, h17⟩ := Sl.shape R12
 unfold maxLen at h17
 have hpos : 0 < ps.length := by rw [← hps]; exact List.length_pos_iff.2 (sp_ne _)
 have hel : ∀ p ∈ ps, p.length ≤ 2000000 := fun p hp => by have h1 := sp_el (trimL l) p (by rw [hps]; exact hp); have h2 := trimL_len l; omega
 have R12 : Strs _ (.slice a14 ps.length c15) ps := R12
 obtain ⟨p0, hp0⟩ : ∃ p, ps[0]? = some p := ⟨ps[0], List.getElem?_eq_getElem hpos⟩
 simp only [pS, pN, pA, pC, pZ]
 refine do_ rfl (.slice a14 ps.length c15) (ex_assign _) ?_
 simp only [pS, pN, pA, pC, pZ]
 refine wl_nil (hK5 _ _ ?_)
 refine wp_seq_k (fun K18 hK18 => region_wl ?_)
 refine stNew S9 (v := fun n => .pointer (some ⟨n, 0, none⟩)) rfl (ex_alloc (zero_50 _)) (fun n19 w20 S21 => ?_)
 simp only [pS, pN, pA, pC, pZ]
 have S21 : St w F w20 F10 [⟨n19, [(.int .i64 0), (.int .i64 0), (.int .i64 0), (.slice none 0 0)], 50⟩, ⟨n2, [(.int .i64 0), (.int .i64 0), (.int .i64 0), (.slice none 0 0)], 50⟩] [] := S21
 refine wl_nil (hK18 _ _ ?_)
 refine wp_seq_k (fun K22 hK22 => ?_)
 refine wp_seq_k (fun K23 hK23 => ?_)
 have hw24 : w20.cell? ⟨0, 0, none⟩ = some (strV ((words[0]?).getD [])) := cell_keep (hF.trans le11) (S21).sat (hW 0 (by omega))
 have hw25 : w20.cell? ⟨0, 1, none⟩ = some (strV ((words[1]?).getD [])) := cell_keep (hF.trans le11) (S21).sat (hW 1 (by omega))
 have hw26 : w20.cell? ⟨0, 2, none⟩ = some (strV ((words[2]?).getD [])) := cell_keep (hF.trans le11) (S21).sat (hW 2 (by omega))
 have hw27 : w20.cell? ⟨0, 3, none⟩ = some (strV ((words[3]?).getD [])) := cell_keep (hF.trans le11) (S21).sat (hW 3 (by omega))
 have hw28 : w20.cell? ⟨0, 4, none⟩ = some (strV ((words[4]?).getD [])) := cell_keep (hF.trans le11) (S21).sat (hW 4 (by omega))
 refine region_wl ?_
 refine do_ rfl (.agg #[(.string ⟨((words[0]?).getD []).toArray⟩), (.string ⟨((words[1]?).getD []).toArray⟩), (.string ⟨((words[2]?).getD []).toArray⟩), (.string ⟨((words[3]?).getD []).toArray⟩), (.string ⟨((words[4]?).getD []).toArray⟩)]) (ex_load rfl (loadN (cs := [(.string ⟨((words[0]?).getD []).toArray⟩), (.string ⟨((words[1]?).getD []).toArray⟩), (.string ⟨((words[2]?).getD []).toArray⟩), (.string ⟨((words[3]?).getD []).toArray⟩), (.string ⟨((words[4]?).getD []).toArray⟩)]) Tryd.underlying105 rfl (size_105) (range5 hw24 hw25 hw26 hw27 hw28))) ?_
 simp only [pS, pN, pA, pC, pZ]
 refine do_ rfl (.int .i64 0) (ex_move _) ?_
 simp only [pS, pN, pA, pC, pZ]
 refine wl_nil (hK23 _ _ ?_)
 refine wp_block ?_
 refine wp_loop_g (fun mm aa w30 => ∃ (i : Nat) (u29 : Nat → Value), mm = 5 - i ∧ u29 = slots aa ∧ aa = ⟨#[(.string ⟨l.toArray⟩), undef, (.pointer (some ⟨n2, 0, none⟩)), (.slice a14 ps.length c15), (.pointer (some ⟨n19, 0, none⟩)), (u29 5), (u29 6), undef, undef, undef, (.string ⟨l.toArray⟩), (.string ⟨(trimL l).toArray⟩), (.slice a14 ps.length c15), (.agg #[(.string ⟨((words[0]?).getD []).toArray⟩), (.string ⟨((words[1]?).getD []).toArray⟩), (.string ⟨((words[2]?).getD []).toArray⟩), (.string ⟨((words[3]?).getD []).toArray⟩), (.string ⟨((words[4]?).getD []).toArray⟩)]), (.int .i64 ((i : Nat) : Int)), (u29 15), (u29 16), (u29 17), (u29 18), (u29 19), (u29 20), (u29 21), (u29 22), (u29 23), (u29 24), (u29 25), (u29 26), (u29 27), (u29 28), (u29 29), undef, undef, undef, undef, undef, undef, undef, undef, undef, undef, undef, undef, undef, undef, undef, undef, undef, undef, undef, undef, undef, undef, undef, undef, undef, undef, undef, undef, undef, undef, undef, undef, undef, undef, undef, undef, undef, undef, undef, undef, undef, undef, undef, undef, undef, undef, undef, undef], []⟩ ∧ St w F w30 F10 [⟨n19, [(.int .i64 (kn p0 i)), (.int .i64 0), (.int .i64 0), (.slice none 0 0)], 50⟩, ⟨n2, [(.int .i64 0), (.int .i64 0), (.int .i64 0), (.slice none 0 0)], 50⟩] [] ∧ (i ≤ 5)) _ ⟨0, _, rfl, rfl, rfl, S21, (by omega)⟩ ?_
 rintro m31 a32 w33 ⟨i, u29, rfl, -, rfl, S34, hi⟩ K36 hK36
 refine wp_seq_k (fun K37 hK37 => region_wl ?_)
 by_cases hc15 : i < 5
 ·refine do_ rfl (.bool true) (ex_lss (m := ((i : Nat) : Int)) (n := (5 : Int)) (b := true) rfl rfl (decide_eq_true (by omega))) ?_
  simp only [pS, pN, pA, pC, pZ]
  refine wl_nil (hK37 _ _ ?_)
  refine wp_seq_k (fun K38 hK38 => ?_)
  refine wp_cond_true rfl ?_
  refine wp_skip ?_
  refine hK38 _ _ ?_
  refine wp_seq_k (fun K39 hK39 => ?_)
  refine wp_block ?_
  refine wp_seq_k (fun K40 hK40 => region_wl ?_)
  refine do_ rfl (.int .i64 ((i : Nat) : Int)) (ex_move _) ?_
  simp only [pS, pN, pA, pC, pZ]
  refine do_ rfl (.string ⟨((words[i]?).getD []).toArray⟩) (ex_wordV (i := i) Tryd.underlying105 (sizeof_9 _) rfl rfl (by omega) (nagg_9 _)) ?_
  simp only [pS, pN, pA, pC, pZ]
  refine do_ rfl (.int .i64 ((i : Nat) : Int)) (ex_assign _) ?_
  simp only [pS, pN, pA, pC, pZ]
  refine do_ rfl (.string ⟨((words[i]?).getD []).toArray⟩) (ex_assign _) ?_
  simp only [pS, pN, pA, pC, pZ]
  refine wl_nil (hK40 _ _ ?_)
  refine wp_seq_k (fun K41 hK41 => ?_)
  obtain ⟨b42, o43, ha44, c45⟩ := strs_get R12 hp0
  by_cases hi0 : 0 < i
  ·have hwi : words[i]? = some ((words[i]?).getD []) := by rw [List.getElem?_eq_getElem (show i < words.length from hc15)]; rfl
   by_cases hwq : (words[i]?).getD [] = p0
   ·have hwp : words[i]? = some p0 := by rw [← hwq]; exact hwi
    refine region_wl ?_
    refine do_ rfl (.int .i64 ((i : Nat) : Int)) (ex_move _) ?_
    simp only [pS, pN, pA, pC, pZ]
    refine do_ rfl (.bool true) (ex_gtr (m := ((i : Nat) : Int)) (n := (0 : Int)) (b := true) rfl rfl (decide_eq_true (by omega))) ?_
    simp only [pS, pN, pA, pC, pZ]
    refine do_ rfl (.bool true) (ex_move _) ?_
    simp only [pS, pN, pA, pC, pZ]
    refine do_ rfl (.string ⟨((words[i]?).getD []).toArray⟩) (ex_move _) ?_
    simp only [pS, pN, pA, pC, pZ]
    refine do_ rfl (.slice a14 ps.length c15) (ex_move _) ?_
    simp only [pS, pN, pA, pC, pZ]
    refine do_ rfl (.pointer (some ⟨b42, o43 + 0 * 1, none⟩)) (ex_at (i := 0) (sz := 1) Tryd.underlying54 (sizeof_9 _) rfl ha44 rfl (by omega) rfl) ?_
    simp only [pS, pN, pA, pC, pZ]
    refine do_ rfl (.string ⟨p0.toArray⟩) (ex_load rfl (load1 (nagg_9 _) (St.fz S34 c45))) ?_
    simp only [pS, pN, pA, pC, pZ]
    refine do_ rfl (.bool true) (ex_strop (op := .eql) (l := ((words[i]?).getD [])) (m := p0) (b := true) (by simp) rfl rfl (beq_iff_eq.2 hwq)) ?_
    simp only [pS, pN, pA, pC, pZ]
    refine do_ rfl (.bool true) (ex_pick (b := true) rfl) ?_
    simp only [pS, pN, pA, pC, pZ]
    refine wl_nil (hK41 _ _ ?_)
    refine wp_cond_true rfl ?_
    refine region_wl ?_
    refine do_ rfl (.int .i64 ((i : Nat) : Int)) (ex_move _) ?_
    simp only [pS, pN, pA, pC, pZ]
    refine do_ rfl (.pointer (some ⟨n19, 0, none⟩)) (ex_field (q := ⟨n19, 0, none⟩) rfl (fa_50_0 _ _)) ?_
    simp only [pS, pN, pA, pC, pZ]
    refine stStore (i := 0) (v := (.int .i64 ((i : Nat) : Int))) S34 rfl rfl rfl rfl (size_3) (allc1 rfl) (Nat.le_of_ble_eq_true rfl) (fun w46 S47 => ?_)
    simp only [pS, pN, pA, pC, pZ]
    have S47 : St w F w46 F10 [⟨n19, [(.int .i64 ((i : Nat) : Int)), (.int .i64 0), (.int .i64 0), (.slice none 0 0)], 50⟩, ⟨n2, [(.int .i64 0), (.int .i64 0), (.int .i64 0), (.slice none 0 0)], 50⟩] [] := S47
    refine wl_nil (hK39 _ _ ?_)
    refine region_wl ?_
    refine do_ rfl (.int .i64 (((i + 1) : Nat) : Int)) (ex_add (m := ((i : Nat) : Int)) (n := (1 : Int)) (r := (((i + 1) : Nat) : Int)) rfl rfl (by omega) (by omega) (by omega)) ?_
    simp only [pS, pN, pA, pC, pZ]
    refine do_ rfl (.int .i64 (((i + 1) : Nat) : Int)) (ex_move _) ?_
    simp only [pS, pN, pA, pC, pZ]
    refine wl_nil ?_
    have he48 : ((i : Nat) : Int) = kn p0 (i + 1) := (kn_hit hi0 hwp).symm
    rw [he48] at S47
    exact hK36 _ _ _ (by omega) ⟨(i + 1), _, rfl, rfl, rfl, S47, (by omega)⟩
   ·have hmiss : ¬ (0 < i ∧ words[i]? = some p0) := fun h => hwq (by rw [h.2]; rfl)
    refine region_wl ?_
    refine do_ rfl (.int .i64 ((i : Nat) : Int)) (ex_move _) ?_
    simp only [pS, pN, pA, pC, pZ]
    refine do_ rfl (.bool true) (ex_gtr (m := ((i : Nat) : Int)) (n := (0 : Int)) (b := true) rfl rfl (decide_eq_true (by omega))) ?_
    simp only [pS, pN, pA, pC, pZ]
    refine do_ rfl (.bool true) (ex_move _) ?_
    simp only [pS, pN, pA, pC, pZ]
    refine do_ rfl (.string ⟨((words[i]?).getD []).toArray⟩) (ex_move _) ?_
    simp only [pS, pN, pA, pC, pZ]
    refine do_ rfl (.slice a14 ps.length c15) (ex_move _) ?_
    simp only [pS, pN, pA, pC, pZ]
    refine do_ rfl (.pointer (some ⟨b42, o43 + 0 * 1, none⟩)) (ex_at (i := 0) (sz := 1) Tryd.underlying54 (sizeof_9 _) rfl ha44 rfl (by omega) rfl) ?_
    simp only [pS, pN, pA, pC, pZ]
    refine do_ rfl (.string ⟨p0.toArray⟩) (ex_load rfl (load1 (nagg_9 _) (St.fz S34 c45))) ?_
    simp only [pS, pN, pA, pC, pZ]
    refine do_ rfl (.bool false) (ex_strop (op := .eql) (l := ((words[i]?).getD [])) (m := p0) (b := false) (by simp) rfl rfl (beq_eq_false_iff_ne.2 hwq)) ?_
    simp only [pS, pN, pA, pC, pZ]
    refine do_ rfl (.bool false) (ex_pick (b := true) rfl) ?_
    simp only [pS, pN, pA, pC, pZ]
    refine wl_nil (hK41 _ _ ?_)
    refine wp_cond_false rfl ?_
    refine wp_skip ?_
    refine hK39 _ _ ?_
    refine region_wl ?_
    refine do_ rfl (.int .i64 (((i + 1) : Nat) : Int)) (ex_add (m := ((i : Nat) : Int)) (n := (1 : Int)) (r := (((i + 1) : Nat) : Int)) rfl rfl (by omega) (by omega) (by omega)) ?_
    simp only [pS, pN, pA, pC, pZ]
    refine do_ rfl (.int .i64 (((i + 1) : Nat) : Int)) (ex_move _) ?_
    simp only [pS, pN, pA, pC, pZ]
    refine wl_nil ?_
    have he49 : kn p0 i = kn p0 (i + 1) := (kn_miss hmiss).symm
    rw [he49] at S34
    exact hK36 _ _ _ (by omega) ⟨(i + 1), _, rfl, rfl, rfl, S34, (by omega)⟩
  ·have hmiss : ¬ (0 < i ∧ words[i]? = some p0) := fun h => hi0 h.1
   refine region_wl ?_
   refine do_ rfl (.int .i64 ((i : Nat) : Int)) (ex_move _) ?_
   simp only [pS, pN, pA, pC, pZ]
   refine do_ rfl (.bool false) (ex_gtr (m := ((i : Nat) : Int)) (n := (0 : Int)) (b := false) rfl rfl (decide_eq_false (by omega))) ?_
   simp only [pS, pN, pA, pC, pZ]
   refine do_ rfl (.bool false) (ex_move _) ?_
   simp only [pS, pN, pA, pC, pZ]
   refine doN (wanted_no rfl rfl rfl (c := false) rfl (by decide)) ?_
   simp only [pS, pN, pA, pC, pZ]
   refine doN (wanted_no rfl rfl rfl (c := false) rfl (by decide)) ?_
   simp only [pS, pN, pA, pC, pZ]
   refine doN (wanted_no rfl rfl rfl (c := false) rfl (by decide)) ?_
   simp only [pS, pN, pA, pC, pZ]
   refine doN (wanted_no rfl rfl rfl (c := false) rfl (by decide)) ?_
   simp only [pS, pN, pA, pC, pZ]
   refine doN (wanted_no rfl rfl rfl (c := false) rfl (by decide)) ?_
   simp only [pS, pN, pA, pC, pZ]
   refine do_ rfl (.bool false) (ex_pick (b := false) rfl) ?_
   simp only [pS, pN, pA, pC, pZ]
   refine wl_nil (hK41 _ _ ?_)
   refine wp_cond_false rfl ?_
   refine wp_skip ?_
   refine hK39 _ _ ?_
   refine region_wl ?_
   refine do_ rfl (.int .i64 (((i + 1) : Nat) : Int)) (ex_add (m := ((i : Nat) : Int)) (n := (1 : Int)) (r := (((i + 1) : Nat) : Int)) rfl rfl (by omega) (by omega) (by omega)) ?_
   simp only [pS, pN, pA, pC, pZ]
   refine do_ rfl (.int .i64 (((i + 1) : Nat) : Int)) (ex_move _) ?_
   simp only [pS, pN, pA, pC, pZ]
   refine wl_nil ?_
   have he50 : kn p0 i = kn p0 (i + 1) := (kn_miss hmiss).symm
   rw [he50] at S34
   exact hK36 _ _ _ (by omega) ⟨(i + 1), _, rfl, rfl, rfl, S34, (by omega)⟩
 ·refine do_ rfl (.bool false) (ex_lss (m := ((i : Nat) : Int)) (n := (5 : Int)) (b := false) rfl rfl (decide_eq_false (by omega))) ?_
  simp only [pS, pN, pA, pC, pZ]
  refine wl_nil (hK37 _ _ ?_)
  refine wp_seq_k (fun K51 hK51 => ?_)
  refine wp_cond_false rfl ?_
  refine wp_exit ?_
  refine hK22 _ _ ?_
  refine wp_seq_k (fun K52 hK52 => ?_)
  refine wp_seq_k (fun K53 hK53 => ?_)
  have hif : i = 5 := by omega
  rw [hif, kn_five] at S34
  refine region_wl ?_
  refine do_ rfl (.slice a14 ps.length c15) (ex_move _) ?_
  simp only [pS, pN, pA, pC, pZ]
  refine do_ rfl (.int .i64 ((ps.length : Nat) : Int)) (ex_len Tryd.underlying54 rfl) ?_
  simp only [pS, pN, pA, pC, pZ]
  by_cases hc32 : ps.length < 2
  ·refine do_ rfl (.bool true) (ex_lss (m := ((ps.length : Nat) : Int)) (n := (2 : Int)) (b := true) rfl rfl (decide_eq_true (by omega))) ?_
   simp only [pS, pN, pA, pC, pZ]
   refine wl_nil (hK53 _ _ ?_)
   refine wp_cond_true rfl ?_
   refine wp_seq_k (fun K54 hK54 => region_wl ?_)
   refine do_ rfl (.agg #[(.int .i64 (kindL p0)), (.int .i64 0), (.int .i64 0), (.slice none 0 0)]) (ex_load rfl (loadN (cs := [(.int .i64 (kindL p0)), (.int .i64 0), (.int .i64 0), (.slice none 0 0)]) Tryd.underlying50 rfl (size_50) (St.range S34 (i := 0) rfl 0 [(.int .i64 (kindL p0)), (.int .i64 0), (.int .i64 0), (.slice none 0 0)] (sub_range 0 rfl)))) ?_
   simp only [pS, pN, pA, pC, pZ]
   refine stStore (i := 1) (v := (.agg #[(.int .i64 (kindL p0)), (.int .i64 0), (.int .i64 0), (.slice none 0 0)])) S34 rfl rfl rfl rfl (size_50) (allc4 rfl rfl rfl rfl) (Nat.le_of_ble_eq_true rfl) (fun w55 S56 => ?_)
   simp only [pS, pN, pA, pC, pZ]
   have S56 : St w F w55 F10 [⟨n19, [(.int .i64 (kindL p0)), (.int .i64 0), (.int .i64 0), (.slice none 0 0)], 50⟩, ⟨n2, [(.int .i64 (kindL p0)), (.int .i64 0), (.int .i64 0), (.slice none 0 0)], 50⟩] [] := S56
   refine wl_nil (hK54 _ _ ?_)
   refine wp_ret ?_
   (try simp only [Exit.then, Exit.inBlock, ↓reduceIte, Nat.reduceEqDiff])
   refine bodyPost_ret (v := (.agg #[(.int .i64 (kindL p0)), (.int .i64 0), (.int .i64 0), (.slice none 0 0)])) ?_ rfl ?_
   ·exact res_c rfl ⟨_, rfl, loadN (cs := [(.int .i64 (kindL p0)), (.int .i64 0), (.int .i64 0), (.slice none 0 0)]) Tryd.underlying50 rfl (size_50) (St.range S56 (i := 1) rfl 0 [(.int .i64 (kindL p0)), (.int .i64 0), (.int .i64 0), (.slice none 0 0)] (sub_range 0 rfl))⟩
   ·first
    | (rw [act_short hps hp0 (by omega)]; exact ⟨_, _, rfl, S56.gr, none, 0, rfl, Bs.nil _⟩)
    | (rw [act_three hps hp0 hp1 (by omega) hc44]; exact ⟨_, _, rfl, S56.gr, none, 0, by rw [hc44]; rfl, Bs.nil _⟩)
    | (rw [act_else hps hp0 (by omega) hc44 hc48]; exact ⟨_, _, rfl, S56.gr, none, 0, rfl, Bs.nil _⟩)
  ·refine do_ rfl (.bool false) (ex_lss (m := ((ps.length : Nat) : Int)) (n := (2 : Int)) (b := false) rfl rfl (decide_eq_false (by omega))) ?_
   simp only [pS, pN, pA, pC, pZ]
   refine wl_nil (hK53 _ _ ?_)
   refine wp_cond_false rfl ?_
   refine wp_skip ?_
   refine hK52 _ _ ?_
   refine wp_seq_k (fun K57 hK57 => ?_)
   obtain ⟨p1, hp1⟩ : ∃ p, ps[1]? = some p := ⟨ps[1], List.getElem?_eq_getElem (by omega)⟩
   obtain ⟨b58, o59, ha60, c61⟩ := strs_get R12 hp1
   refine region_wl ?_
   refine do_ rfl (.slice a14 ps.length c15) (ex_move _) ?_
   simp only [pS, pN, pA, pC, pZ]
   refine do_ rfl (.pointer (some ⟨b58, o59 + 1 * 1, none⟩)) (ex_at (i := 1) (sz := 1) Tryd.underlying54 (sizeof_9 _) rfl ha60 rfl (by omega) rfl) ?_
   simp only [pS, pN, pA, pC, pZ]
   refine do_ rfl (.string ⟨p1.toArray⟩) (ex_load rfl (load1 (nagg_9 _) (St.fz S34 c61))) ?_
   simp only [pS, pN, pA, pC, pZ]
   refine doC rfl (ex_fn (vs := #[(.string ⟨p1.toArray⟩)]) (map1 rfl) rfl (ent_53 _ _)) (atoi_spec _ (hT.keep (hF.trans le11) (S34).sat) p1 (hel _ (List.mem_of_getElem? hp1))) (fun e_ w62 hh_ => ?_)
   obtain ⟨x64, rfl, hb65⟩ := hh_
   refine ⟨_, rfl, ?_⟩
   have S63 := St.tells S34 hb65
   simp only [pS, pN, pA, pC, pZ]
   refine do_ rfl (.tuple #[(.int .i64 (atoiV p1)), x64]) (ex_move _) ?_
   simp only [pS, pN, pA, pC, pZ]
   refine do_ rfl (.int .i64 (atoiV p1)) (ex_extract rfl rfl) ?_
   simp only [pS, pN, pA, pC, pZ]
   refine do_ rfl x64 (ex_extract rfl rfl) ?_
   simp only [pS, pN, pA, pC, pZ]
   refine do_ rfl (.int .i64 (atoiV p1)) (ex_assign _) ?_
   simp only [pS, pN, pA, pC, pZ]
   refine do_ rfl x64 (ex_assign _) ?_
   simp only [pS, pN, pA, pC, pZ]
   refine wl_nil (hK57 _ _ ?_)
   refine wp_seq_k (fun K66 hK66 => ?_)
   refine wp_seq_k (fun K67 hK67 => region_wl ?_)
   refine do_ rfl (.pointer (some ⟨n19, 0, none⟩)) (ex_field (q := ⟨n19, 0, none⟩) rfl (fa_50_0 _ _)) ?_
   simp only [pS, pN, pA, pC, pZ]
   refine do_ rfl (.int .i64 (kindL p0)) (ex_load rfl (load1 (nagg_3 _) (St.cell S63 (i := 0) rfl rfl))) ?_
   simp only [pS, pN, pA, pC, pZ]
   refine wl_nil (hK67 _ _ ?_)
   refine wp_block ?_
   refine wp_seq_k (fun K68 hK68 => region_wl ?_)
   by_cases hc44 : (kindL p0) = (3 : Int)
   ·refine do_ rfl (.bool true) (ex_eql (m := (kindL p0)) (n := (3 : Int)) (b := true) rfl rfl (beq_iff_eq.2 (by omega))) ?_
    simp only [pS, pN, pA, pC, pZ]
    refine do_ rfl (.bool true) (ex_assign _) ?_
    simp only [pS, pN, pA, pC, pZ]
    refine wl_nil (hK68 _ _ ?_)
    refine wp_cond_true rfl ?_
    refine region_wl ?_
    refine do_ rfl (.int .i64 (atoiV p1)) (ex_move _) ?_
    simp only [pS, pN, pA, pC, pZ]
    refine do_ rfl (.pointer (some ⟨n19, 2, none⟩)) (ex_field (q := ⟨n19, 2, none⟩) rfl (fa_50_2 _ _)) ?_
    simp only [pS, pN, pA, pC, pZ]
    refine stStore (i := 0) (v := (.int .i64 (atoiV p1))) S63 rfl rfl rfl rfl (size_3) (allc1 rfl) (Nat.le_of_ble_eq_true rfl) (fun w69 S70 => ?_)
    simp only [pS, pN, pA, pC, pZ]
    have S70 : St w F w69 F10 [⟨n19, [(.int .i64 (kindL p0)), (.int .i64 0), (.int .i64 (atoiV p1)), (.slice none 0 0)], 50⟩, ⟨n2, [(.int .i64 0), (.int .i64 0), (.int .i64 0), (.slice none 0 0)], 50⟩] [] := S70
    refine wl_nil (hK66 _ _ ?_)
    refine wp_seq_k (fun K71 hK71 => region_wl ?_)
    refine do_ rfl (.agg #[(.int .i64 (kindL p0)), (.int .i64 0), (.int .i64 (atoiV p1)), (.slice none 0 0)]) (ex_load rfl (loadN (cs := [(.int .i64 (kindL p0)), (.int .i64 0), (.int .i64 (atoiV p1)), (.slice none 0 0)]) Tryd.underlying50 rfl (size_50) (St.range S70 (i := 0) rfl 0 [(.int .i64 (kindL p0)), (.int .i64 0), (.int .i64 (atoiV p1)), (.slice none 0 0)] (sub_range 0 rfl)))) ?_
    simp only [pS, pN, pA, pC, pZ]
    refine stStore (i := 1) (v := (.agg #[(.int .i64 (kindL p0)), (.int .i64 0), (.int .i64 (atoiV p1)), (.slice none 0 0)])) S70 rfl rfl rfl rfl (size_50) (allc4 rfl rfl rfl rfl) (Nat.le_of_ble_eq_true rfl) (fun w72 S73 => ?_)
    simp only [pS, pN, pA, pC, pZ]
    have S73 : St w F w72 F10 [⟨n19, [(.int .i64 (kindL p0)), (.int .i64 0), (.int .i64 (atoiV p1)), (.slice none 0 0)], 50⟩, ⟨n2, [(.int .i64 (kindL p0)), (.int .i64 0), (.int .i64 (atoiV p1)), (.slice none 0 0)], 50⟩] [] := S73
    refine wl_nil (hK71 _ _ ?_)
    refine wp_ret ?_
    (try simp only [Exit.then, Exit.inBlock, ↓reduceIte, Nat.reduceEqDiff])
    refine bodyPost_ret (v := (.agg #[(.int .i64 (kindL p0)), (.int .i64 0), (.int .i64 (atoiV p1)), (.slice none 0 0)])) ?_ rfl ?_
    ·exact res_c rfl ⟨_, rfl, loadN (cs := [(.int .i64 (kindL p0)), (.int .i64 0), (.int .i64 (atoiV p1)), (.slice none 0 0)]) Tryd.underlying50 rfl (size_50) (St.range S73 (i := 1) rfl 0 [(.int .i64 (kindL p0)), (.int .i64 0), (.int .i64 (atoiV p1)), (.slice none 0 0)] (sub_range 0 rfl))⟩
    ·first
     | (rw [act_short hps hp0 (by omega)]; exact ⟨_, _, rfl, S73.gr, none, 0, rfl, Bs.nil _⟩)
     | (rw [act_three hps hp0 hp1 (by omega) hc44]; exact ⟨_, _, rfl, S73.gr, none, 0, by rw [hc44]; rfl, Bs.nil _⟩)
     | (rw [act_else hps hp0 (by omega) hc44 hc48]; exact ⟨_, _, rfl, S73.gr, none, 0, rfl, Bs.nil _⟩)
   ·refine do_ rfl (.bool false) (ex_eql (m := (kindL p0)) (n := (3 : Int)) (b := false) rfl rfl (beq_eq_false_iff_ne.2 (by omega))) ?_
    simp only [pS, pN, pA, pC, pZ]
    refine do_ rfl (.bool false) (ex_assign _) ?_
    simp only [pS, pN, pA, pC, pZ]
    refine wl_nil (hK68 _ _ ?_)
    refine wp_cond_false rfl ?_
    refine wp_seq_k (fun K74 hK74 => region_wl ?_)
    by_cases hc48 : (kindL p0) = (1 : Int)
    ·refine do_ rfl (.bool true) (ex_eql (m := (kindL p0)) (n := (1 : Int)) (b := true) rfl rfl (beq_iff_eq.2 (by omega))) ?_
     simp only [pS, pN, pA, pC, pZ]
     refine do_ rfl (.bool true) (ex_assign _) ?_
     simp only [pS, pN, pA, pC, pZ]
     refine wl_nil (hK74 _ _ ?_)
     refine wp_cond_true rfl ?_
     refine wp_seq_k (fun K75 hK75 => region_wl ?_)
     refine do_ rfl (.int .i64 (atoiV p1)) (ex_move _) ?_
     simp only [pS, pN, pA, pC, pZ]
     refine do_ rfl (.pointer (some ⟨n19, 1, none⟩)) (ex_field (q := ⟨n19, 1, none⟩) rfl (fa_50_1 _ _)) ?_
     simp only [pS, pN, pA, pC, pZ]
     refine stStore (i := 0) (v := (.int .i64 (atoiV p1))) S63 rfl rfl rfl rfl (size_3) (allc1 rfl) (Nat.le_of_ble_eq_true rfl) (fun w76 S77 => ?_)
     simp only [pS, pN, pA, pC, pZ]
     have S77 : St w F w76 F10 [⟨n19, [(.int .i64 (kindL p0)), (.int .i64 (atoiV p1)), (.int .i64 0), (.slice none 0 0)], 50⟩, ⟨n2, [(.int .i64 0), (.int .i64 0), (.int .i64 0), (.slice none 0 0)], 50⟩] [] := S77
     refine wl_nil (hK75 _ _ ?_)
     refine wp_seq_k (fun K78 hK78 => ?_)
     obtain ⟨p2, hp2⟩ : ∃ p, ps[ps.length - 1]? = some p := ⟨ps[ps.length - 1], List.getElem?_eq_getElem (by omega)⟩
     obtain ⟨b79, o80, ha81, c82⟩ := strs_get R12 hp2
     refine region_wl ?_
     refine do_ rfl (.slice a14 ps.length c15) (ex_move _) ?_
     simp only [pS, pN, pA, pC, pZ]
     refine do_ rfl (.slice a14 ps.length c15) (ex_move _) ?_
     simp only [pS, pN, pA, pC, pZ]
     refine do_ rfl (.int .i64 ((ps.length : Nat) : Int)) (ex_len Tryd.underlying54 rfl) ?_
     simp only [pS, pN, pA, pC, pZ]
     refine do_ rfl (.int .i64 (((ps.length - 1) : Nat) : Int)) (ex_sub (m := ((ps.length : Nat) : Int)) (n := (1 : Int)) (r := (((ps.length - 1) : Nat) : Int)) rfl rfl (by omega) (by omega) (by omega)) ?_
     simp only [pS, pN, pA, pC, pZ]
     refine do_ rfl (.pointer (some ⟨b79, o80 + (ps.length - 1) * 1, none⟩)) (ex_at (i := (ps.length - 1)) (sz := 1) Tryd.underlying54 (sizeof_9 _) rfl ha81 rfl (by omega) rfl) ?_
     simp only [pS, pN, pA, pC, pZ]
     refine do_ rfl (.string ⟨p2.toArray⟩) (ex_load rfl (load1 (nagg_9 _) (St.fz S77 c82))) ?_
     simp only [pS, pN, pA, pC, pZ]
     refine do_ rfl (.string ⟨p2.toArray⟩) (ex_assign _) ?_
     simp only [pS, pN, pA, pC, pZ]
     refine wl_nil (hK78 _ _ ?_)
     refine wp_block ?_
     have S83 := St.addNil S77 1 ByC ByC.mono 5 w.heap.size
     refine wp_loop_g (fun mm aa w86 => ∃ (h : By) (dt : By) (v : Value) (F84 : Fz) (u85 : Nat → Value), mm = h.length ∧ u85 = slots aa ∧ aa = ⟨#[(.string ⟨l.toArray⟩), undef, (.pointer (some ⟨n2, 0, none⟩)), (.slice a14 ps.length c15), (.pointer (some ⟨n19, 0, none⟩)), (u29 5), (u29 6), (.int .i64 (atoiV p1)), x64, (.string ⟨h.toArray⟩), (.string ⟨l.toArray⟩), (.string ⟨(trimL l).toArray⟩), (.slice a14 ps.length c15), (.agg #[(.string ⟨((words[0]?).getD []).toArray⟩), (.string ⟨((words[1]?).getD []).toArray⟩), (.string ⟨((words[2]?).getD []).toArray⟩), (.string ⟨((words[3]?).getD []).toArray⟩), (.string ⟨((words[4]?).getD []).toArray⟩)]), (.int .i64 ((i : Nat) : Int)), (.bool false), (u29 16), (u29 17), (u29 18), (u29 19), (u29 20), (u29 21), (u29 22), (u29 23), (u29 24), (u29 25), (u29 26), (u29 27), (u29 28), (u29 29), (.slice a14 ps.length c15), (.int .i64 ((ps.length : Nat) : Int)), (.bool false), undef, (.tuple #[(.int .i64 (atoiV p1)), x64]), (.slice a14 ps.length c15), (.pointer (some ⟨b58, o59 + 1 * 1, none⟩)), (.string ⟨p1.toArray⟩), (.tuple #[(.int .i64 (atoiV p1)), x64]), (.int .i64 (atoiV p1)), x64, (.pointer (some ⟨n19, 0, none⟩)), (.int .i64 (kindL p0)), (.bool false), (.bool false), undef, undef, (.bool true), (.bool true), (.int .i64 (atoiV p1)), (.pointer (some ⟨n19, 1, none⟩)), (.slice a14 ps.length c15), (.slice a14 ps.length c15), (.int .i64 ((ps.length : Nat) : Int)), (.int .i64 (((ps.length - 1) : Nat) : Int)), (.pointer (some ⟨b79, o80 + (ps.length - 1) * 1, none⟩)), (.string ⟨p2.toArray⟩), (u85 57), (u85 58), (u85 59), (u85 60), (u85 61), (u85 62), (u85 63), (u85 64), (u85 65), (u85 66), (u85 67), (u85 68), (u85 69), (u85 70), (u85 71), (u85 72), (u85 73), (u85 74), (u85 75), (u85 76), undef], []⟩ ∧ St w F w86 F84 [⟨n19, [(.int .i64 (kindL p0)), (.int .i64 (atoiV p1)), (.int .i64 0), v], 50⟩, ⟨n2, [(.int .i64 0), (.int .i64 0), (.int .i64 0), (.slice none 0 0)], 50⟩] [ownP 1 ByC ByC.mono 5 w.heap.size v dt] ∧ Le F10 F84 ∧ (dt ++ unhex h = unhex p2) ∧ (h.length ≤ 2000000) ∧ (dt.length + h.length ≤ 2000000)) _ ⟨p2, [], (.slice none 0 0), F10, _, rfl, rfl, rfl, S83, Le.refl _, rfl, (hel _ (List.mem_of_getElem? hp2)), (by have := hel _ (List.mem_of_getElem? hp2); simpa using this)⟩ ?_
     rintro m87 a88 w89 ⟨h, dt, v, F84, u85, rfl, -, rfl, S90, le91, hun, hhl, hdl⟩ K92 hK92
     refine wp_seq_k (fun K93 hK93 => ?_)
     refine wp_seq_k (fun K94 hK94 => region_wl ?_)
     refine do_ rfl (.string ⟨h.toArray⟩) (ex_move _) ?_
     simp only [pS, pN, pA, pC, pZ]
     refine do_ rfl (.int .i64 ((h.length : Nat) : Int)) (ex_lenStr Tryd.underlying9 rfl) ?_
     simp only [pS, pN, pA, pC, pZ]
     by_cases hc59 : 1 < h.length
     ·refine do_ rfl (.bool true) (ex_gtr (m := ((h.length : Nat) : Int)) (n := (1 : Int)) (b := true) rfl rfl (decide_eq_true (by omega))) ?_
      simp only [pS, pN, pA, pC, pZ]
      refine wl_nil (hK94 _ _ ?_)
      refine wp_cond_true rfl ?_
      refine wp_skip ?_
      refine hK93 _ _ ?_
      refine wp_seq_k (fun K95 hK95 => ?_)
      refine wp_block ?_
      obtain ⟨c, e, h2, rfl⟩ : ∃ c e h2, h = c :: e :: h2 := by
       match h, hc59 with
       | c :: e :: h2, _ => exact ⟨c, e, h2, rfl⟩
       | [], hx => simp at hx
       | [_], hx => simp at hx
      have hlc : (c :: e :: h2).length = h2.length + 2 := rfl
      refine region_gw F84 13 [(4, .is (.int .i64 (Lib.indexByte digs c))), (8, .is (.int .i64 (Lib.indexByte digs e))), (12, .made (fun F' u => Bs F' u [(hexV c e)]))] (by kernel_rfl) (by kernel_rfl) ?_
      simp only [List.take_succ_cons, List.take_zero]
      refine gw_pure rfl rfl (.pointer (some ⟨n19, 3, none⟩)) (fun w96 hCw96 => pureAt_of (ex_field (q := ⟨n19, 3, none⟩) rfl (fa_50_3 _ _))) ?_
      simp only [pS, pN, pA, pC, pZ]
      refine gw_pure rfl rfl v (fun w96 hCw96 => pureAt_of (ex_load rfl (load1 (nagg_27 _) (St.cell (St.tells S90 hCw96) (i := 0) rfl rfl)))) ?_
      simp only [pS, pN, pA, pC, pZ]
      refine gw_pure rfl rfl (.string ⟨(c :: e :: h2).toArray⟩) (fun w96 hCw96 => pureAt_of (ex_move _)) ?_
      simp only [pS, pN, pA, pC, pZ]
      refine gw_pure rfl rfl (bv c) (fun w96 hCw96 => pureAt_of (ex_atS (i := 0) Tryd.underlying9 rfl rfl rfl)) ?_
      simp only [pS, pN, pA, pC, pZ]
      refine gw_const rfl rfl (v := (.int .i64 (Lib.indexByte digs c))) (fun w96 hCw96 _ => does_call (ex_fn (vs := #[(.string ⟨digs.toArray⟩), (bv c)]) (map2 rfl rfl) rfl (ent_50 _ _)) (call_tells (indexBc_spec _ c))) ?_
      simp only [pS, pN, pA, pC, pZ]
      refine gw_pure rfl rfl (.int .i64 (Lib.indexByte digs c * 16)) (fun w96 hCw96 => pureAt_of (ex_shl4 (c := c) rfl rfl)) ?_
      simp only [pS, pN, pA, pC, pZ]
      refine gw_pure rfl rfl (.string ⟨(c :: e :: h2).toArray⟩) (fun w96 hCw96 => pureAt_of (ex_move _)) ?_
      simp only [pS, pN, pA, pC, pZ]
      refine gw_pure rfl rfl (bv e) (fun w96 hCw96 => pureAt_of (ex_atS (i := 1) Tryd.underlying9 rfl rfl rfl)) ?_
      simp only [pS, pN, pA, pC, pZ]
      refine gw_const rfl rfl (v := (.int .i64 (Lib.indexByte digs e))) (fun w96 hCw96 _ => does_call (ex_fn (vs := #[(.string ⟨digs.toArray⟩), (bv e)]) (map2 rfl rfl) rfl (ent_50 _ _)) (call_tells (indexBc_spec _ e))) ?_
      simp only [pS, pN, pA, pC, pZ]
      refine gw_pure rfl rfl (.int .i64 (Lib.indexByte digs e % 16)) (fun w96 hCw96 => pureAt_of (ex_and16 (c := e) rfl rfl)) ?_
      simp only [pS, pN, pA, pC, pZ]
      refine gw_pure rfl rfl (.int .i64 (Lib.indexByte digs c * 16 + Lib.indexByte digs e % 16)) (fun w96 hCw96 => pureAt_of (ex_or16 (c := c) (e := e) rfl rfl)) ?_
      simp only [pS, pN, pA, pC, pZ]
      refine gw_pure rfl rfl (bv (hexV c e)) (fun w96 hCw96 => pureAt_of (ex_convert (v := (.int .i64 (Lib.indexByte digs c * 16 + Lib.indexByte digs e % 16))) rfl (conv_hex c e _))) ?_
      simp only [pS, pN, pA, pC, pZ]
      refine gw_rel rfl rfl (fun w96 hCw96 _ => does_byte (b := (hexV c e)) (Gr.of_below S90.sat hCw96) (ex_lit (ps := #[(0, (bv (hexV c e)))]) (cells := #[(bv (hexV c e))]) (E := 5) (bmap1 rfl) (fun w => by kernel_rfl))) (fun v97 => ?_)
      simp only [pS, pN, pA, pC, pZ]
      refine gw_nil ?_
      intro w98 hC100 hF101
      obtain ⟨F102, g103, R104⟩ := hF101.get 12 rfl rfl
      have S99 := St.gives S90 g103
      have le106 : Le _ _ := g103.le S90.sat
      have R107 := R104
      generalize F102 = F105 at *
      obtain ⟨xa108, xc109, rfl, _⟩ := R107.shape
      clear hF101
      simp only [List.drop_succ_cons, List.drop_zero]
      refine stAppendS (r := 0) (u := (.slice xa108 [(hexV c e)].length xc109)) S99 rfl i5 (.int .u8 0) 1 Tryd.underlying27 hi5 hz5 hs5 hb5 rfl (by decide) rfl rfl rfl (Sl.toW (R107).sl (S99).sat) ByC.one (Nat.le_refl _) S99.gr.below.size (by unfold maxLen; simp only [List.length_cons, List.length_nil] at *; omega) (by simp only [List.length_cons, List.length_nil] at *; omega) ?_
      intro v110 w111 S112 hn113
      simp only [pS, pN, pA, pC, pZ]
      have S112 : St w F w111 F105 [⟨n19, [(.int .i64 (kindL p0)), (.int .i64 (atoiV p1)), (.int .i64 0), v], 50⟩, ⟨n2, [(.int .i64 0), (.int .i64 0), (.int .i64 0), (.slice none 0 0)], 50⟩] [ownP 1 ByC ByC.mono 5 w.heap.size v110 (dt ++ [(hexV c e)])] := S112
      obtain ⟨a114, cap115, rfl, h116, h117⟩ := (S112.own (i := 0) rfl).shape
      unfold maxLen at h117
      refine do_ rfl (.pointer (some ⟨n19, 3, none⟩)) (ex_field (q := ⟨n19, 3, none⟩) rfl (fa_50_3 _ _)) ?_
      simp only [pS, pN, pA, pC, pZ]
      refine stStore (i := 0) (v := (.slice a114 (dt ++ [(hexV c e)]).length cap115)) S112 rfl rfl rfl rfl (size_27) (allc1 rfl) (Nat.le_of_ble_eq_true rfl) (fun w118 S119 => ?_)
      simp only [pS, pN, pA, pC, pZ]
      have S119 : St w F w118 F105 [⟨n19, [(.int .i64 (kindL p0)), (.int .i64 (atoiV p1)), (.int .i64 0), (.slice a114 (dt ++ [(hexV c e)]).length cap115)], 50⟩, ⟨n2, [(.int .i64 0), (.int .i64 0), (.int .i64 0), (.slice none 0 0)], 50⟩] [ownP 1 ByC ByC.mono 5 w.heap.size (.slice a114 (dt ++ [(hexV c e)]).length cap115) (dt ++ [(hexV c e)])] := S119
      refine wl_nil (hK95 _ _ ?_)
      refine region_wl ?_
      refine do_ rfl (.string ⟨(c :: e :: h2).toArray⟩) (ex_move _) ?_
      simp only [pS, pN, pA, pC, pZ]
      refine do_ rfl (.string ⟨h2.toArray⟩) (ex_cut2 Tryd.underlying9 rfl rfl) ?_
      simp only [pS, pN, pA, pC, pZ]
      refine do_ rfl (.string ⟨h2.toArray⟩) (ex_assign _) ?_
      simp only [pS, pN, pA, pC, pZ]
      refine wl_nil ?_
      exact hK92 _ _ _ (by omega) ⟨h2, (dt ++ [hexV c e]), (.slice a114 (dt ++ [(hexV c e)]).length cap115), F105, _, rfl, rfl, rfl, S119, (le91.trans le106), (by rw [← unhex_step]; exact hun), (by simp only [List.length_cons] at *; omega), (by simp only [List.length_append, List.length_cons, List.length_nil] at *; omega)⟩
     ·refine do_ rfl (.bool false) (ex_gtr (m := ((h.length : Nat) : Int)) (n := (1 : Int)) (b := false) rfl rfl (decide_eq_false (by omega))) ?_
      simp only [pS, pN, pA, pC, pZ]
      refine wl_nil (hK94 _ _ ?_)
      refine wp_cond_false rfl ?_
      refine wp_exit ?_
      refine hK66 _ _ ?_
      refine wp_seq_k (fun K120 hK120 => ?_)
      obtain ⟨a121, cap122, rfl, h123, h124⟩ := (S90.own (i := 0) rfl).shape
      unfold maxLen at h124
      refine region_wl ?_
      refine do_ rfl (.agg #[(.int .i64 (kindL p0)), (.int .i64 (atoiV p1)), (.int .i64 0), (.slice a121 dt.length cap122)]) (ex_load rfl (loadN (cs := [(.int .i64 (kindL p0)), (.int .i64 (atoiV p1)), (.int .i64 0), (.slice a121 dt.length cap122)]) Tryd.underlying50 rfl (size_50) (St.range S90 (i := 0) rfl 0 [(.int .i64 (kindL p0)), (.int .i64 (atoiV p1)), (.int .i64 0), (.slice a121 dt.length cap122)] (sub_range 0 rfl)))) ?_
      simp only [pS, pN, pA, pC, pZ]
      refine stStore (i := 1) (v := (.agg #[(.int .i64 (kindL p0)), (.int .i64 (atoiV p1)), (.int .i64 0), (.slice a121 dt.length cap122)])) S90 rfl rfl rfl rfl (size_50) (allc4 rfl rfl rfl rfl) (Nat.le_of_ble_eq_true rfl) (fun w125 S126 => ?_)
      simp only [pS, pN, pA, pC, pZ]
      have S126 : St w F w125 F84 [⟨n19, [(.int .i64 (kindL p0)), (.int .i64 (atoiV p1)), (.int .i64 0), (.slice a121 dt.length cap122)], 50⟩, ⟨n2, [(.int .i64 (kindL p0)), (.int .i64 (atoiV p1)), (.int .i64 0), (.slice a121 dt.length cap122)], 50⟩] [ownP 1 ByC ByC.mono 5 w.heap.size (.slice a121 dt.length cap122) dt] := S126
      refine wl_nil (hK120 _ _ ?_)
      refine wp_ret ?_
      (try simp only [Exit.then, Exit.inBlock, ↓reduceIte, Nat.reduceEqDiff])
      refine bodyPost_ret (v := (.agg #[(.int .i64 (kindL p0)), (.int .i64 (atoiV p1)), (.int .i64 0), (.slice a121 dt.length cap122)])) ?_ rfl ?_
      ·exact res_c rfl ⟨_, rfl, loadN (cs := [(.int .i64 (kindL p0)), (.int .i64 (atoiV p1)), (.int .i64 0), (.slice a121 dt.length cap122)]) Tryd.underlying50 rfl (size_50) (St.range S126 (i := 1) rfl 0 [(.int .i64 (kindL p0)), (.int .i64 (atoiV p1)), (.int .i64 0), (.slice a121 dt.length cap122)] (sub_range 0 rfl))⟩
      ·rw [unhex_end (by omega), List.append_nil] at hun
       obtain ⟨F9, S9, le9, hv9⟩ := St.freeze S126 (i := 0) rfl (Nat.le_refl _)
       obtain ⟨a9, c9, e9, _⟩ := Sl.shape hv9
       rw [act_one hps hp0 hp1 hp2 (by omega) hc48]
       subst hun
       refine ⟨_, _, rfl, S9.gr, a9, c9, ?_, ?_⟩
       ·rw [e9, hc48]
       ·rw [← e9]; exact bs_of_sl hv9
    ·refine do_ rfl (.bool false) (ex_eql (m := (kindL p0)) (n := (1 : Int)) (b := false) rfl rfl (beq_eq_false_iff_ne.2 (by omega))) ?_
     simp only [pS, pN, pA, pC, pZ]
     refine do_ rfl (.bool false) (ex_assign _) ?_
     simp only [pS, pN, pA, pC, pZ]
     refine wl_nil (hK74 _ _ ?_)
     refine wp_cond_false rfl ?_
     refine wp_skip ?_
     refine hK66 _ _ ?_
     refine wp_seq_k (fun K127 hK127 => region_wl ?_)
     refine do_ rfl (.agg #[(.int .i64 (kindL p0)), (.int .i64 0), (.int .i64 0), (.slice none 0 0)]) (ex_load rfl (loadN (cs := [(.int .i64 (kindL p0)), (.int .i64 0), (.int .i64 0), (.slice none 0 0)]) Tryd.underlying50 rfl (size_50) (St.range S63 (i := 0) rfl 0 [(.int .i64 (kindL p0)), (.int .i64 0), (.int .i64 0), (.slice none 0 0)] (sub_range 0 rfl)))) ?_
     simp only [pS, pN, pA, pC, pZ]
     refine stStore (i := 1) (v := (.agg #[(.int .i64 (kindL p0)), (.int .i64 0), (.int .i64 0), (.slice none 0 0)])) S63 rfl rfl rfl rfl (size_50) (allc4 rfl rfl rfl rfl) (Nat.le_of_ble_eq_true rfl) (fun w128 S129 => ?_)
     simp only [pS, pN, pA, pC, pZ]
     have S129 : St w F w128 F10 [⟨n19, [(.int .i64 (kindL p0)), (.int .i64 0), (.int .i64 0), (.slice none 0 0)], 50⟩, ⟨n2, [(.int .i64 (kindL p0)), (.int .i64 0), (.int .i64 0), (.slice none 0 0)], 50⟩] [] := S129
     refine wl_nil (hK127 _ _ ?_)
     refine wp_ret ?_
     (try simp only [Exit.then, Exit.inBlock, ↓reduceIte, Nat.reduceEqDiff])
     refine bodyPost_ret (v := (.agg #[(.int .i64 (kindL p0)), (.int .i64 0), (.int .i64 0), (.slice none 0 0)])) ?_ rfl ?_
     ·exact res_c rfl ⟨_, rfl, loadN (cs := [(.int .i64 (kindL p0)), (.int .i64 0), (.int .i64 0), (.slice none 0 0)]) Tryd.underlying50 rfl (size_50) (St.range S129 (i := 1) rfl 0 [(.int .i64 (kindL p0)), (.int .i64 0), (.int .i64 0), (.slice none 0 0)] (sub_range 0 rfl))⟩
     ·first
      | (rw [act_short hps hp0 (by omega)]; exact ⟨_, _, rfl, S129.gr, none, 0, rfl, Bs.nil _⟩)
      | (rw [act_three hps hp0 hp1 (by omega) hc44]; exact ⟨_, _, rfl, S129.gr, none, 0, by rw [hc44]; rfl, Bs.nil _⟩)
      | (rw [act_else hps hp0 (by omega) hc44 hc48]; exact ⟨_, _, rfl, S129.gr, none, 0, rfl, Bs.nil _⟩)
end Go.Proofs.YtajmjolgphadoaaDoor
namespace Go.Proofs.YtajmjolgphadoaaDoor
open Go.RowKit
set_option maxRecDepth 100000
set_option linter.unusedVariables false
set_option linter.unusedSimpArgs false
set_option maxHeartbeats 8000000 in
theorem actK_spec (F : Fz) (w : World) (v : Value) (g : Ft) (hs : Sat w F) (hv : FtV F v g) (b1 : -9223372036854775808 ≤ g.kind ∧ g.kind ≤ 9223372036854775807) (b2 : -9223372036854775808 ≤ g.a ∧ g.a ≤ 9223372036854775807) :
    Calls Tryd.prog 24 #[v] w (Gives w F fun F' u => ∃ a, checkA a = 0 ∧ a.data.length ≤ 80 ∧ AtV F' u a) := by
 obtain ⟨x, y, rfl, hv⟩ := hv
 have S := St.start hs
 go_enter Tryd.func24, Tryd.ntmps24
 refine wp_seq_k (fun K1 hK1 => region_wl ?_)
 refine stNew S (v := fun n => .pointer (some ⟨n, 0, none⟩)) rfl (ex_box (v := (.agg #[(.int .i64 g.kind), (.int .i64 g.a), (.slice x g.data.length y)])) rfl) (fun n2 w3 S4 => ?_)
 simp only [pS, pN, pA, pC, pZ]
 have S4 : St w F w3 F [⟨n2, [(.int .i64 g.kind), (.int .i64 g.a), (.slice x g.data.length y)], 66⟩] [] := S4
 refine stNew S4 (v := fun n => .pointer (some ⟨n, 0, none⟩)) rfl (ex_alloc (zero_50 _)) (fun n5 w6 S7 => ?_)
 simp only [pS, pN, pA, pC, pZ]
 have S7 : St w F w6 F [⟨n5, [(.int .i64 0), (.int .i64 0), (.int .i64 0), (.slice none 0 0)], 50⟩, ⟨n2, [(.int .i64 g.kind), (.int .i64 g.a), (.slice x g.data.length y)], 66⟩] [] := S7
 refine wl_nil (hK1 _ _ ?_)
 refine wp_seq_k (fun K8 hK8 => ?_)
 obtain ⟨hpak, hpbk⟩ := pick_bd g.kind 4 (by omega)
 obtain ⟨k, hk⟩ : ∃ q : Nat, pick g.kind 4 = (q : Int) := ⟨(pick g.kind 4).toNat, (Int.toNat_of_nonneg hpak).symm⟩
 refine region_wl ?_
 refine do_ rfl (.pointer (some ⟨n2, 0, none⟩)) (ex_field (q := ⟨n2, 0, none⟩) rfl (fa_66_0 _ _)) ?_
 simp only [pS, pN, pA, pC, pZ]
 refine do_ rfl (.int .i64 g.kind) (ex_load rfl (load1 (nagg_3 _) (St.cell S7 (i := 1) rfl rfl))) ?_
 simp only [pS, pN, pA, pC, pZ]
 refine stTells (v := (.int .i64 ((k : Nat) : Int))) S7 rfl (ex_fn (vs := #[(.int .i64 g.kind), (.int .i64 4)]) (map2 rfl rfl) rfl (ent_9 _ _)) (hk ▸ tells_same (picked_spec g.kind 4 _ (by omega) (by omega) (by omega) (by omega))) (fun w9 S10 => ?_)
 simp only [pS, pN, pA, pC, pZ]
 refine do_ rfl (.int .i64 (((1 + k) : Nat) : Int)) (ex_add (m := (1 : Int)) (n := ((k : Nat) : Int)) (r := (((1 + k) : Nat) : Int)) rfl rfl (by omega) (by omega) (by omega)) ?_
 simp only [pS, pN, pA, pC, pZ]
 refine do_ rfl (.agg #[(.int .i64 (((1 + k) : Nat) : Int)), (.int .i64 0), (.int .i64 0), (.slice none 0 0)]) (ex_build (ps := #[(0, (.int .i64 (((1 + k) : Nat) : Int)))]) (bmap1 rfl) (by kernel_rfl)) ?_
 simp only [pS, pN, pA, pC, pZ]
 refine stNew S10 (v := fun n => .pointer (some ⟨n, 0, none⟩)) rfl (ex_alloc (zero_50 _)) (fun n11 w12 S13 => ?_)
 simp only [pS, pN, pA, pC, pZ]
 have S13 : St w F w12 F [⟨n11, [(.int .i64 0), (.int .i64 0), (.int .i64 0), (.slice none 0 0)], 50⟩, ⟨n5, [(.int .i64 0), (.int .i64 0), (.int .i64 0), (.slice none 0 0)], 50⟩, ⟨n2, [(.int .i64 g.kind), (.int .i64 g.a), (.slice x g.data.length y)], 66⟩] [] := S13
 refine stStore (i := 0) (v := (.agg #[(.int .i64 (((1 + k) : Nat) : Int)), (.int .i64 0), (.int .i64 0), (.slice none 0 0)])) S13 rfl rfl rfl rfl (size_50) (allc4 rfl rfl rfl rfl) (Nat.le_of_ble_eq_true rfl) (fun w14 S15 => ?_)
 simp only [pS, pN, pA, pC, pZ]
 have S15 : St w F w14 F [⟨n11, [(.int .i64 (((1 + k) : Nat) : Int)), (.int .i64 0), (.int .i64 0), (.slice none 0 0)], 50⟩, ⟨n5, [(.int .i64 0), (.int .i64 0), (.int .i64 0), (.slice none 0 0)], 50⟩, ⟨n2, [(.int .i64 g.kind), (.int .i64 g.a), (.slice x g.data.length y)], 66⟩] [] := S15
 refine wl_nil (hK8 _ _ ?_)
 refine wp_seq_k (fun K16 hK16 => ?_)
 refine wp_seq_k (fun K17 hK17 => region_wl ?_)
 refine do_ rfl (.pointer (some ⟨n11, 0, none⟩)) (ex_field (q := ⟨n11, 0, none⟩) rfl (fa_50_0 _ _)) ?_
 simp only [pS, pN, pA, pC, pZ]
 refine do_ rfl (.int .i64 (((1 + k) : Nat) : Int)) (ex_load rfl (load1 (nagg_3 _) (St.cell S15 (i := 0) rfl rfl))) ?_
 simp only [pS, pN, pA, pC, pZ]
 refine wl_nil (hK17 _ _ ?_)
 refine wp_block ?_
 refine wp_seq_k (fun K18 hK18 => region_wl ?_)
 by_cases hc12 : (1 + k) = 1
 ·refine do_ rfl (.bool true) (ex_eql (m := (((1 + k) : Nat) : Int)) (n := (1 : Int)) (b := true) rfl rfl (beq_iff_eq.2 (by omega))) ?_
  simp only [pS, pN, pA, pC, pZ]
  refine do_ rfl (.bool true) (ex_assign _) ?_
  simp only [pS, pN, pA, pC, pZ]
  refine wl_nil (hK18 _ _ ?_)
  refine wp_cond_true rfl ?_
  refine wp_seq_k (fun K19 hK19 => ?_)
  obtain ⟨hpau, hpbu⟩ := pick_bd g.a 8 (by omega)
  obtain ⟨u, hu⟩ : ∃ q : Nat, pick g.a 8 = (q : Int) := ⟨(pick g.a 8).toNat, (Int.toNat_of_nonneg hpau).symm⟩
  refine region_wl ?_
  refine do_ rfl (.pointer (some ⟨n2, 1, none⟩)) (ex_field (q := ⟨n2, 1, none⟩) rfl (fa_66_1 _ _)) ?_
  simp only [pS, pN, pA, pC, pZ]
  refine do_ rfl (.int .i64 g.a) (ex_load rfl (load1 (nagg_3 _) (St.cell S15 (i := 2) rfl rfl))) ?_
  simp only [pS, pN, pA, pC, pZ]
  refine stTells (v := (.int .i64 ((u : Nat) : Int))) S15 rfl (ex_fn (vs := #[(.int .i64 g.a), (.int .i64 8)]) (map2 rfl rfl) rfl (ent_9 _ _)) (hu ▸ tells_same (picked_spec g.a 8 _ (by omega) (by omega) (by omega) (by omega))) (fun w20 S21 => ?_)
  simp only [pS, pN, pA, pC, pZ]
  refine do_ rfl (.pointer (some ⟨n11, 1, none⟩)) (ex_field (q := ⟨n11, 1, none⟩) rfl (fa_50_1 _ _)) ?_
  simp only [pS, pN, pA, pC, pZ]
  refine stStore (i := 0) (v := (.int .i64 ((u : Nat) : Int))) S21 rfl rfl rfl rfl (size_3) (allc1 rfl) (Nat.le_of_ble_eq_true rfl) (fun w22 S23 => ?_)
  simp only [pS, pN, pA, pC, pZ]
  have S23 : St w F w22 F [⟨n11, [(.int .i64 (((1 + k) : Nat) : Int)), (.int .i64 ((u : Nat) : Int)), (.int .i64 0), (.slice none 0 0)], 50⟩, ⟨n5, [(.int .i64 0), (.int .i64 0), (.int .i64 0), (.slice none 0 0)], 50⟩, ⟨n2, [(.int .i64 g.kind), (.int .i64 g.a), (.slice x g.data.length y)], 66⟩] [] := S23
  refine wl_nil (hK19 _ _ ?_)
  refine region_wl ?_
  refine do_ rfl (.pointer (some ⟨n2, 2, none⟩)) (ex_field (q := ⟨n2, 2, none⟩) rfl (fa_66_2 _ _)) ?_
  simp only [pS, pN, pA, pC, pZ]
  refine do_ rfl (.slice x g.data.length y) (ex_load rfl (load1 (nagg_27 _) (St.cell S23 (i := 2) rfl rfl))) ?_
  simp only [pS, pN, pA, pC, pZ]
  refine stGives S23 rfl (ex_fn (vs := #[(.slice x g.data.length y), (.int .i64 80)]) (map2 rfl rfl) rfl (ent_46 _ _)) (some_spec _ _ _ g.data 80 (S23).sat hv (by omega) (by omega)) ?_
  intro v29 w24 F26 S25 le27 R28
  obtain ⟨xa30, xc31, rfl, _⟩ := R28.shape
  simp only [pS, pN, pA, pC, pZ]
  refine do_ rfl (.pointer (some ⟨n11, 3, none⟩)) (ex_field (q := ⟨n11, 3, none⟩) rfl (fa_50_3 _ _)) ?_
  simp only [pS, pN, pA, pC, pZ]
  refine stStore (i := 0) (v := (.slice xa30 (g.data.take 80).length xc31)) S25 rfl rfl rfl rfl (size_27) (allc1 rfl) (Nat.le_of_ble_eq_true rfl) (fun w32 S33 => ?_)
  simp only [pS, pN, pA, pC, pZ]
  have S33 : St w F w32 F26 [⟨n11, [(.int .i64 (((1 + k) : Nat) : Int)), (.int .i64 ((u : Nat) : Int)), (.int .i64 0), (.slice xa30 (g.data.take 80).length xc31)], 50⟩, ⟨n5, [(.int .i64 0), (.int .i64 0), (.int .i64 0), (.slice none 0 0)], 50⟩, ⟨n2, [(.int .i64 g.kind), (.int .i64 g.a), (.slice x g.data.length y)], 66⟩] [] := S33
  refine wl_nil (hK16 _ _ ?_)
  refine wp_seq_k (fun K34 hK34 => region_wl ?_)
  refine do_ rfl (.agg #[(.int .i64 (((1 + k) : Nat) : Int)), (.int .i64 ((u : Nat) : Int)), (.int .i64 0), (.slice xa30 (g.data.take 80).length xc31)]) (ex_load rfl (loadN (cs := [(.int .i64 (((1 + k) : Nat) : Int)), (.int .i64 ((u : Nat) : Int)), (.int .i64 0), (.slice xa30 (g.data.take 80).length xc31)]) Tryd.underlying50 rfl (size_50) (St.range S33 (i := 0) rfl 0 [(.int .i64 (((1 + k) : Nat) : Int)), (.int .i64 ((u : Nat) : Int)), (.int .i64 0), (.slice xa30 (g.data.take 80).length xc31)] (sub_range 0 rfl)))) ?_
  simp only [pS, pN, pA, pC, pZ]
  refine stStore (i := 1) (v := (.agg #[(.int .i64 (((1 + k) : Nat) : Int)), (.int .i64 ((u : Nat) : Int)), (.int .i64 0), (.slice xa30 (g.data.take 80).length xc31)])) S33 rfl rfl rfl rfl (size_50) (allc4 rfl rfl rfl rfl) (Nat.le_of_ble_eq_true rfl) (fun w35 S36 => ?_)
  simp only [pS, pN, pA, pC, pZ]
  have S36 : St w F w35 F26 [⟨n11, [(.int .i64 (((1 + k) : Nat) : Int)), (.int .i64 ((u : Nat) : Int)), (.int .i64 0), (.slice xa30 (g.data.take 80).length xc31)], 50⟩, ⟨n5, [(.int .i64 (((1 + k) : Nat) : Int)), (.int .i64 ((u : Nat) : Int)), (.int .i64 0), (.slice xa30 (g.data.take 80).length xc31)], 50⟩, ⟨n2, [(.int .i64 g.kind), (.int .i64 g.a), (.slice x g.data.length y)], 66⟩] [] := S36
  refine wl_nil (hK34 _ _ ?_)
  refine wp_ret ?_
  (try simp only [Exit.then, Exit.inBlock, ↓reduceIte, Nat.reduceEqDiff])
  refine bodyPost_ret (v := (.agg #[(.int .i64 (((1 + k) : Nat) : Int)), (.int .i64 ((u : Nat) : Int)), (.int .i64 0), (.slice xa30 (g.data.take 80).length xc31)])) ?_ rfl ?_
  ·exact res_c rfl ⟨_, rfl, loadN (cs := [(.int .i64 (((1 + k) : Nat) : Int)), (.int .i64 ((u : Nat) : Int)), (.int .i64 0), (.slice xa30 (g.data.take 80).length xc31)]) Tryd.underlying50 rfl (size_50) (St.range S36 (i := 1) rfl 0 [(.int .i64 (((1 + k) : Nat) : Int)), (.int .i64 ((u : Nat) : Int)), (.int .i64 0), (.slice xa30 (g.data.take 80).length xc31)] (sub_range 0 rfl))⟩
  ·refine ⟨_, _, rfl, S36.gr, ⟨(((1 + k) : Nat) : Int), ((u : Nat) : Int), (0 : Int), (g.data.take 80)⟩, ?_, ?_, _, _, rfl, R28⟩
   ·unfold checkA
    simp only [List.length_take, List.length_nil]
    (repeat split) <;> first | rfl | omega
   ·simp only [List.length_take, List.length_nil]; omega
 ·refine do_ rfl (.bool false) (ex_eql (m := (((1 + k) : Nat) : Int)) (n := (1 : Int)) (b := false) rfl rfl (beq_eq_false_iff_ne.2 (by omega))) ?_
  simp only [pS, pN, pA, pC, pZ]
  refine do_ rfl (.bool false) (ex_assign _) ?_
  simp only [pS, pN, pA, pC, pZ]
  refine wl_nil (hK18 _ _ ?_)
  refine wp_cond_false rfl ?_
  refine wp_seq_k (fun K37 hK37 => region_wl ?_)
  by_cases hc22 : (1 + k) = 3
  ·refine do_ rfl (.bool true) (ex_eql (m := (((1 + k) : Nat) : Int)) (n := (3 : Int)) (b := true) rfl rfl (beq_iff_eq.2 (by omega))) ?_
   simp only [pS, pN, pA, pC, pZ]
   refine do_ rfl (.bool true) (ex_assign _) ?_
   simp only [pS, pN, pA, pC, pZ]
   refine wl_nil (hK37 _ _ ?_)
   refine wp_cond_true rfl ?_
   obtain ⟨hpan, hpbn⟩ := pick_bd g.a 1000 (by omega)
   obtain ⟨n, hn⟩ : ∃ q : Nat, pick g.a 1000 = (q : Int) := ⟨(pick g.a 1000).toNat, (Int.toNat_of_nonneg hpan).symm⟩
   refine region_wl ?_
   refine do_ rfl (.pointer (some ⟨n2, 1, none⟩)) (ex_field (q := ⟨n2, 1, none⟩) rfl (fa_66_1 _ _)) ?_
   simp only [pS, pN, pA, pC, pZ]
   refine do_ rfl (.int .i64 g.a) (ex_load rfl (load1 (nagg_3 _) (St.cell S15 (i := 2) rfl rfl))) ?_
   simp only [pS, pN, pA, pC, pZ]
   refine stTells (v := (.int .i64 ((n : Nat) : Int))) S15 rfl (ex_fn (vs := #[(.int .i64 g.a), (.int .i64 1000)]) (map2 rfl rfl) rfl (ent_9 _ _)) (hn ▸ tells_same (picked_spec g.a 1000 _ (by omega) (by omega) (by omega) (by omega))) (fun w38 S39 => ?_)
   simp only [pS, pN, pA, pC, pZ]
   refine do_ rfl (.pointer (some ⟨n11, 2, none⟩)) (ex_field (q := ⟨n11, 2, none⟩) rfl (fa_50_2 _ _)) ?_
   simp only [pS, pN, pA, pC, pZ]
   refine stStore (i := 0) (v := (.int .i64 ((n : Nat) : Int))) S39 rfl rfl rfl rfl (size_3) (allc1 rfl) (Nat.le_of_ble_eq_true rfl) (fun w40 S41 => ?_)
   simp only [pS, pN, pA, pC, pZ]
   have S41 : St w F w40 F [⟨n11, [(.int .i64 (((1 + k) : Nat) : Int)), (.int .i64 0), (.int .i64 ((n : Nat) : Int)), (.slice none 0 0)], 50⟩, ⟨n5, [(.int .i64 0), (.int .i64 0), (.int .i64 0), (.slice none 0 0)], 50⟩, ⟨n2, [(.int .i64 g.kind), (.int .i64 g.a), (.slice x g.data.length y)], 66⟩] [] := S41
   refine wl_nil (hK16 _ _ ?_)
   refine wp_seq_k (fun K42 hK42 => region_wl ?_)
   refine do_ rfl (.agg #[(.int .i64 (((1 + k) : Nat) : Int)), (.int .i64 0), (.int .i64 ((n : Nat) : Int)), (.slice none 0 0)]) (ex_load rfl (loadN (cs := [(.int .i64 (((1 + k) : Nat) : Int)), (.int .i64 0), (.int .i64 ((n : Nat) : Int)), (.slice none 0 0)]) Tryd.underlying50 rfl (size_50) (St.range S41 (i := 0) rfl 0 [(.int .i64 (((1 + k) : Nat) : Int)), (.int .i64 0), (.int .i64 ((n : Nat) : Int)), (.slice none 0 0)] (sub_range 0 rfl)))) ?_
   simp only [pS, pN, pA, pC, pZ]
   refine stStore (i := 1) (v := (.agg #[(.int .i64 (((1 + k) : Nat) : Int)), (.int .i64 0), (.int .i64 ((n : Nat) : Int)), (.slice none 0 0)])) S41 rfl rfl rfl rfl (size_50) (allc4 rfl rfl rfl rfl) (Nat.le_of_ble_eq_true rfl) (fun w43 S44 => ?_)
   simp only [pS, pN, pA, pC, pZ]
   have S44 : St w F w43 F [⟨n11, [(.int .i64 (((1 + k) : Nat) : Int)), (.int .i64 0), (.int .i64 ((n : Nat) : Int)), (.slice none 0 0)], 50⟩, ⟨n5, [(.int .i64 (((1 + k) : Nat) : Int)), (.int .i64 0), (.int .i64 ((n : Nat) : Int)), (.slice none 0 0)], 50⟩, ⟨n2, [(.int .i64 g.kind), (.int .i64 g.a), (.slice x g.data.length y)], 66⟩] [] := S44
   refine wl_nil (hK42 _ _ ?_)
   refine wp_ret ?_
   (try simp only [Exit.then, Exit.inBlock, ↓reduceIte, Nat.reduceEqDiff])
   refine bodyPost_ret (v := (.agg #[(.int .i64 (((1 + k) : Nat) : Int)), (.int .i64 0), (.int .i64 ((n : Nat) : Int)), (.slice none 0 0)])) ?_ rfl ?_
   ·exact res_c rfl ⟨_, rfl, loadN (cs := [(.int .i64 (((1 + k) : Nat) : Int)), (.int .i64 0), (.int .i64 ((n : Nat) : Int)), (.slice none 0 0)]) Tryd.underlying50 rfl (size_50) (St.range S44 (i := 1) rfl 0 [(.int .i64 (((1 + k) : Nat) : Int)), (.int .i64 0), (.int .i64 ((n : Nat) : Int)), (.slice none 0 0)] (sub_range 0 rfl))⟩
   ·refine ⟨_, _, rfl, S44.gr, ⟨(((1 + k) : Nat) : Int), (0 : Int), ((n : Nat) : Int), []⟩, ?_, ?_, _, _, rfl, (Bs.nil _)⟩
    ·unfold checkA
     simp only [List.length_take, List.length_nil]
     (repeat split) <;> first | rfl | omega
    ·simp only [List.length_take, List.length_nil]; omega
  ·refine do_ rfl (.bool false) (ex_eql (m := (((1 + k) : Nat) : Int)) (n := (3 : Int)) (b := false) rfl rfl (beq_eq_false_iff_ne.2 (by omega))) ?_
   simp only [pS, pN, pA, pC, pZ]
   refine do_ rfl (.bool false) (ex_assign _) ?_
   simp only [pS, pN, pA, pC, pZ]
   refine wl_nil (hK37 _ _ ?_)
   refine wp_cond_false rfl ?_
   refine wp_skip ?_
   refine hK16 _ _ ?_
   refine wp_seq_k (fun K45 hK45 => region_wl ?_)
   refine do_ rfl (.agg #[(.int .i64 (((1 + k) : Nat) : Int)), (.int .i64 0), (.int .i64 0), (.slice none 0 0)]) (ex_load rfl (loadN (cs := [(.int .i64 (((1 + k) : Nat) : Int)), (.int .i64 0), (.int .i64 0), (.slice none 0 0)]) Tryd.underlying50 rfl (size_50) (St.range S15 (i := 0) rfl 0 [(.int .i64 (((1 + k) : Nat) : Int)), (.int .i64 0), (.int .i64 0), (.slice none 0 0)] (sub_range 0 rfl)))) ?_
   simp only [pS, pN, pA, pC, pZ]
   refine stStore (i := 1) (v := (.agg #[(.int .i64 (((1 + k) : Nat) : Int)), (.int .i64 0), (.int .i64 0), (.slice none 0 0)])) S15 rfl rfl rfl rfl (size_50) (allc4 rfl rfl rfl rfl) (Nat.le_of_ble_eq_true rfl) (fun w46 S47 => ?_)
   simp only [pS, pN, pA, pC, pZ]
   have S47 : St w F w46 F [⟨n11, [(.int .i64 (((1 + k) : Nat) : Int)), (.int .i64 0), (.int .i64 0), (.slice none 0 0)], 50⟩, ⟨n5, [(.int .i64 (((1 + k) : Nat) : Int)), (.int .i64 0), (.int .i64 0), (.slice none 0 0)], 50⟩, ⟨n2, [(.int .i64 g.kind), (.int .i64 g.a), (.slice x g.data.length y)], 66⟩] [] := S47
   refine wl_nil (hK45 _ _ ?_)
   refine wp_ret ?_
   (try simp only [Exit.then, Exit.inBlock, ↓reduceIte, Nat.reduceEqDiff])
   refine bodyPost_ret (v := (.agg #[(.int .i64 (((1 + k) : Nat) : Int)), (.int .i64 0), (.int .i64 0), (.slice none 0 0)])) ?_ rfl ?_
   ·exact res_c rfl ⟨_, rfl, loadN (cs := [(.int .i64 (((1 + k) : Nat) : Int)), (.int .i64 0), (.int .i64 0), (.slice none 0 0)]) Tryd.underlying50 rfl (size_50) (St.range S47 (i := 1) rfl 0 [(.int .i64 (((1 + k) : Nat) : Int)), (.int .i64 0), (.int .i64 0), (.slice none 0 0)] (sub_range 0 rfl))⟩
   ·refine ⟨_, _, rfl, S47.gr, ⟨(((1 + k) : Nat) : Int), (0 : Int), (0 : Int), []⟩, ?_, ?_, _, _, rfl, (Bs.nil _)⟩
    ·unfold checkA
     simp only [List.length_take, List.length_nil]
     (repeat split) <;> first | rfl | omega
    ·simp only [List.length_take, List.length_nil]; omega
end Go.Proofs.YtajmjolgphadoaaDoor
