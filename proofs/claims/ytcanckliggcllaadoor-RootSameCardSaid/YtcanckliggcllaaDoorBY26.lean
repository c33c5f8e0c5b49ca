/- Rules, plain laws and walks: DG5 RT1 RT2 TD -/
import Derived.Test.YtcanckliggcllaaDoorBY25
import Derived.Test.YtcanckliggcllaaDoorBY23
import Derived.Test.YtcanckliggcllaaDoorBY21
import Derived.Test.YtcanckliggcllaaDoorBY24
namespace Go.Proofs.YtcanckliggcllaaDoor
open Go.RowKit
set_option maxRecDepth 100000
set_option linter.unusedVariables false
set_option linter.unusedSimpArgs false
/-- A slice of byte slices. -/
def LsC (F : Fz) (cs : List Value) (p : By) : Prop := ∃ a, cs = [a] ∧ Bs F a p
theorem LsC.mono (F F' : Fz) (x : List Value) (p : By) (hl : Le F F') (h : LsC F x p) : LsC F' x p := by
  obtain ⟨a, h1, h2⟩ := h
  exact ⟨a, h1, h2.mono hl⟩
abbrev Lss (F : Fz) (v : Value) (l : List By) : Prop := Sl 1 LsC F v l
theorem Lss.get {F : Fz} {a : Option Addr} {n c : Nat} {l : List By} (h : Lss F (.slice a n c) l) {i : Nat} {p : By} (hp : l[i]? = some p) :
    ∃ b o, a = some ⟨b, o, none⟩ ∧ ∃ xa xc, cellF F b (o + i * 1) = some (.slice xa p.length xc) ∧ Bs F (.slice xa p.length xc) p := by
  obtain ⟨hi, rfl⟩ := List.getElem?_eq_some_iff.1 hp
  have hn := h.len
  obtain ⟨b, o, e, h1⟩ := Sl.at h (by omega) (by omega)
  obtain ⟨cs, q1, ⟨x, rfl, r1⟩, q4⟩ := h1 i hi
  obtain ⟨xa, xc, rfl, _⟩ := r1.shape
  exact ⟨b, o, e, xa, xc, by have := q4 0 (by simp); simpa using this, r1⟩
theorem Lss.mono {F F' : Fz} {v : Value} {l : List By} (h : Lss F v l) (hl : Le F F') : Lss F' v l := Sl.mono LsC.mono h hl
def SumR (b : By) (e : Int) (F : Fz) (u : Value) : Prop := ∃ x, u = .tuple #[x, .int .i64 e] ∧ Bs F x b
theorem partB_eq (p : By) (h : p.length < 65536) : partB p = b8 (p.length / 256) :: b8 p.length :: p := by
  unfold partB b8
  congr 2
  apply UInt8.toNat_inj.1; simp
theorem partB_len (p : By) : (partB p).length = 2 + p.length := by simp [partB]; omega
theorem parts_step {k : UInt8} {ps : List By} {i : Nat} {p : By} (hp : ps[i]? = some p) (h : p.length < 65536) : ((k :: (ps.take i).flatMap partB) ++ [b8 (p.length / 256), b8 p.length]) ++ p = k :: (ps.take (i + 1)).flatMap partB := by
  rw [take_snoc hp, List.flatMap_append]
  simp [partB_eq p h]
theorem parts_len {ps : List By} (i : Nat) : ((ps.take i).flatMap partB).length ≤ (ps.flatMap partB).length := by
  conv => rhs; rw [← List.take_append_drop i ps, List.flatMap_append, List.length_append]
  omega
theorem parts_at {ps : List By} {i : Nat} {p : By} (hp : ps[i]? = some p) : ((ps.take i).flatMap partB).length + 2 + p.length ≤ (ps.flatMap partB).length := by
  have := parts_len (ps := ps) (i + 1)
  rw [take_snoc hp, List.flatMap_append, List.length_append] at this
  simp only [List.flatMap_cons, List.flatMap_nil, List.append_nil, partB_len] at this
  omega
set_option maxHeartbeats 8000000 in
theorem Parts_spec (F : Fz) (w : World) (v : Value) (kd : UInt8) (ps : List By) (hs : Sat w F) (hT : Tabs w) (hp : Lss F v ps) (hn : (ps.flatMap partB).length ≤ 3999) :
    Calls Tryd.prog 20 #[bv kd, v] w (Gives w F (SumR (partsL kd ps) 0)) := by
 obtain ⟨x, y, rfl, hc1', hc2'⟩ := Sl.shape hp
 unfold maxLen at hc2'
 obtain ⟨i5, hi5, hz5, hs5, hb5⟩ := info_parts infoU8
 have S := St.start hs
 go_enter Tryd.func20, Tryd.ntmps20
 refine wp_seq_k (fun K1 hK1 => region_wl ?_)
 refine do_ rfl (.slice none 0 0) (ex_assign _) ?_
 simp only [pS, pN, pA, pC, pZ]
 refine do_ rfl (.int .i64 0) (ex_assign _) ?_
 simp only [pS, pN, pA, pC, pZ]
 refine wl_nil (hK1 _ _ ?_)
 refine wp_seq_k (fun K2 hK2 => region_wl ?_)
 refine do_ rfl (bv kd) (ex_move _) ?_
 simp only [pS, pN, pA, pC, pZ]
 refine stNew S (v := fun n => .slice (some ⟨n, 0, none⟩) 1 1) rfl (ex_lit (ps := #[(0, (bv kd))]) (cells := #[(bv kd)]) (E := 5) (bmap1 rfl) (fun w => by kernel_rfl)) (fun n3 w4 S5 => ?_)
 simp only [pS, pN, pA, pC, pZ]
 have S5 : St w F w4 F [⟨n3, [(bv kd)], 5⟩] [] := S5
 refine do_ rfl (.slice (some ⟨n3, 0, none⟩) 1 1) (ex_assign _) ?_
 simp only [pS, pN, pA, pC, pZ]
 refine wl_nil (hK2 _ _ ?_)
 refine wp_seq_k (fun K6 hK6 => ?_)
 refine wp_seq_k (fun K7 hK7 => region_wl ?_)
 refine do_ rfl (.slice x ps.length y) (ex_move _) ?_
 simp only [pS, pN, pA, pC, pZ]
 refine do_ rfl (.int .i64 ((ps.length : Nat) : Int)) (ex_len Tryd.underlying76 rfl) ?_
 simp only [pS, pN, pA, pC, pZ]
 refine do_ rfl (.int .i64 0) (ex_move _) ?_
 simp only [pS, pN, pA, pC, pZ]
 refine wl_nil (hK7 _ _ ?_)
 refine wp_block ?_
 have S8 : St w F w4 F [] [ownP 1 ByC ByC.mono 5 w.heap.size (.slice (some ⟨n3, 0, none⟩) 1 1) [kd]] := St.blkRow (k := 1) (l := [kd]) (el := [[bv kd]]) (hR := ByC.mono) S5 rfl ⟨rfl, trivial⟩ (by simp) rfl (by simp) (by unfold maxLen; decide) (S5.blk _ (List.mem_cons_self ..)).2.2
 have S8 : St w F w4 F [] [ownP 1 ByC ByC.mono 5 w.heap.size (.slice (some ⟨n3, 0, none⟩) 1 1) (kd :: (ps.take 0).flatMap partB)] := S8
 refine wp_loop_g (fun mm aa w11 => ∃ (k : Nat) (v : Value) (F9 : Fz) (u10 : Nat → Value), mm = ps.length - k ∧ u10 = slots aa ∧ aa = ⟨#[(bv kd), (.slice x ps.length y), undef, undef, (u10 4), (u10 5), v, undef, (u10 8), (bv kd), (.slice (some ⟨n3, 0, none⟩) 1 1), (.slice x ps.length y), (.int .i64 ((ps.length : Nat) : Int)), (.int .i64 ((k : Nat) : Int)), (u10 14), (u10 15), (u10 16), (u10 17), (u10 18), (u10 19), (u10 20), (u10 21), (u10 22), (u10 23), (u10 24), (u10 25), (u10 26), (u10 27), (u10 28), (u10 29), (u10 30), (u10 31), (u10 32), (u10 33), (u10 34), (u10 35), (u10 36), (u10 37), (u10 38), (u10 39), (u10 40), (u10 41), undef, undef], []⟩ ∧ St w F w11 F9 [] [ownP 1 ByC ByC.mono 5 w.heap.size v (kd :: (ps.take k).flatMap partB)] ∧ Le F F9 ∧ (k ≤ ps.length)) _ ⟨0, (.slice (some ⟨n3, 0, none⟩) 1 1), F, _, rfl, rfl, rfl, S8, Le.refl _, (by omega)⟩ ?_
 rintro m12 a13 w14 ⟨k, v, F9, u10, rfl, -, rfl, S15, le16, hk⟩ K17 hK17
 refine wp_seq_k (fun K18 hK18 => region_wl ?_)
 by_cases hc14 : k < ps.length
 ·refine do_ rfl (.bool true) (ex_lss (m := ((k : Nat) : Int)) (n := ((ps.length : Nat) : Int)) (b := true) rfl rfl (decide_eq_true (by omega))) ?_
  simp only [pS, pN, pA, pC, pZ]
  refine wl_nil (hK18 _ _ ?_)
  refine wp_seq_k (fun K19 hK19 => ?_)
  refine wp_cond_true rfl ?_
  refine wp_skip ?_
  refine hK19 _ _ ?_
  refine wp_seq_k (fun K20 hK20 => ?_)
  refine wp_block ?_
  refine wp_seq_k (fun K21 hK21 => ?_)
  obtain ⟨p, hp1⟩ : ∃ p, ps[k]? = some p := ⟨ps[k], List.getElem?_eq_getElem hc14⟩
  have hat := parts_at hp1
  obtain ⟨b22, o23, ha24, xa25, xc26, c27, r28⟩ := Lss.get (hp.mono le16) hp1
  refine region_wl ?_
  refine do_ rfl (.pointer (some ⟨b22, o23 + k * 1, none⟩)) (ex_at (i := k) (sz := 1) Tryd.underlying76 (sizeof_22 _) rfl ha24 rfl (by omega) rfl) ?_
  simp only [pS, pN, pA, pC, pZ]
  refine do_ rfl (.slice xa25 p.length xc26) (ex_load rfl (load1 (nagg_22 _) (St.fz S15 c27))) ?_
  simp only [pS, pN, pA, pC, pZ]
  refine do_ rfl (.slice xa25 p.length xc26) (ex_assign _) ?_
  simp only [pS, pN, pA, pC, pZ]
  refine wl_nil (hK21 _ _ ?_)
  refine wp_seq_k (fun K29 hK29 => ?_)
  refine wp_seq_k (fun K30 hK30 => ?_)
  obtain ⟨a31, cap32, rfl, h33, h34⟩ := (S15.own (i := 0) rfl).shape
  unfold maxLen at h34
  have hlen : (kd :: (ps.take k).flatMap partB).length = 1 + ((ps.take k).flatMap partB).length := by rw [List.length_cons]; omega
  refine region_wl ?_
  refine do_ rfl (.slice xa25 p.length xc26) (ex_move _) ?_
  simp only [pS, pN, pA, pC, pZ]
  refine do_ rfl (.int .i64 ((p.length : Nat) : Int)) (ex_len Tryd.underlying22 rfl) ?_
  simp only [pS, pN, pA, pC, pZ]
  refine do_ rfl (.bool false) (ex_gtr (m := ((p.length : Nat) : Int)) (n := (4000 : Int)) (b := false) rfl rfl (decide_eq_false (by omega))) ?_
  simp only [pS, pN, pA, pC, pZ]
  refine do_ rfl (.bool false) (ex_move _) ?_
  simp only [pS, pN, pA, pC, pZ]
  refine do_ rfl (.slice a31 (kd :: (ps.take k).flatMap partB).length cap32) (ex_move _) ?_
  simp only [pS, pN, pA, pC, pZ]
  refine do_ rfl (.int .i64 (((kd :: (ps.take k).flatMap partB).length : Nat) : Int)) (ex_len Tryd.underlying22 rfl) ?_
  simp only [pS, pN, pA, pC, pZ]
  refine do_ rfl (.int .i64 ((((kd :: (ps.take k).flatMap partB).length + 2) : Nat) : Int)) (ex_add (m := (((kd :: (ps.take k).flatMap partB).length : Nat) : Int)) (n := (2 : Int)) (r := ((((kd :: (ps.take k).flatMap partB).length + 2) : Nat) : Int)) rfl rfl (by omega) (by omega) (by omega)) ?_
  simp only [pS, pN, pA, pC, pZ]
  refine do_ rfl (.slice xa25 p.length xc26) (ex_move _) ?_
  simp only [pS, pN, pA, pC, pZ]
  refine do_ rfl (.int .i64 ((p.length : Nat) : Int)) (ex_len Tryd.underlying22 rfl) ?_
  simp only [pS, pN, pA, pC, pZ]
  refine do_ rfl (.int .i64 (((((kd :: (ps.take k).flatMap partB).length + 2) + p.length) : Nat) : Int)) (ex_add (m := ((((kd :: (ps.take k).flatMap partB).length + 2) : Nat) : Int)) (n := ((p.length : Nat) : Int)) (r := (((((kd :: (ps.take k).flatMap partB).length + 2) + p.length) : Nat) : Int)) rfl rfl (by omega) (by omega) (by omega)) ?_
  simp only [pS, pN, pA, pC, pZ]
  refine do_ rfl (.bool false) (ex_gtr (m := (((((kd :: (ps.take k).flatMap partB).length + 2) + p.length) : Nat) : Int)) (n := (4000 : Int)) (b := false) rfl rfl (decide_eq_false (by omega))) ?_
  simp only [pS, pN, pA, pC, pZ]
  refine do_ rfl (.bool false) (ex_pick (b := false) rfl) ?_
  simp only [pS, pN, pA, pC, pZ]
  refine wl_nil (hK30 _ _ ?_)
  refine wp_cond_false rfl ?_
  refine wp_skip ?_
  refine hK29 _ _ ?_
  refine region_wl ?_
  refine do_ rfl (.slice a31 (kd :: (ps.take k).flatMap partB).length cap32) (ex_move _) ?_
  simp only [pS, pN, pA, pC, pZ]
  refine do_ rfl (.slice xa25 p.length xc26) (ex_move _) ?_
  simp only [pS, pN, pA, pC, pZ]
  refine do_ rfl (.int .i64 ((p.length : Nat) : Int)) (ex_len Tryd.underlying22 rfl) ?_
  simp only [pS, pN, pA, pC, pZ]
  refine do_ rfl (.int .i64 (((p.length / 256) : Nat) : Int)) (ex_shrN (m := p.length) (n := 8) rfl rfl (by decide)) ?_
  simp only [pS, pN, pA, pC, pZ]
  refine do_ rfl (bv (b8 (p.length / 256))) (ex_convert (v := (.int .i64 (((p.length / 256) : Nat) : Int))) rfl (conv_b8 (p.length / 256) _)) ?_
  simp only [pS, pN, pA, pC, pZ]
  refine do_ rfl (.slice xa25 p.length xc26) (ex_move _) ?_
  simp only [pS, pN, pA, pC, pZ]
  refine do_ rfl (.int .i64 ((p.length : Nat) : Int)) (ex_len Tryd.underlying22 rfl) ?_
  simp only [pS, pN, pA, pC, pZ]
  refine do_ rfl (bv (b8 p.length)) (ex_convert (v := (.int .i64 ((p.length : Nat) : Int))) rfl (conv_b8 p.length _)) ?_
  simp only [pS, pN, pA, pC, pZ]
  refine stNew S15 (v := fun n => .slice (some ⟨n, 0, none⟩) 2 2) rfl (ex_lit (ps := #[(0, (bv (b8 (p.length / 256)))), (1, (bv (b8 p.length)))]) (cells := #[(bv (b8 (p.length / 256))), (bv (b8 p.length))]) (E := 5) (bmap2 rfl rfl) (fun w => by kernel_rfl)) (fun n35 w36 S37 => ?_)
  simp only [pS, pN, pA, pC, pZ]
  have S37 : St w F w36 F9 [⟨n35, [(bv (b8 (p.length / 256))), (bv (b8 p.length))], 5⟩] [ownP 1 ByC ByC.mono 5 w.heap.size (.slice a31 (kd :: (ps.take k).flatMap partB).length cap32) (kd :: (ps.take k).flatMap partB)] := S37
  obtain ⟨S38, le39, hc40⟩ := St.freezeBlk S37 (i := 0) rfl
  have r42 : Bs _ (.slice (some ⟨n35, 0, none⟩) 2 2) ([(b8 (p.length / 256)), (b8 p.length)] : By) := bs_of_block (l := ([(b8 (p.length / 256)), (b8 p.length)] : By)) hc40 rfl (by unfold maxLen; simp)
  generalize addF F9 w36 n35 = F41 at *
  have S38 : St w F w36 F41 [] [ownP 1 ByC ByC.mono 5 w.heap.size (.slice a31 (kd :: (ps.take k).flatMap partB).length cap32) (kd :: (ps.take k).flatMap partB)] := S38
  refine stAppendS (r := 0) (u := (.slice (some ⟨n35, 0, none⟩) 2 2)) S38 rfl i5 (.int .u8 0) 1 Tryd.underlying22 hi5 hz5 hs5 hb5 rfl (by decide) rfl rfl rfl (Sl.toW (Bs.sl r42) (S38).sat) ByC.one (Nat.le_refl _) S38.gr.below.size (by unfold maxLen; simp only [List.length_append, List.length_cons, List.length_nil]; omega) (by simp only [List.length_append, List.length_cons, List.length_nil]; omega) ?_
  intro v43 w44 S45 hn46
  simp only [pS, pN, pA, pC, pZ]
  have S45 : St w F w44 F41 [] [ownP 1 ByC ByC.mono 5 w.heap.size v43 ((kd :: (ps.take k).flatMap partB) ++ ([(b8 (p.length / 256)), (b8 p.length)] : By))] := S45
  refine do_ rfl (.slice xa25 p.length xc26) (ex_move _) ?_
  simp only [pS, pN, pA, pC, pZ]
  refine stAppendS (r := 0) (u := (.slice xa25 p.length xc26)) S45 rfl i5 (.int .u8 0) 1 Tryd.underlying22 hi5 hz5 hs5 hb5 rfl (by decide) rfl rfl rfl (Sl.toW (Bs.sl (r28.mono le39)) (S45).sat) ByC.one (Nat.le_refl _) S45.gr.below.size (by unfold maxLen; simp only [List.length_append, List.length_cons, List.length_nil]; omega) (by simp only [List.length_append, List.length_cons, List.length_nil]; omega) ?_
  intro v47 w48 S49 hn50
  simp only [pS, pN, pA, pC, pZ]
  have S49 : St w F w48 F41 [] [ownP 1 ByC ByC.mono 5 w.heap.size v47 (((kd :: (ps.take k).flatMap partB) ++ ([(b8 (p.length / 256)), (b8 p.length)] : By)) ++ p)] := S49
  refine do_ rfl v47 (ex_assign _) ?_
  simp only [pS, pN, pA, pC, pZ]
  refine wl_nil (hK20 _ _ ?_)
  refine region_wl ?_
  refine do_ rfl (.int .i64 (((k + 1) : Nat) : Int)) (ex_add (m := ((k : Nat) : Int)) (n := (1 : Int)) (r := (((k + 1) : Nat) : Int)) rfl rfl (by omega) (by omega) (by omega)) ?_
  simp only [pS, pN, pA, pC, pZ]
  refine do_ rfl (.int .i64 (((k + 1) : Nat) : Int)) (ex_move _) ?_
  simp only [pS, pN, pA, pC, pZ]
  refine wl_nil ?_
  rw [parts_step hp1 (by omega)] at S49
  exact hK17 _ _ _ (by omega) ⟨(k + 1), v47, F41, _, rfl, rfl, rfl, S49, (le16.trans le39), (by omega)⟩
 ·refine do_ rfl (.bool false) (ex_lss (m := ((k : Nat) : Int)) (n := ((ps.length : Nat) : Int)) (b := false) rfl rfl (decide_eq_false (by omega))) ?_
  simp only [pS, pN, pA, pC, pZ]
  refine wl_nil (hK18 _ _ ?_)
  refine wp_seq_k (fun K51 hK51 => ?_)
  refine wp_cond_false rfl ?_
  refine wp_exit ?_
  refine hK6 _ _ ?_
  refine wp_seq_k (fun K52 hK52 => ?_)
  have hend : ps.take k = ps := List.take_of_length_le (by omega)
  rw [hend] at S15
  have S15 : St w F w14 F9 [] [ownP 1 ByC ByC.mono 5 w.heap.size v (partsB kd ps)] := S15
  obtain ⟨a53, cap54, rfl, h55, h56⟩ := (S15.own (i := 0) rfl).shape
  unfold maxLen at h56
  obtain ⟨F57, S58, le59, hv60⟩ := St.freeze S15 (i := 0) rfl (Nat.le_refl _)
  have S58 : St w F w14 F57 [] [] := S58
  have hv60 : Bys _ (.slice a53 (partsB kd ps).length cap54) (partsB kd ps) := hv60
  have r61 := bs_of_sl hv60
  have hpl : (partsB kd ps).length = 1 + (ps.flatMap partB).length := by unfold partsB; rw [List.length_cons]; omega
  refine region_wl ?_
  refine do_ rfl (.slice a53 (partsB kd ps).length cap54) (ex_move _) ?_
  simp only [pS, pN, pA, pC, pZ]
  refine stGives S58 rfl (ex_fn (vs := #[(.slice a53 (partsB kd ps).length cap54)]) (map1 rfl) rfl (ent_36 _ _)) (sum_spec _ _ _ (partsB kd ps) (S58).sat (hT.at S58.gr.below) r61 (by omega)) ?_
  intro v67 w62 F64 S63 le65 R66
  obtain ⟨xa68, xc69, rfl, _⟩ := R66.shape
  simp only [pS, pN, pA, pC, pZ]
  refine do_ rfl (.slice xa68 (sumL (partsB kd ps)).length xc69) (ex_assign _) ?_
  simp only [pS, pN, pA, pC, pZ]
  refine do_ rfl (.int .i64 0) (ex_assign _) ?_
  simp only [pS, pN, pA, pC, pZ]
  refine wl_nil (hK52 _ _ ?_)
  refine wp_ret ?_
  (try simp only [Exit.then, Exit.inBlock, ↓reduceIte, Nat.reduceEqDiff])
  refine bodyPost_ret (v := (.tuple #[(.slice xa68 (sumL (partsB kd ps)).length xc69), (.int .i64 0)])) ?_ rfl ?_
  ·exact res_tt rfl rfl rfl
  ·exact ⟨_, _, rfl, S63.gr, _, rfl, R66⟩
end Go.Proofs.YtcanckliggcllaaDoor
namespace Go.Proofs.YtcanckliggcllaaDoor
open Go.RowKit
set_option maxRecDepth 100000
set_option linter.unusedVariables false
set_option linter.unusedSimpArgs false
theorem bs_app {F : Fz} {v : Value} {l m : By} (h : Bs F v l) (e : l = m) : Bs F v m := e ▸ h
set_option maxHeartbeats 8000000 in
theorem leaf_spec (F : Fz) (w : World) (v : Value) (p : Pr) (hs : Sat w F) (hT : Tabs w) (hv : Pr2V F v p) (hk : p.1.length ≤ 1000) (hx : p.2.length ≤ 1000) :
    Calls Tryd.prog 54 #[v] w (Gives w F fun F' u => Bs F' u (leafT p)) := by
 obtain ⟨x0, y0, x1, y1, rfl, h0, h1⟩ := hv
 have S := St.start hs
 go_enter Tryd.func54, Tryd.ntmps54
 refine wp_seq_k (fun K1 hK1 => region_wl ?_)
 refine stNew S (v := fun n => .pointer (some ⟨n, 0, none⟩)) rfl (ex_box (v := (.agg #[(.slice x0 p.1.length y0), (.slice x1 p.2.length y1)])) rfl) (fun n2 w3 S4 => ?_)
 simp only [pS, pN, pA, pC, pZ]
 have S4 : St w F w3 F [⟨n2, [(.slice x0 p.1.length y0), (.slice x1 p.2.length y1)], 38⟩] [] := S4
 refine do_ rfl (.slice none 0 0) (ex_assign _) ?_
 simp only [pS, pN, pA, pC, pZ]
 refine wl_nil (hK1 _ _ ?_)
 refine wp_seq_k (fun K5 hK5 => region_wl ?_)
 refine do_ rfl (.pointer (some ⟨n2, 0, none⟩)) (ex_field (q := ⟨n2, 0, none⟩) rfl (fa_38_0 _ _)) ?_
 simp only [pS, pN, pA, pC, pZ]
 refine do_ rfl (.slice x0 p.1.length y0) (ex_load rfl (load1 (nagg_22 _) (St.cell S4 (i := 0) rfl rfl))) ?_
 simp only [pS, pN, pA, pC, pZ]
 refine do_ rfl (.pointer (some ⟨n2, 1, none⟩)) (ex_field (q := ⟨n2, 1, none⟩) rfl (fa_38_1 _ _)) ?_
 simp only [pS, pN, pA, pC, pZ]
 refine do_ rfl (.slice x1 p.2.length y1) (ex_load rfl (load1 (nagg_22 _) (St.cell S4 (i := 0) rfl rfl))) ?_
 simp only [pS, pN, pA, pC, pZ]
 refine stNew S4 (v := fun n => .slice (some ⟨n, 0, none⟩) 2 2) rfl (ex_lit (ps := #[(0, (.slice x0 p.1.length y0)), (1, (.slice x1 p.2.length y1))]) (cells := #[(.slice x0 p.1.length y0), (.slice x1 p.2.length y1)]) (E := 22) (bmap2 rfl rfl) (fun w => by kernel_rfl)) (fun n6 w7 S8 => ?_)
 simp only [pS, pN, pA, pC, pZ]
 have S8 : St w F w7 F [⟨n6, [(.slice x0 p.1.length y0), (.slice x1 p.2.length y1)], 22⟩, ⟨n2, [(.slice x0 p.1.length y0), (.slice x1 p.2.length y1)], 38⟩] [] := S8
 obtain ⟨S9, le10, hc11⟩ := St.freezeBlk S8 (i := 0) rfl
 have r13 : Lss _ (.slice (some ⟨n6, 0, none⟩) 2 2) ([p.1, p.2] : List By) := sl_of_block (R := LsC) (l := ([p.1, p.2] : List By)) (el := [[(.slice x0 p.1.length y0)], [(.slice x1 p.2.length y1)]]) hc11 rfl ⟨⟨_, rfl, (h0.mono le10)⟩, ⟨_, rfl, (h1.mono le10)⟩, trivial⟩ (by simp) (by unfold maxLen; simp)
 generalize addF F w7 n6 = F12 at *
 have S9 : St w F w7 F12 [⟨n2, [(.slice x0 p.1.length y0), (.slice x1 p.2.length y1)], 38⟩] [] := S9
 refine stGives S9 rfl (ex_fn (vs := #[(.int .u8 1), (.slice (some ⟨n6, 0, none⟩) 2 2)]) (map2 rfl rfl) rfl (ent_20 _ _)) (Parts_spec _ _ _ 1 [p.1, p.2] (S9).sat (hT.at S9.gr.below) r13 (by simp [partB_len]; omega)) ?_
 intro v19 w14 F16 S15 le17 R18
 obtain ⟨x20, rfl, r21⟩ := R18
 obtain ⟨xa22, xc23, rfl, _⟩ := r21.shape
 have r21 : Bs _ (.slice xa22 (leafT p).length xc23) (leafT p) := r21
 simp only [pS, pN, pA, pC, pZ]
 refine do_ rfl (.tuple #[(.slice xa22 (leafT p).length xc23), (.int .i64 0)]) (ex_move _) ?_
 simp only [pS, pN, pA, pC, pZ]
 refine do_ rfl (.slice xa22 (leafT p).length xc23) (ex_extract rfl rfl) ?_
 simp only [pS, pN, pA, pC, pZ]
 refine do_ rfl (.int .i64 0) (ex_extract rfl rfl) ?_
 simp only [pS, pN, pA, pC, pZ]
 refine do_ rfl (.slice xa22 (leafT p).length xc23) (ex_assign _) ?_
 simp only [pS, pN, pA, pC, pZ]
 refine do_ rfl (.int .i64 0) (ex_assign _) ?_
 simp only [pS, pN, pA, pC, pZ]
 refine wl_nil (hK5 _ _ ?_)
 refine wp_seq_k (fun K24 hK24 => region_wl ?_)
 refine do_ rfl (.slice xa22 (leafT p).length xc23) (ex_move _) ?_
 simp only [pS, pN, pA, pC, pZ]
 refine do_ rfl (.slice xa22 (leafT p).length xc23) (ex_assign _) ?_
 simp only [pS, pN, pA, pC, pZ]
 refine wl_nil (hK24 _ _ ?_)
 refine wp_ret ?_
 (try simp only [Exit.then, Exit.inBlock, ↓reduceIte, Nat.reduceEqDiff])
 refine bodyPost_ret (v := (.slice xa22 (leafT p).length xc23)) ?_ rfl ?_
 ·exact res_t rfl rfl
 ·exact ⟨_, _, rfl, S15.gr, r21⟩
set_option maxHeartbeats 8000000 in
theorem fork_spec (F : Fz) (w : World) (v u : Value) (bit : Nat) (a b : By) (hs : Sat w F) (hT : Tabs w) (h0 : Bs F v a) (h1 : Bs F u b) (hk : a.length ≤ 1000) (hx : b.length ≤ 1000) :
    Calls Tryd.prog 56 #[.int .i64 (bit : Nat), v, u] w (Gives w F fun F' u => Bs F' u (forkT bit a b)) := by
 obtain ⟨x0, y0, rfl, _⟩ := h0.shape
 obtain ⟨x1, y1, rfl, _⟩ := h1.shape
 have S := St.start hs
 go_enter Tryd.func56, Tryd.ntmps56
 refine wp_seq_k (fun K1 hK1 => region_wl ?_)
 refine do_ rfl (.slice none 0 0) (ex_assign _) ?_
 simp only [pS, pN, pA, pC, pZ]
 refine wl_nil (hK1 _ _ ?_)
 refine wp_seq_k (fun K2 hK2 => region_wl ?_)
 refine do_ rfl (.int .i64 ((bit : Nat) : Int)) (ex_move _) ?_
 simp only [pS, pN, pA, pC, pZ]
 refine do_ rfl (bv (b8 bit)) (ex_convert (v := (.int .i64 ((bit : Nat) : Int))) rfl (conv_b8 bit _)) ?_
 simp only [pS, pN, pA, pC, pZ]
 refine stNew S (v := fun n => .slice (some ⟨n, 0, none⟩) 1 1) rfl (ex_lit (ps := #[(0, (bv (b8 bit)))]) (cells := #[(bv (b8 bit))]) (E := 5) (bmap1 rfl) (fun w => by kernel_rfl)) (fun n3 w4 S5 => ?_)
 simp only [pS, pN, pA, pC, pZ]
 have S5 : St w F w4 F [⟨n3, [(bv (b8 bit))], 5⟩] [] := S5
 refine do_ rfl (.slice x0 a.length y0) (ex_move _) ?_
 simp only [pS, pN, pA, pC, pZ]
 refine do_ rfl (.slice x1 b.length y1) (ex_move _) ?_
 simp only [pS, pN, pA, pC, pZ]
 refine stNew S5 (v := fun n => .slice (some ⟨n, 0, none⟩) 3 3) rfl (ex_lit (ps := #[(0, (.slice (some ⟨n3, 0, none⟩) 1 1)), (1, (.slice x0 a.length y0)), (2, (.slice x1 b.length y1))]) (cells := #[(.slice (some ⟨n3, 0, none⟩) 1 1), (.slice x0 a.length y0), (.slice x1 b.length y1)]) (E := 22) (bmap3 rfl rfl rfl) (fun w => by kernel_rfl)) (fun n6 w7 S8 => ?_)
 simp only [pS, pN, pA, pC, pZ]
 have S8 : St w F w7 F [⟨n6, [(.slice (some ⟨n3, 0, none⟩) 1 1), (.slice x0 a.length y0), (.slice x1 b.length y1)], 22⟩, ⟨n3, [(bv (b8 bit))], 5⟩] [] := S8
 obtain ⟨S9, le10, hc11⟩ := St.freezeBlk S8 (i := 1) rfl
 have r13 : Bs _ (.slice (some ⟨n3, 0, none⟩) 1 1) ([(b8 bit)] : By) := bs_of_block (l := ([(b8 bit)] : By)) hc11 rfl (by unfold maxLen; simp)
 generalize addF F w7 n3 = F12 at *
 have S9 : St w F w7 F12 [⟨n6, [(.slice (some ⟨n3, 0, none⟩) 1 1), (.slice x0 a.length y0), (.slice x1 b.length y1)], 22⟩] [] := S9
 obtain ⟨S14, le15, hc16⟩ := St.freezeBlk S9 (i := 0) rfl
 have r18 : Lss _ (.slice (some ⟨n6, 0, none⟩) 3 3) ([([(b8 bit)] : By), a, b] : List By) := sl_of_block (R := LsC) (l := ([([(b8 bit)] : By), a, b] : List By)) (el := [[(.slice (some ⟨n3, 0, none⟩) 1 1)], [(.slice x0 a.length y0)], [(.slice x1 b.length y1)]]) hc16 rfl ⟨⟨_, rfl, (r13.mono le15)⟩, ⟨_, rfl, ((h0.mono le10).mono le15)⟩, ⟨_, rfl, ((h1.mono le10).mono le15)⟩, trivial⟩ (by simp) (by unfold maxLen; simp)
 generalize addF F12 w7 n6 = F17 at *
 have S14 : St w F w7 F17 [] [] := S14
 refine stGives S14 rfl (ex_fn (vs := #[(.int .u8 2), (.slice (some ⟨n6, 0, none⟩) 3 3)]) (map2 rfl rfl) rfl (ent_20 _ _)) (Parts_spec _ _ _ 2 [([(b8 bit)] : By), a, b] (S14).sat (hT.at S14.gr.below) r18 (by simp [partB_len]; omega)) ?_
 intro v24 w19 F21 S20 le22 R23
 obtain ⟨x25, rfl, r26⟩ := R23
 obtain ⟨xa27, xc28, rfl, _⟩ := r26.shape
 have r26 : Bs _ (.slice xa27 (forkT bit a b).length xc28) (forkT bit a b) := r26
 simp only [pS, pN, pA, pC, pZ]
 refine do_ rfl (.tuple #[(.slice xa27 (forkT bit a b).length xc28), (.int .i64 0)]) (ex_move _) ?_
 simp only [pS, pN, pA, pC, pZ]
 refine do_ rfl (.slice xa27 (forkT bit a b).length xc28) (ex_extract rfl rfl) ?_
 simp only [pS, pN, pA, pC, pZ]
 refine do_ rfl (.int .i64 0) (ex_extract rfl rfl) ?_
 simp only [pS, pN, pA, pC, pZ]
 refine do_ rfl (.slice xa27 (forkT bit a b).length xc28) (ex_assign _) ?_
 simp only [pS, pN, pA, pC, pZ]
 refine do_ rfl (.int .i64 0) (ex_assign _) ?_
 simp only [pS, pN, pA, pC, pZ]
 refine wl_nil (hK2 _ _ ?_)
 refine wp_seq_k (fun K29 hK29 => region_wl ?_)
 refine do_ rfl (.slice xa27 (forkT bit a b).length xc28) (ex_move _) ?_
 simp only [pS, pN, pA, pC, pZ]
 refine do_ rfl (.slice xa27 (forkT bit a b).length xc28) (ex_assign _) ?_
 simp only [pS, pN, pA, pC, pZ]
 refine wl_nil (hK29 _ _ ?_)
 refine wp_ret ?_
 (try simp only [Exit.then, Exit.inBlock, ↓reduceIte, Nat.reduceEqDiff])
 refine bodyPost_ret (v := (.slice xa27 (forkT bit a b).length xc28)) ?_ rfl ?_
 ·exact res_t rfl rfl
 ·exact ⟨_, _, rfl, S20.gr, r26⟩
theorem low_step {l : List Pr} {bit n : Nat} {p : Pr} (hlo : ∀ (i : Nat) (h : i < l.length), i < n → bitL l[i].1 bit = false) (hp : l[n]? = some p) (hb : bitL p.1 bit = false) : ∀ (i : Nat) (h : i < l.length), i < n + 1 → bitL l[i].1 bit = false := by
  intro i h hi
  by_cases e : i = n
  · subst e; obtain ⟨_, e⟩ := List.getElem?_eq_some_iff.1 hp; rw [e]; exact hb
  · exact hlo i h (by omega)
theorem part_at {F : Fz} {w : World} {v u : Value} {a b : By} {n : Nat} (hs : Sat w F) (hv : Bs F v a) (hu : Bs F u b) (h : partL a b = n) (ha : 1 ≤ a.length ∧ a.length ≤ 16) (hb : 1 ≤ b.length ∧ b.length ≤ 16) :
    Calls Tryd.prog 23 #[v, u] w fun e w' => e = .returned (.tuple #[.int .i64 (n : Nat), .int .i64 0]) ∧ w' = w := by
  have := part_spec F w v u a b hs hv hu ha.1 ha.2 hb.1 hb.2
  rwa [h] at this
set_option maxHeartbeats 8000000 in
theorem parted_spec (F : Fz) (w : World) (v : Value) (l : List Pr) (hs : Sat w F) (hv : Prs F v l) (hk : KeysOk l) (h2 : 2 ≤ l.length) (h60 : l.length ≤ 60) :
    Calls Tryd.prog 55 #[v] w (Tells w (.tuple #[.int .i64 (bitT l : Nat), .int .i64 (leftN (bitT l) l : Nat)])) := by
 obtain ⟨a, c, rfl, hc1, hc2⟩ := Sl.shape hv
 unfold maxLen at hc2
 have S := St.start hs
 go_enter Tryd.func55, Tryd.ntmps55
 refine wp_seq_k (fun K1 hK1 => region_wl ?_)
 refine do_ rfl (.int .i64 0) (ex_assign _) ?_
 simp only [pS, pN, pA, pC, pZ]
 refine do_ rfl (.int .i64 0) (ex_assign _) ?_
 simp only [pS, pN, pA, pC, pZ]
 refine wl_nil (hK1 _ _ ?_)
 refine wp_seq_k (fun K2 hK2 => ?_)
 obtain ⟨p0, hp0⟩ : ∃ p, l[0]? = some p := ⟨l[0], List.getElem?_eq_getElem (by omega)⟩
 obtain ⟨p1, hp1⟩ : ∃ p, l[l.length - 1]? = some p := ⟨l[l.length - 1], List.getElem?_eq_getElem (by omega)⟩
 have hq0 := hk.key p0 (List.mem_of_getElem? hp0)
 have hq1 := hk.key p1 (List.mem_of_getElem? hp1)
 obtain ⟨hb1, hpb, _, _⟩ := bitT_spec hk h2
 rw [(List.getElem?_eq_some_iff.1 hp0).2, (List.getElem?_eq_some_iff.1 hp1).2] at hpb
 obtain ⟨b3, o4, ha5, xa7, xc8, xa11, xc12, c6, c10, r9, r13⟩ := Prs.get hv hp0
 obtain ⟨b14, o15, ha16, xa18, xc19, xa22, xc23, c17, c21, r20, r24⟩ := Prs.get hv hp1
 have hq_ := ha5.symm.trans ha16; injection hq_ with hq_; injection hq_ with hq1_ hq2_; subst hq1_; subst hq2_
 refine region_gw F 16 [(11, .is (.tuple #[(.int .i64 (((bitT l) : Nat) : Int)), (.int .i64 0)]))] (by kernel_rfl) (by kernel_rfl) ?_
 simp only [List.take_succ_cons, List.take_zero]
 refine gw_pure rfl rfl (.slice a l.length c) (fun w25 hCw25 => pureAt_of (ex_move _)) ?_
 simp only [pS, pN, pA, pC, pZ]
 refine gw_pure rfl rfl (.pointer (some ⟨b3, o4 + 0 * 2, none⟩)) (fun w25 hCw25 => pureAt_of (ex_at (i := 0) (sz := 2) Tryd.underlying40 (sizeof_38 _) rfl ha5 rfl (by omega) rfl)) ?_
 simp only [pS, pN, pA, pC, pZ]
 refine gw_pure rfl rfl (.pointer (some ⟨b3, o4 + 0 * 2, none⟩)) (fun w25 hCw25 => pureAt_of (ex_field (q := ⟨b3, o4 + 0 * 2, none⟩) rfl (fa_38_0 _ _))) ?_
 simp only [pS, pN, pA, pC, pZ]
 refine gw_pure rfl rfl (.slice xa7 p0.1.length xc8) (fun w25 hCw25 => pureAt_of (ex_load rfl (load1 (nagg_22 _) (St.fz (St.tells S hCw25) c6)))) ?_
 simp only [pS, pN, pA, pC, pZ]
 refine gw_pure rfl rfl (.slice a l.length c) (fun w25 hCw25 => pureAt_of (ex_move _)) ?_
 simp only [pS, pN, pA, pC, pZ]
 refine gw_pure rfl rfl (.slice a l.length c) (fun w25 hCw25 => pureAt_of (ex_move _)) ?_
 simp only [pS, pN, pA, pC, pZ]
 refine gw_pure rfl rfl (.int .i64 ((l.length : Nat) : Int)) (fun w25 hCw25 => pureAt_of (ex_len Tryd.underlying40 rfl)) ?_
 simp only [pS, pN, pA, pC, pZ]
 refine gw_pure rfl rfl (.int .i64 (((l.length - 1) : Nat) : Int)) (fun w25 hCw25 => pureAt_of (ex_sub (m := ((l.length : Nat) : Int)) (n := (1 : Int)) (r := (((l.length - 1) : Nat) : Int)) rfl rfl (by omega) (by omega) (by omega))) ?_
 simp only [pS, pN, pA, pC, pZ]
 refine gw_pure rfl rfl (.pointer (some ⟨b3, o4 + (l.length - 1) * 2, none⟩)) (fun w25 hCw25 => pureAt_of (ex_at (i := (l.length - 1)) (sz := 2) Tryd.underlying40 (sizeof_38 _) rfl ha5 rfl (by omega) rfl)) ?_
 simp only [pS, pN, pA, pC, pZ]
 refine gw_pure rfl rfl (.pointer (some ⟨b3, o4 + (l.length - 1) * 2, none⟩)) (fun w25 hCw25 => pureAt_of (ex_field (q := ⟨b3, o4 + (l.length - 1) * 2, none⟩) rfl (fa_38_0 _ _))) ?_
 simp only [pS, pN, pA, pC, pZ]
 refine gw_pure rfl rfl (.slice xa18 p1.1.length xc19) (fun w25 hCw25 => pureAt_of (ex_load rfl (load1 (nagg_22 _) (St.fz (St.tells S hCw25) c17)))) ?_
 simp only [pS, pN, pA, pC, pZ]
 refine gw_const rfl rfl (v := (.tuple #[(.int .i64 (((bitT l) : Nat) : Int)), (.int .i64 0)])) (fun w25 hCw25 _ => does_call (ex_fn (vs := #[(.slice xa7 p0.1.length xc8), (.slice xa18 p1.1.length xc19)]) (map2 rfl rfl) rfl (ent_23 _ _)) (call_tells (tells_same (part_at ((St.tells S hCw25)).sat r9 r20 hpb hq0 hq1)))) ?_
 simp only [pS, pN, pA, pC, pZ]
 refine gw_pure rfl rfl (.tuple #[(.int .i64 (((bitT l) : Nat) : Int)), (.int .i64 0)]) (fun w25 hCw25 => pureAt_of (ex_move _)) ?_
 simp only [pS, pN, pA, pC, pZ]
 refine gw_pure rfl rfl (.int .i64 (((bitT l) : Nat) : Int)) (fun w25 hCw25 => pureAt_of (ex_extract rfl rfl)) ?_
 simp only [pS, pN, pA, pC, pZ]
 refine gw_pure rfl rfl (.int .i64 0) (fun w25 hCw25 => pureAt_of (ex_extract rfl rfl)) ?_
 simp only [pS, pN, pA, pC, pZ]
 refine gw_pure rfl rfl (.int .i64 (((bitT l) : Nat) : Int)) (fun w25 hCw25 => pureAt_of (ex_assign _)) ?_
 simp only [pS, pN, pA, pC, pZ]
 refine gw_nil ?_
 intro w26 hC28 hF29
 clear hF29
 have S27 := St.tells S hC28
 simp only [List.drop_succ_cons, List.drop_zero]
 refine do_ rfl (.int .i64 0) (ex_assign _) ?_
 simp only [pS, pN, pA, pC, pZ]
 refine wl_nil (hK2 _ _ ?_)
 refine wp_seq_k (fun K30 hK30 => region_wl ?_)
 refine do_ rfl (.int .i64 0) (ex_assign _) ?_
 simp only [pS, pN, pA, pC, pZ]
 refine wl_nil (hK30 _ _ ?_)
 refine wp_seq_k (fun K31 hK31 => ?_)
 refine wp_block ?_
 refine wp_loop_g (fun mm aa w33 => ∃ (n : Nat) (u32 : Nat → Value), mm = l.length - n ∧ u32 = slots aa ∧ aa = ⟨#[(.slice a l.length c), undef, (.int .i64 0), (.int .i64 0), (.int .i64 (((bitT l) : Nat) : Int)), (.int .i64 0), (.int .i64 ((n : Nat) : Int)), (u32 7), (u32 8), (.tuple #[(.int .i64 (((bitT l) : Nat) : Int)), (.int .i64 0)]), (.slice a l.length c), (.pointer (some ⟨b3, o4 + 0 * 2, none⟩)), (.pointer (some ⟨b3, o4 + 0 * 2, none⟩)), (.slice xa7 p0.1.length xc8), (.slice a l.length c), (.slice a l.length c), (.int .i64 ((l.length : Nat) : Int)), (.int .i64 (((l.length - 1) : Nat) : Int)), (.pointer (some ⟨b3, o4 + (l.length - 1) * 2, none⟩)), (.pointer (some ⟨b3, o4 + (l.length - 1) * 2, none⟩)), (.slice xa18 p1.1.length xc19), (.tuple #[(.int .i64 (((bitT l) : Nat) : Int)), (.int .i64 0)]), (.int .i64 (((bitT l) : Nat) : Int)), (.int .i64 0), (u32 24), (u32 25), (u32 26), (u32 27), (u32 28), (u32 29), (u32 30), (u32 31), (u32 32), (u32 33), (u32 34), (u32 35), (u32 36), (u32 37), (u32 38), (u32 39), (u32 40), undef, undef], []⟩ ∧ St w F w33 F [] [] ∧ (n ≤ l.length) ∧ (∀ (i : Nat) (h : i < l.length), i < n → bitL l[i].1 (bitT l) = false)) _ ⟨0, _, rfl, rfl, rfl, S27, (by omega), (fun i _ h => by omega)⟩ ?_
 rintro m34 a35 w36 ⟨n, u32, rfl, -, rfl, S37, hn, hlo⟩ K39 hK39
 refine wp_seq_k (fun K40 hK40 => ?_)
 refine wp_seq_k (fun K41 hK41 => region_wl ?_)
 refine do_ rfl (.int .i64 ((n : Nat) : Int)) (ex_move _) ?_
 simp only [pS, pN, pA, pC, pZ]
 refine do_ rfl (.slice a l.length c) (ex_move _) ?_
 simp only [pS, pN, pA, pC, pZ]
 refine do_ rfl (.int .i64 ((l.length : Nat) : Int)) (ex_len Tryd.underlying40 rfl) ?_
 simp only [pS, pN, pA, pC, pZ]
 by_cases hc27 : n < l.length
 ·refine do_ rfl (.bool true) (ex_lss (m := ((n : Nat) : Int)) (n := ((l.length : Nat) : Int)) (b := true) rfl rfl (decide_eq_true (by omega))) ?_
  simp only [pS, pN, pA, pC, pZ]
  refine wl_nil (hK41 _ _ ?_)
  refine wp_cond_true rfl ?_
  refine wp_skip ?_
  refine hK40 _ _ ?_
  refine wp_block ?_
  refine wp_seq_k (fun K42 hK42 => ?_)
  refine wp_seq_k (fun K43 hK43 => ?_)
  obtain ⟨p, hp⟩ : ∃ p, l[n]? = some p := ⟨l[n], List.getElem?_eq_getElem hc27⟩
  have hpp := hk.key p (List.mem_of_getElem? hp)
  obtain ⟨b44, o45, ha46, xa48, xc49, xa52, xc53, c47, c51, r50, r54⟩ := Prs.get hv hp
  refine region_wl ?_
  refine do_ rfl (.slice a l.length c) (ex_move _) ?_
  simp only [pS, pN, pA, pC, pZ]
  refine do_ rfl (.int .i64 ((n : Nat) : Int)) (ex_move _) ?_
  simp only [pS, pN, pA, pC, pZ]
  refine do_ rfl (.pointer (some ⟨b44, o45 + n * 2, none⟩)) (ex_at (i := n) (sz := 2) Tryd.underlying40 (sizeof_38 _) rfl ha46 rfl (by omega) rfl) ?_
  simp only [pS, pN, pA, pC, pZ]
  refine do_ rfl (.pointer (some ⟨b44, o45 + n * 2, none⟩)) (ex_field (q := ⟨b44, o45 + n * 2, none⟩) rfl (fa_38_0 _ _)) ?_
  simp only [pS, pN, pA, pC, pZ]
  refine do_ rfl (.slice xa48 p.1.length xc49) (ex_load rfl (load1 (nagg_22 _) (St.fz S37 c47))) ?_
  simp only [pS, pN, pA, pC, pZ]
  refine do_ rfl (.int .i64 (((bitT l) : Nat) : Int)) (ex_move _) ?_
  simp only [pS, pN, pA, pC, pZ]
  refine stTells (v := (.tuple #[(.bool (bitL p.1 (bitT l))), (.int .i64 0)])) S37 rfl (ex_fn (vs := #[(.slice xa48 p.1.length xc49), (.int .i64 (((bitT l) : Nat) : Int))]) (map2 rfl rfl) rfl (ent_25 _ _)) (tells_same (bitE_spec _ _ _ p.1 _ (S37).sat r50 hpp.1 hpp.2 (by omega) (by omega))) (fun w55 S56 => ?_)
  simp only [pS, pN, pA, pC, pZ]
  refine do_ rfl (.tuple #[(.bool (bitL p.1 (bitT l))), (.int .i64 0)]) (ex_move _) ?_
  simp only [pS, pN, pA, pC, pZ]
  refine do_ rfl (.bool (bitL p.1 (bitT l))) (ex_extract rfl rfl) ?_
  simp only [pS, pN, pA, pC, pZ]
  refine do_ rfl (.int .i64 0) (ex_extract rfl rfl) ?_
  simp only [pS, pN, pA, pC, pZ]
  refine do_ rfl (.bool (bitL p.1 (bitT l))) (ex_assign _) ?_
  simp only [pS, pN, pA, pC, pZ]
  refine do_ rfl (.int .i64 0) (ex_assign _) ?_
  simp only [pS, pN, pA, pC, pZ]
  refine wl_nil (hK43 _ _ ?_)
  refine wp_seq_k (fun K57 hK57 => region_wl ?_)
  refine do_ rfl (.bool (bitL p.1 (bitT l))) (ex_move _) ?_
  simp only [pS, pN, pA, pC, pZ]
  refine wl_nil (hK57 _ _ ?_)
  refine wp_cond_split rfl (fun hc58 => ?_) (fun hc58 => ?_)
  ·refine wp_exit ?_
   refine hK31 _ _ ?_
   refine wp_seq_k (fun K59 hK59 => region_wl ?_)
   refine do_ rfl (.int .i64 (((bitT l) : Nat) : Int)) (ex_move _) ?_
   simp only [pS, pN, pA, pC, pZ]
   refine do_ rfl (.int .i64 ((n : Nat) : Int)) (ex_move _) ?_
   simp only [pS, pN, pA, pC, pZ]
   refine do_ rfl (.int .i64 (((bitT l) : Nat) : Int)) (ex_assign _) ?_
   simp only [pS, pN, pA, pC, pZ]
   refine do_ rfl (.int .i64 ((n : Nat) : Int)) (ex_assign _) ?_
   simp only [pS, pN, pA, pC, pZ]
   refine wl_nil (hK59 _ _ ?_)
   refine wp_ret ?_
   (try simp only [Exit.then, Exit.inBlock, ↓reduceIte, Nat.reduceEqDiff])
   refine bodyPost_ret (v := (.tuple #[(.int .i64 (((bitT l) : Nat) : Int)), (.int .i64 ((n : Nat) : Int))])) ?_ rfl ?_
   ·exact res_tt rfl rfl rfl
   ·obtain rfl : leftN (bitT l) l = n := leftN_unique hn hlo (fun h => by obtain ⟨_, e⟩ := List.getElem?_eq_some_iff.1 hp; rw [e]; exact hc58)
    exact ⟨rfl, S56.gr.below⟩
  ·refine wp_skip ?_
   refine hK42 _ _ ?_
   refine region_wl ?_
   refine do_ rfl (.int .i64 ((n : Nat) : Int)) (ex_move _) ?_
   simp only [pS, pN, pA, pC, pZ]
   refine do_ rfl (.int .i64 (((n + 1) : Nat) : Int)) (ex_add (m := ((n : Nat) : Int)) (n := (1 : Int)) (r := (((n + 1) : Nat) : Int)) rfl rfl (by omega) (by omega) (by omega)) ?_
   simp only [pS, pN, pA, pC, pZ]
   refine do_ rfl (.int .i64 (((n + 1) : Nat) : Int)) (ex_assign _) ?_
   simp only [pS, pN, pA, pC, pZ]
   refine wl_nil ?_
   exact hK39 _ _ _ (by omega) ⟨(n + 1), _, rfl, rfl, rfl, S56, (by omega), (low_step hlo hp hc58)⟩
 ·refine do_ rfl (.bool false) (ex_lss (m := ((n : Nat) : Int)) (n := ((l.length : Nat) : Int)) (b := false) rfl rfl (decide_eq_false (by omega))) ?_
  simp only [pS, pN, pA, pC, pZ]
  refine wl_nil (hK41 _ _ ?_)
  refine wp_cond_false rfl ?_
  refine wp_exit ?_
  refine hK31 _ _ ?_
  refine wp_seq_k (fun K60 hK60 => region_wl ?_)
  refine do_ rfl (.int .i64 (((bitT l) : Nat) : Int)) (ex_move _) ?_
  simp only [pS, pN, pA, pC, pZ]
  refine do_ rfl (.int .i64 ((n : Nat) : Int)) (ex_move _) ?_
  simp only [pS, pN, pA, pC, pZ]
  refine do_ rfl (.int .i64 (((bitT l) : Nat) : Int)) (ex_assign _) ?_
  simp only [pS, pN, pA, pC, pZ]
  refine do_ rfl (.int .i64 ((n : Nat) : Int)) (ex_assign _) ?_
  simp only [pS, pN, pA, pC, pZ]
  refine wl_nil (hK60 _ _ ?_)
  refine wp_ret ?_
  (try simp only [Exit.then, Exit.inBlock, ↓reduceIte, Nat.reduceEqDiff])
  refine bodyPost_ret (v := (.tuple #[(.int .i64 (((bitT l) : Nat) : Int)), (.int .i64 ((n : Nat) : Int))])) ?_ rfl ?_
  ·exact res_tt rfl rfl rfl
  ·obtain rfl : leftN (bitT l) l = n := leftN_unique hn hlo (fun h => by omega)
   exact ⟨rfl, S37.gr.below⟩
end Go.Proofs.YtcanckliggcllaaDoor
namespace Go.Proofs.YtcanckliggcllaaDoor
open Go.RowKit
set_option maxRecDepth 100000
set_option linter.unusedVariables false
set_option linter.unusedSimpArgs false
theorem take_keys {l : List Pr} (h : KeysOk l) (n : Nat) : KeysOk (l.take n) := h.sub (List.take_sublist _ _)
theorem drop_keys {l : List Pr} (h : KeysOk l) (n : Nat) : KeysOk (l.drop n) := h.sub (List.drop_sublist _ _)
set_option maxHeartbeats 8000000 in
theorem root_step (m : Nat) (ih : ∀ (F : Fz) (w : World) (v : Value) (l : List Pr), Sat w F → Tabs w → Prs F v l → KeysOk l → 1 ≤ l.length → l.length ≤ 60 → l.length ≤ m → (∀ p ∈ l, p.2.length ≤ 32) →
      Calls Tryd.prog 37 #[v] w (Gives w F fun F' u => Bs F' u (rootT l)))
    (F : Fz) (w : World) (v : Value) (l : List Pr) (hs : Sat w F) (hT : Tabs w) (hv : Prs F v l) (hk : KeysOk l) (h1 : 1 ≤ l.length) (h60 : l.length ≤ 60) (hm : l.length ≤ m + 1) (hx : ∀ p ∈ l, p.2.length ≤ 32) :
    Calls Tryd.prog 37 #[v] w (Gives w F fun F' u => Bs F' u (rootT l)) := by
 obtain ⟨a, c, rfl, hc1, hc2⟩ := Sl.shape hv
 unfold maxLen at hc2
 have S := St.start hs
 go_enter Tryd.func37, Tryd.ntmps37
 refine wp_seq_k (fun K1 hK1 => region_wl ?_)
 refine do_ rfl (.slice none 0 0) (ex_assign _) ?_
 simp only [pS, pN, pA, pC, pZ]
 refine wl_nil (hK1 _ _ ?_)
 refine wp_seq_k (fun K2 hK2 => ?_)
 refine wp_seq_k (fun K3 hK3 => region_wl ?_)
 refine do_ rfl (.slice a l.length c) (ex_move _) ?_
 simp only [pS, pN, pA, pC, pZ]
 refine do_ rfl (.int .i64 ((l.length : Nat) : Int)) (ex_len Tryd.underlying40 rfl) ?_
 simp only [pS, pN, pA, pC, pZ]
 by_cases hc7 : l.length = 1
 ·refine do_ rfl (.bool true) (ex_eql (m := ((l.length : Nat) : Int)) (n := (1 : Int)) (b := true) rfl rfl (beq_iff_eq.2 (by omega))) ?_
  simp only [pS, pN, pA, pC, pZ]
  refine wl_nil (hK3 _ _ ?_)
  refine wp_cond_true rfl ?_
  refine wp_seq_k (fun K4 hK4 => ?_)
  obtain ⟨p, hp⟩ : ∃ p, l[0]? = some p := ⟨l[0], List.getElem?_eq_getElem (by omega)⟩
  have hp1 := (hk.key p (List.mem_of_getElem? hp)).2
  have hp2 := hx p (List.mem_of_getElem? hp)
  have hone : l = [p] := by obtain ⟨q, rfl⟩ := List.length_eq_one_iff.1 (show l.length = 1 by omega); simp at hp; rw [hp]
  obtain ⟨b5, o6, ha7, xa9, xc10, xa13, xc14, c8, c12, r11, r15⟩ := Prs.get hv hp
  refine region_wl ?_
  refine do_ rfl (.slice a l.length c) (ex_move _) ?_
  simp only [pS, pN, pA, pC, pZ]
  refine do_ rfl (.pointer (some ⟨b5, o6 + 0 * 2, none⟩)) (ex_at (i := 0) (sz := 2) Tryd.underlying40 (sizeof_38 _) rfl ha7 rfl (by omega) rfl) ?_
  simp only [pS, pN, pA, pC, pZ]
  refine do_ rfl (.agg #[(.slice xa9 p.1.length xc10), (.slice xa13 p.2.length xc14)]) (ex_load rfl (loadN (cs := [(.slice xa9 p.1.length xc10), (.slice xa13 p.2.length xc14)]) Tryd.underlying38 rfl (size_38) (range2 (St.fz S c8) (St.fz S c12)))) ?_
  simp only [pS, pN, pA, pC, pZ]
  refine stGives S rfl (ex_fn (vs := #[(.agg #[(.slice xa9 p.1.length xc10), (.slice xa13 p.2.length xc14)])]) (map1 rfl) rfl (ent_54 _ _)) (leaf_spec _ _ _ p (S).sat (hT.at S.gr.below) ⟨_, _, _, _, rfl, r11, r15⟩ (by omega) (by omega)) ?_
  intro v21 w16 F18 S17 le19 R20
  obtain ⟨xa22, xc23, rfl, _⟩ := R20.shape
  simp only [pS, pN, pA, pC, pZ]
  refine do_ rfl (.slice xa22 (leafT p).length xc23) (ex_assign _) ?_
  simp only [pS, pN, pA, pC, pZ]
  refine wl_nil (hK4 _ _ ?_)
  refine wp_ret ?_
  (try simp only [Exit.then, Exit.inBlock, ↓reduceIte, Nat.reduceEqDiff])
  refine bodyPost_ret (v := (.slice xa22 (leafT p).length xc23)) ?_ rfl ?_
  ·exact res_t rfl rfl
  ·exact ⟨_, _, rfl, S17.gr, bs_app R20 (by rw [hone]; exact (rootT_one p).symm)⟩
 ·refine do_ rfl (.bool false) (ex_eql (m := ((l.length : Nat) : Int)) (n := (1 : Int)) (b := false) rfl rfl (beq_eq_false_iff_ne.2 (by omega))) ?_
  simp only [pS, pN, pA, pC, pZ]
  refine wl_nil (hK3 _ _ ?_)
  refine wp_cond_false rfl ?_
  refine wp_skip ?_
  refine hK2 _ _ ?_
  refine wp_seq_k (fun K24 hK24 => ?_)
  have hl2 : 2 ≤ l.length := by omega
  obtain ⟨hn1, hn2⟩ := leftN_spec hk hl2
  have hb1 := (bitT_spec hk hl2).1
  refine region_wl ?_
  refine do_ rfl (.slice a l.length c) (ex_move _) ?_
  simp only [pS, pN, pA, pC, pZ]
  refine stTells (v := (.tuple #[(.int .i64 (((bitT l) : Nat) : Int)), (.int .i64 (((leftN (bitT l) l) : Nat) : Int))])) S rfl (ex_fn (vs := #[(.slice a l.length c)]) (map1 rfl) rfl (ent_55 _ _)) (parted_spec _ _ _ l (S).sat hv hk hl2 h60) (fun w25 S26 => ?_)
  simp only [pS, pN, pA, pC, pZ]
  refine do_ rfl (.tuple #[(.int .i64 (((bitT l) : Nat) : Int)), (.int .i64 (((leftN (bitT l) l) : Nat) : Int))]) (ex_move _) ?_
  simp only [pS, pN, pA, pC, pZ]
  refine do_ rfl (.int .i64 (((bitT l) : Nat) : Int)) (ex_extract rfl rfl) ?_
  simp only [pS, pN, pA, pC, pZ]
  refine do_ rfl (.int .i64 (((leftN (bitT l) l) : Nat) : Int)) (ex_extract rfl rfl) ?_
  simp only [pS, pN, pA, pC, pZ]
  refine do_ rfl (.int .i64 (((bitT l) : Nat) : Int)) (ex_assign _) ?_
  simp only [pS, pN, pA, pC, pZ]
  refine do_ rfl (.int .i64 (((leftN (bitT l) l) : Nat) : Int)) (ex_assign _) ?_
  simp only [pS, pN, pA, pC, pZ]
  refine wl_nil (hK24 _ _ ?_)
  refine wp_seq_k (fun K27 hK27 => ?_)
  have hfl : Prs _ (.slice a (leftN (bitT l) l) c) (l.take (leftN (bitT l) l)) := Sl.takeN hv (by omega)
  have hfr : Prs _ (.slice (if c = (leftN (bitT l) l) then a else a.map (·.add ((leftN (bitT l) l) * 2))) (l.length - (leftN (bitT l) l)) (c - (leftN (bitT l) l))) (l.drop (leftN (bitT l) l)) := Sl.dropD (by decide) hv (by omega)
  refine region_hl S26 (by kernel_rfl) (fun w29 S28 => ?_)
  refine hl_take 0 rfl (by kernel_rfl) (v := (.int .i64 (((bitT l) : Nat) : Int))) (fun _ _ _ h => h) S28.sat rfl (fun w30 hs31 => ex_move _) ?_
  simp only [pS, pN, pA, pC, pZ]
  refine hl_take 1 rfl (by kernel_rfl) (v := (.slice a l.length c)) (fun _ _ _ h => h) S28.sat rfl (fun w32 hs33 => ex_move _) ?_
  simp only [pS, pN, pA, pC, pZ]
  refine hl_take 2 rfl (by kernel_rfl) (v := (.int .i64 (((leftN (bitT l) l) : Nat) : Int))) (fun _ _ _ h => h) S28.sat rfl (fun w34 hs35 => ex_move _) ?_
  simp only [pS, pN, pA, pC, pZ]
  refine hl_take 3 rfl (by kernel_rfl) (v := (.slice a (leftN (bitT l) l) c)) (fun _ _ _ h => h) S28.sat rfl (fun w36 hs37 => ex_slice (l := 0) (h := (leftN (bitT l) l)) (sz := 2) Tryd.underlying40 rfl (sizeof_38 _) (.inl ⟨rfl, rfl⟩) (.inr ⟨_, rfl, rfl⟩) (by omega) (by omega) (slice_zero)) ?_
  simp only [pS, pN, pA, pC, pZ]
  refine hl_take 5 rfl (by kernel_rfl) (v := (.slice a l.length c)) (fun _ _ _ h => h) S28.sat rfl (fun w38 hs39 => ex_move _) ?_
  simp only [pS, pN, pA, pC, pZ]
  refine hl_take 6 rfl (by kernel_rfl) (v := (.int .i64 (((leftN (bitT l) l) : Nat) : Int))) (fun _ _ _ h => h) S28.sat rfl (fun w40 hs41 => ex_move _) ?_
  simp only [pS, pN, pA, pC, pZ]
  refine hl_take 7 rfl (by kernel_rfl) (v := (.slice (if c = (leftN (bitT l) l) then a else a.map (·.add ((leftN (bitT l) l) * 2))) (l.length - (leftN (bitT l) l)) (c - (leftN (bitT l) l)))) (fun _ _ _ h => h) S28.sat rfl (fun w42 hs43 => ex_slice (l := (leftN (bitT l) l)) (h := l.length) (sz := 2) Tryd.underlying40 rfl (sizeof_38 _) (.inr ⟨_, rfl, rfl⟩) (.inl ⟨rfl, rfl⟩) (by omega) (by omega) (rfl)) ?_
  simp only [pS, pN, pA, pC, pZ]
  refine hl_next 4 (by kernel_rfl) rfl ?_
  refine stGives S28 rfl (ex_fn (vs := #[(.slice a (leftN (bitT l) l) c)]) (map1 rfl) rfl (ent_37 _ _)) (ih _ _ _ (l.take (leftN (bitT l) l)) (S28).sat (hT.at S28.gr.below) hfl (take_keys hk _) (by rw [List.length_take]; omega) (by rw [List.length_take]; omega) (by rw [List.length_take]; omega) (fun q hq => hx q (List.mem_of_mem_take hq))) ?_
  intro v49 w44 F46 S45 le47 R48
  obtain ⟨xa50, xc51, rfl, _⟩ := R48.shape
  simp only [pS, pN, pA, pC, pZ]
  refine wl_nil (hl_back (Sat.le S45.sat le47) ?_)
  refine hl_next 8 (by kernel_rfl) rfl ?_
  refine stGives S45 rfl (ex_fn (vs := #[(.slice (if c = (leftN (bitT l) l) then a else a.map (·.add ((leftN (bitT l) l) * 2))) (l.length - (leftN (bitT l) l)) (c - (leftN (bitT l) l)))]) (map1 rfl) rfl (ent_37 _ _)) (ih _ _ _ (l.drop (leftN (bitT l) l)) (S45).sat (hT.at S45.gr.below) (hfr.mono le47) (drop_keys hk _) (by rw [List.length_drop]; omega) (by rw [List.length_drop]; omega) (by rw [List.length_drop]; omega) (fun q hq => hx q (List.mem_of_mem_drop hq))) ?_
  intro v57 w52 F54 S53 le55 R56
  obtain ⟨xa58, xc59, rfl, _⟩ := R56.shape
  simp only [pS, pN, pA, pC, pZ]
  refine wl_nil (hl_back (Sat.le S53.sat (le47.trans le55)) ?_)
  refine hl_next 9 (by kernel_rfl) rfl ?_
  refine stGives S53 rfl (ex_fn (vs := #[(.int .i64 (((bitT l) : Nat) : Int)), (.slice xa50 (rootT (l.take (leftN (bitT l) l))).length xc51), (.slice xa58 (rootT (l.drop (leftN (bitT l) l))).length xc59)]) (map3 rfl rfl rfl) rfl (ent_56 _ _)) (fork_spec _ _ _ _ (bitT l) (rootT (l.take (leftN (bitT l) l))) (rootT (l.drop (leftN (bitT l) l))) (S53).sat (hT.at S53.gr.below) (R48.mono le55) R56 (by rw [rootT_len]; omega) (by rw [rootT_len]; omega)) ?_
  intro v65 w60 F62 S61 le63 R64
  obtain ⟨xa66, xc67, rfl, _⟩ := R64.shape
  simp only [pS, pN, pA, pC, pZ]
  refine wl_nil (hl_back (Sat.le S61.sat ((le47.trans le55).trans le63)) ?_)
  refine hl_take 10 rfl (by kernel_rfl) (v := (.slice xa66 (forkT (bitT l) (rootT (l.take (leftN (bitT l) l))) (rootT (l.drop (leftN (bitT l) l)))).length xc67)) (fun _ _ _ h => h) (Sat.le S61.sat ((le47.trans le55).trans le63)) rfl (fun w68 hs69 => ex_assign _) ?_
  simp only [pS, pN, pA, pC, pZ]
  refine hl_done (by kernel_rfl) ?_
  refine hK27 _ _ ?_
  refine wp_ret ?_
  (try simp only [Exit.then, Exit.inBlock, ↓reduceIte, Nat.reduceEqDiff])
  refine bodyPost_ret (v := (.slice xa66 (forkT (bitT l) (rootT (l.take (leftN (bitT l) l))) (rootT (l.drop (leftN (bitT l) l)))).length xc67)) ?_ rfl ?_
  ·exact res_t rfl rfl
  ·exact ⟨_, _, rfl, S61.gr, bs_app R64 (rootT_fork hk hl2).symm⟩
theorem root_spec (m : Nat) : ∀ (F : Fz) (w : World) (v : Value) (l : List Pr), Sat w F → Tabs w → Prs F v l → KeysOk l → 1 ≤ l.length → l.length ≤ 60 → l.length ≤ m → (∀ p ∈ l, p.2.length ≤ 32) →
      Calls Tryd.prog 37 #[v] w (Gives w F fun F' u => Bs F' u (rootT l)) := by
  induction m with
  | zero => intro F w v l _ _ _ _ h1 _ hm; omega
  | succ m ih => intro F w v l hs hT hv hk h1 h60 hm hx; exact root_step m ih F w v l hs hT hv hk h1 h60 hm hx
set_option maxHeartbeats 8000000 in
theorem RootOk_at (F : Fz) (w : World) (v : Value) (l : List Pr) (hs : Sat w F) (hT : Tabs w) (hv : Prs F v l) (ok : TreeOk 60 l) (hz : 1 ≤ l.length) :
    Calls Tryd.prog 22 #[v] w (Gives w F (SumR (rootT l) 0)) := by
 obtain ⟨a, c, rfl, hc1, hc2⟩ := Sl.shape hv
 unfold maxLen at hc2
 have S := St.start hs
 go_enter Tryd.func22, Tryd.ntmps22
 refine wp_seq_k (fun K1 hK1 => region_wl ?_)
 refine do_ rfl (.slice none 0 0) (ex_assign _) ?_
 simp only [pS, pN, pA, pC, pZ]
 refine do_ rfl (.int .i64 0) (ex_assign _) ?_
 simp only [pS, pN, pA, pC, pZ]
 refine wl_nil (hK1 _ _ ?_)
 refine wp_seq_k (fun K2 hK2 => ?_)
 refine wp_seq_k (fun K3 hK3 => region_wl ?_)
 refine do_ rfl (.slice a l.length c) (ex_move _) ?_
 simp only [pS, pN, pA, pC, pZ]
 refine stTells (v := (.int .i64 0)) S rfl (ex_fn (vs := #[(.slice a l.length c)]) (map1 rfl) rfl (ent_26 _ _)) (treeCheckOk_spec _ _ _ l (S).sat hv ok) (fun w4 S5 => ?_)
 simp only [pS, pN, pA, pC, pZ]
 refine do_ rfl (.int .i64 0) (ex_assign _) ?_
 simp only [pS, pN, pA, pC, pZ]
 refine wl_nil (hK3 _ _ ?_)
 refine wp_seq_k (fun K6 hK6 => region_wl ?_)
 refine do_ rfl (.int .i64 0) (ex_move _) ?_
 simp only [pS, pN, pA, pC, pZ]
 refine do_ rfl (.bool false) (ex_neq (m := (0 : Int)) (n := (0 : Int)) (b := false) rfl rfl (bne_eq_false_iff_eq.2 (by omega))) ?_
 simp only [pS, pN, pA, pC, pZ]
 refine wl_nil (hK6 _ _ ?_)
 refine wp_cond_false rfl ?_
 refine wp_skip ?_
 refine hK2 _ _ ?_
 refine wp_seq_k (fun K7 hK7 => ?_)
 refine wp_seq_k (fun K8 hK8 => region_wl ?_)
 refine do_ rfl (.slice a l.length c) (ex_move _) ?_
 simp only [pS, pN, pA, pC, pZ]
 refine do_ rfl (.int .i64 ((l.length : Nat) : Int)) (ex_len Tryd.underlying40 rfl) ?_
 simp only [pS, pN, pA, pC, pZ]
 refine do_ rfl (.bool false) (ex_eql (m := ((l.length : Nat) : Int)) (n := (0 : Int)) (b := false) rfl rfl (beq_eq_false_iff_ne.2 (by omega))) ?_
 simp only [pS, pN, pA, pC, pZ]
 refine wl_nil (hK8 _ _ ?_)
 refine wp_cond_false rfl ?_
 refine wp_skip ?_
 refine hK7 _ _ ?_
 refine wp_seq_k (fun K9 hK9 => region_wl ?_)
 refine do_ rfl (.slice a l.length c) (ex_move _) ?_
 simp only [pS, pN, pA, pC, pZ]
 refine stGives S5 rfl (ex_fn (vs := #[(.slice a l.length c)]) (map1 rfl) rfl (ent_37 _ _)) (root_spec l.length _ _ _ l (S5).sat (hT.at S5.gr.below) hv ok.keys (by omega) ok.len (Nat.le_refl _) (fun p hp => (ok.ok p hp).2.2)) ?_
 intro v15 w10 F12 S11 le13 R14
 obtain ⟨xa16, xc17, rfl, _⟩ := R14.shape
 simp only [pS, pN, pA, pC, pZ]
 refine do_ rfl (.slice xa16 (rootT l).length xc17) (ex_assign _) ?_
 simp only [pS, pN, pA, pC, pZ]
 refine do_ rfl (.int .i64 0) (ex_assign _) ?_
 simp only [pS, pN, pA, pC, pZ]
 refine wl_nil (hK9 _ _ ?_)
 refine wp_ret ?_
 (try simp only [Exit.then, Exit.inBlock, ↓reduceIte, Nat.reduceEqDiff])
 refine bodyPost_ret (v := (.tuple #[(.slice xa16 (rootT l).length xc17), (.int .i64 0)])) ?_ rfl ?_
 ·exact res_tt rfl rfl rfl
 ·exact ⟨_, _, rfl, S11.gr, _, rfl, R14⟩
set_option maxHeartbeats 8000000 in
theorem RootNil_at (F : Fz) (w : World) (v : Value) (l : List Pr) (hs : Sat w F) (hT : Tabs w) (hv : Prs F v l) (ok : TreeOk 60 l) (hz : l.length = 0) :
    Calls Tryd.prog 22 #[v] w (Gives w F (SumR (rootT l) 0)) := by
 obtain ⟨a, c, rfl, hc1, hc2⟩ := Sl.shape hv
 unfold maxLen at hc2
 have S := St.start hs
 go_enter Tryd.func22, Tryd.ntmps22
 refine wp_seq_k (fun K1 hK1 => region_wl ?_)
 refine do_ rfl (.slice none 0 0) (ex_assign _) ?_
 simp only [pS, pN, pA, pC, pZ]
 refine do_ rfl (.int .i64 0) (ex_assign _) ?_
 simp only [pS, pN, pA, pC, pZ]
 refine wl_nil (hK1 _ _ ?_)
 refine wp_seq_k (fun K2 hK2 => ?_)
 refine wp_seq_k (fun K3 hK3 => region_wl ?_)
 refine do_ rfl (.slice a l.length c) (ex_move _) ?_
 simp only [pS, pN, pA, pC, pZ]
 refine stTells (v := (.int .i64 0)) S rfl (ex_fn (vs := #[(.slice a l.length c)]) (map1 rfl) rfl (ent_26 _ _)) (treeCheckOk_spec _ _ _ l (S).sat hv ok) (fun w4 S5 => ?_)
 simp only [pS, pN, pA, pC, pZ]
 refine do_ rfl (.int .i64 0) (ex_assign _) ?_
 simp only [pS, pN, pA, pC, pZ]
 refine wl_nil (hK3 _ _ ?_)
 refine wp_seq_k (fun K6 hK6 => region_wl ?_)
 refine do_ rfl (.int .i64 0) (ex_move _) ?_
 simp only [pS, pN, pA, pC, pZ]
 refine do_ rfl (.bool false) (ex_neq (m := (0 : Int)) (n := (0 : Int)) (b := false) rfl rfl (bne_eq_false_iff_eq.2 (by omega))) ?_
 simp only [pS, pN, pA, pC, pZ]
 refine wl_nil (hK6 _ _ ?_)
 refine wp_cond_false rfl ?_
 refine wp_skip ?_
 refine hK2 _ _ ?_
 refine wp_seq_k (fun K7 hK7 => ?_)
 refine wp_seq_k (fun K8 hK8 => region_wl ?_)
 refine do_ rfl (.slice a l.length c) (ex_move _) ?_
 simp only [pS, pN, pA, pC, pZ]
 refine do_ rfl (.int .i64 ((l.length : Nat) : Int)) (ex_len Tryd.underlying40 rfl) ?_
 simp only [pS, pN, pA, pC, pZ]
 refine do_ rfl (.bool true) (ex_eql (m := ((l.length : Nat) : Int)) (n := (0 : Int)) (b := true) rfl rfl (beq_iff_eq.2 (by omega))) ?_
 simp only [pS, pN, pA, pC, pZ]
 refine wl_nil (hK8 _ _ ?_)
 refine wp_cond_true rfl ?_
 refine wp_seq_k (fun K9 hK9 => region_wl ?_)
 refine stGives S5 rfl (ex_fn (vs := #[(.int .u8 0), (.slice none 0 0)]) (map2 rfl rfl) rfl (ent_20 _ _)) (Parts_spec _ _ _ 0 [] (S5).sat (hT.at S5.gr.below) (Sl.nil 1 LsC _) (by simp)) ?_
 intro v15 w10 F12 S11 le13 R14
 obtain ⟨x16, rfl, r17⟩ := R14
 obtain ⟨xa18, xc19, rfl, _⟩ := r17.shape
 have r17 : Bs _ (.slice xa18 (rootT ([] : List Pr)).length xc19) (rootT ([] : List Pr)) := r17
 simp only [pS, pN, pA, pC, pZ]
 refine do_ rfl (.slice xa18 (rootT ([] : List Pr)).length xc19) (ex_extract rfl rfl) ?_
 simp only [pS, pN, pA, pC, pZ]
 refine do_ rfl (.int .i64 0) (ex_extract rfl rfl) ?_
 simp only [pS, pN, pA, pC, pZ]
 refine do_ rfl (.slice xa18 (rootT ([] : List Pr)).length xc19) (ex_assign _) ?_
 simp only [pS, pN, pA, pC, pZ]
 refine do_ rfl (.int .i64 0) (ex_assign _) ?_
 simp only [pS, pN, pA, pC, pZ]
 refine wl_nil (hK9 _ _ ?_)
 refine wp_ret ?_
 (try simp only [Exit.then, Exit.inBlock, ↓reduceIte, Nat.reduceEqDiff])
 refine bodyPost_ret (v := (.tuple #[(.slice xa18 (rootT ([] : List Pr)).length xc19), (.int .i64 0)])) ?_ rfl ?_
 ·exact res_tt rfl rfl rfl
 ·exact ⟨_, _, rfl, S11.gr, _, rfl, bs_app r17 (by rw [List.eq_nil_of_length_eq_zero hz])⟩
theorem Root_spec (F : Fz) (w : World) (v : Value) (l : List Pr) (hs : Sat w F) (hT : Tabs w) (hv : Prs F v l) (ok : TreeOk 60 l) :
    Calls Tryd.prog 22 #[v] w (Gives w F (SumR (rootT l) 0)) := by
  rcases Nat.eq_zero_or_pos l.length with h | h
  · exact RootNil_at F w v l hs hT hv ok h
  · exact RootOk_at F w v l hs hT hv ok h
end Go.Proofs.YtcanckliggcllaaDoor
namespace Go.Proofs.YtcanckliggcllaaDoor
open Go.ChangeShapes Go.WideShapes Go.ChangeAt Go.RowKit
set_option maxRecDepth 100000
def roundsZ : List Int := [1, 32898, 9223372036854808714, 9223372039002292224, 32907, 2147483649, 9223372039002292353, 9223372036854808585, 138, 136, 2147516425, 2147483658, 2147516555, 9223372036854775947, 9223372036854808713, 9223372036854808579, 9223372036854808578, 9223372036854775936, 32778, 9223372039002259466, 9223372039002292353, 9223372036854808704, 2147483649, 9223372039002292232]
theorem gRounds : Tryd.prog.globalNamed "canopy/digest.rounds" = some 2 := by kernel_rfl
theorem gRoundsType : (Tryd.prog.globals[(2 : Nat)]?).map (·.type) = some 91 := by kernel_rfl
theorem gRoundsCells : Tryd.prog.cellsOf 91 = 24 := by kernel_rfl
theorem gRoundsOne : Tryd.prog.cellsOf 88 = 1 := by kernel_rfl
def goesZ : List Int := [10, 7, 11, 17, 18, 3, 5, 16, 8, 21, 24, 4, 15, 23, 19, 13, 12, 2, 20, 14, 22, 9, 6, 1]
theorem gGoes : Tryd.prog.globalNamed "canopy/digest.goes" = some 0 := by kernel_rfl
theorem gGoesType : (Tryd.prog.globals[(0 : Nat)]?).map (·.type) = some 109 := by kernel_rfl
theorem gGoesCells : Tryd.prog.cellsOf 109 = 24 := by kernel_rfl
theorem gGoesOne : Tryd.prog.cellsOf 3 = 1 := by kernel_rfl
def turnsZ : List Int := [1, 3, 6, 10, 15, 21, 28, 36, 45, 55, 2, 14, 27, 41, 56, 8, 25, 43, 62, 18, 39, 61, 20, 44]
theorem gTurns : Tryd.prog.globalNamed "canopy/digest.turns" = some 1 := by kernel_rfl
theorem gTurnsType : (Tryd.prog.globals[(1 : Nat)]?).map (·.type) = some 109 := by kernel_rfl
theorem gTurnsCells : Tryd.prog.cellsOf 109 = 24 := by kernel_rfl
theorem gTurnsOne : Tryd.prog.cellsOf 3 = 1 := by kernel_rfl
theorem goes_are : ∀ i, i < 24 → goesZ.getD i 0 = (goesN i : Int) := by decide +kernel
theorem turns_are : ∀ i, i < 24 → turnsZ.getD i 0 = (turnsN i : Int) := by decide +kernel
theorem rounds_are : ∀ i, i < 24 → roundsZ.getD i 0 = lane (roundB i) := by unfold lane; decide +kernel
theorem tab_at {W : World} {name : String} {k : IntKind} {zs : List Int} {g : Nat} (h : Lib.TabIs Tryd.prog W name k zs) (hg : Tryd.prog.globalNamed name = some g) {n : Nat} (hn : zs.length = n) {i : Nat} (hi : i < n) : W.cell? ⟨g, i, none⟩ = some (.int k (zs.getD i 0)) := by
  have hi' : i < zs.length := by omega
  have := h.cell hg i hi'
  exact this.trans (by simp [List.getD, hi'])
theorem dig_met {W : World} (h : laidMetH Tryd.prog [("canopy/digest.rounds", Rows.laid_canopy_digest_rounds), ("canopy/digest.goes", Rows.laid_canopy_digest_goes), ("canopy/digest.turns", Rows.laid_canopy_digest_turns)] W) : Tabs W := by
  have hr : Lib.TabIs Tryd.prog W "canopy/digest.rounds" .u64 roundsZ :=
    tabIs_at (l := [("canopy/digest.rounds", Rows.laid_canopy_digest_rounds), ("canopy/digest.goes", Rows.laid_canopy_digest_goes), ("canopy/digest.turns", Rows.laid_canopy_digest_turns)]) h 0 _ _ _ rfl gRounds gRoundsType Tryd.underlying91 Tryd.underlying88 gRoundsOne gRoundsCells
  have hg : Lib.TabIs Tryd.prog W "canopy/digest.goes" .i64 goesZ :=
    tabIs_at (l := [("canopy/digest.rounds", Rows.laid_canopy_digest_rounds), ("canopy/digest.goes", Rows.laid_canopy_digest_goes), ("canopy/digest.turns", Rows.laid_canopy_digest_turns)]) h 1 _ _ _ rfl gGoes gGoesType Tryd.underlying109 Tryd.underlying3 gGoesOne gGoesCells
  have ht : Lib.TabIs Tryd.prog W "canopy/digest.turns" .i64 turnsZ :=
    tabIs_at (l := [("canopy/digest.rounds", Rows.laid_canopy_digest_rounds), ("canopy/digest.goes", Rows.laid_canopy_digest_goes), ("canopy/digest.turns", Rows.laid_canopy_digest_turns)]) h 2 _ _ _ rfl gTurns gTurnsType Tryd.underlying109 Tryd.underlying3 gTurnsOne gTurnsCells
  refine ⟨fun i hi => ?_, fun i hi => ?_, fun i hi => ?_⟩
  · rw [tab_at hg gGoes (n := 24) rfl hi, goes_are i hi]
  · rw [tab_at ht gTurns (n := 24) rfl hi, turns_are i hi]
  · rw [tab_at hr gRounds (n := 24) rfl hi, rounds_are i hi]
def setCells (cs : Array Value) : Obj → Obj
  | .cells _ t frozen => .cells cs t frozen
  | o => o
noncomputable def digWorld (os : Os) : World :=
  { World.holding Tryd.prog os ⟨#[], #[], []⟩ with heap := (((World.holding Tryd.prog os ⟨#[], #[], []⟩).heap.modify 2 (setCells #[.int .u64 1, .int .u64 32898, .int .u64 9223372036854808714, .int .u64 9223372039002292224, .int .u64 32907, .int .u64 2147483649, .int .u64 9223372039002292353, .int .u64 9223372036854808585, .int .u64 138, .int .u64 136, .int .u64 2147516425, .int .u64 2147483658, .int .u64 2147516555, .int .u64 9223372036854775947, .int .u64 9223372036854808713, .int .u64 9223372036854808579, .int .u64 9223372036854808578, .int .u64 9223372036854775936, .int .u64 32778, .int .u64 9223372039002259466, .int .u64 9223372039002292353, .int .u64 9223372036854808704, .int .u64 2147483649, .int .u64 9223372039002292232])).modify 0 (setCells #[.int .i64 10, .int .i64 7, .int .i64 11, .int .i64 17, .int .i64 18, .int .i64 3, .int .i64 5, .int .i64 16, .int .i64 8, .int .i64 21, .int .i64 24, .int .i64 4, .int .i64 15, .int .i64 23, .int .i64 19, .int .i64 13, .int .i64 12, .int .i64 2, .int .i64 20, .int .i64 14, .int .i64 22, .int .i64 9, .int .i64 6, .int .i64 1])).modify 1 (setCells #[.int .i64 1, .int .i64 3, .int .i64 6, .int .i64 10, .int .i64 15, .int .i64 21, .int .i64 28, .int .i64 36, .int .i64 45, .int .i64 55, .int .i64 2, .int .i64 14, .int .i64 27, .int .i64 41, .int .i64 56, .int .i64 8, .int .i64 25, .int .i64 43, .int .i64 62, .int .i64 18, .int .i64 39, .int .i64 61, .int .i64 20, .int .i64 44]) }
end Go.Proofs.YtcanckliggcllaaDoor
