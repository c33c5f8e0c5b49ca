/- The walk of ClashMore -/
import Derived.Test.YtcpngkkconalhaaV12
import Derived.Test.YtcpngkkconalhaaV13
namespace Go.Proofs.Ytcpngkkconalhaa
open Go.RowKit
set_option maxRecDepth 100000
set_option linter.unusedVariables false
set_option linter.unusedSimpArgs false
theorem clashOk_spec (F : Fz) (w : World) (v u : Value) (t : Tx) (cs : List Cm) (hs : Sat w F) (hv : TxV F v t) (hl : Cms F u cs) (hcs : ∀ c ∈ cs, c.writes.length ≤ 100000) (ht : TxOk t) :
    Calls Try.prog 47 #[v, u] w (Tells w (.tuple #[.bool (clashX t.start t.reads cs), .int .i64 0])) := by
  have := clash_spec F w v u t cs hs hv hl hcs (fun x hx => (ht.writes x hx).small)
  rw [txE_ok.2 ht] at this
  unfold clashE at this
  rwa [if_neg (by simp [txE_ok.2 ht])] at this
theorem noteX_sub {t u : Tx} {r : Rd} (e : noteX t r = some u) : (∀ x ∈ t.reads, x ∈ u.reads) ∧ u.start = t.start := by
  unfold noteX at e
  split at e
  · cases e; exact ⟨fun x h => h, rfl⟩
  · split at e
    · cases e
    · cases e; exact ⟨fun x h => List.mem_append_left _ h, rfl⟩
theorem TxOk.from_ {t : Tx} (h : TxOk t) {k : Int} (h1 : 0 ≤ k) (h2 : k ≤ 1048576) : TxOk ⟨k, t.reads, t.writes⟩ := ⟨⟨h1, h2⟩, h.nr, h.nw, h.reads, h.rdiff, h.writes, h.wdiff⟩
set_option maxHeartbeats 8000000 in
theorem clashMore_walk (W : World) (v0 : Value) (l0 : List Pl) (z0 : Pls (whole W) v0 l0) (v1 : Value) (l1 : List Pl) (z1 : Pls (whole W) v1 l1) (p2 : Pl) (v20 : Value) (z20 : Bs (whole W) v20 p2.name) (v21 : Value) (z21 : Bs (whole W) v21 p2.key) (v22 : Value) (z22 : Bs (whole W) v22 p2.value) (x3 : Int) (b3 : -9223372036854775808 ≤ x3) (b3' : x3 ≤ 9223372036854775807) :
    Calls Try.prog 13 #[v0, v1, .agg #[v20, v21, v22, .bool p2.gone], .int .i64 x3] W (Tells W (.bool true)) := by
 obtain ⟨a0, c0, rfl, q0, q0'⟩ := Sl.shape z0
 obtain ⟨a1, c1, rfl, q1, q1'⟩ := Sl.shape z1
 obtain ⟨a20, c20, rfl, _⟩ := z20.shape
 obtain ⟨a21, c21, rfl, _⟩ := z21.shape
 obtain ⟨a22, c22, rfl, _⟩ := z22.shape
 obtain ⟨i50, hi50, hz50, hs50, hb50⟩ := info_parts info_50
 have S := St.start (Sat.whole W)
 go_enter Try.func13, Try.ntmps13
 refine wp_seq_k (fun K1 hK1 => region_wl ?_)
 refine stNew S (v := fun n => .pointer (some ⟨n, 0, none⟩)) rfl (ex_box (v := (.agg #[(.slice a20 p2.name.length c20), (.slice a21 p2.key.length c21), (.slice a22 p2.value.length c22), (.bool p2.gone)])) rfl) (fun n2 w3 S4 => ?_)
 simp only [pS, pN, pA, pC, pZ]
 have S4 : St W (whole W) w3 (whole W) [⟨n2, [(.slice a20 p2.name.length c20), (.slice a21 p2.key.length c21), (.slice a22 p2.value.length c22), (.bool p2.gone)], 30⟩] [] := S4
 refine do_ rfl (.bool false) (ex_assign _) ?_
 simp only [pS, pN, pA, pC, pZ]
 refine wl_nil (hK1 _ _ ?_)
 refine wp_seq_k (fun K5 hK5 => region_wl ?_)
 refine do_ rfl (.slice a0 l0.length c0) (ex_move _) ?_
 simp only [pS, pN, pA, pC, pZ]
 refine stGives S4 rfl (ex_fn (vs := #[(.slice a0 l0.length c0), (.int .i64 16)]) (map2 rfl rfl) rfl (ent_32 _ _)) (commits_spec _ _ _ l0 16 (S4).sat z0 (by omega)) ?_
 intro v11 w6 F8 S7 le9 R10
 obtain ⟨cs, R10, hh, hcl⟩ := R10
 obtain ⟨a12, c13, rfl, h14, h15⟩ := Sl.shape R10
 unfold maxLen at h15
 simp only [pS, pN, pA, pC, pZ]
 refine do_ rfl (.slice a12 cs.length c13) (ex_assign _) ?_
 simp only [pS, pN, pA, pC, pZ]
 refine wl_nil (hK5 _ _ ?_)
 refine wp_seq_k (fun K16 hK16 => region_wl ?_)
 refine do_ rfl (.slice a1 l1.length c1) (ex_move _) ?_
 simp only [pS, pN, pA, pC, pZ]
 refine stGives S7 rfl (ex_fn (vs := #[(.slice none 0 0), (.slice a1 l1.length c1)]) (map2 rfl rfl) rfl (ent_41 _ _)) (txnOf_spec _ _ _ _ [] l1 (S7).sat (Sl.nil _ _ _) (z1.mono le9)) ?_
 intro v22 w17 F19 S18 le20 R21
 obtain ⟨_, rfl, R23⟩ := R21
 obtain ⟨xa24, xc25, xa26, xc27, rfl, r28, r29⟩ := R23
 simp only [pS, pN, pA, pC, pZ]
 refine do_ rfl (.tuple #[(.agg #[(.int .i64 (txO [] l1).start), (.slice xa24 (txO [] l1).reads.length xc25), (.slice xa26 (txO [] l1).writes.length xc27)]), (.bool true)]) (ex_move _) ?_
 simp only [pS, pN, pA, pC, pZ]
 refine do_ rfl (.agg #[(.int .i64 (txO [] l1).start), (.slice xa24 (txO [] l1).reads.length xc25), (.slice xa26 (txO [] l1).writes.length xc27)]) (ex_extract rfl rfl) ?_
 simp only [pS, pN, pA, pC, pZ]
 refine do_ rfl (.bool true) (ex_extract rfl rfl) ?_
 simp only [pS, pN, pA, pC, pZ]
 refine stNew S18 (v := fun n => .pointer (some ⟨n, 0, none⟩)) rfl (ex_alloc (zero_75 _)) (fun n30 w31 S32 => ?_)
 simp only [pS, pN, pA, pC, pZ]
 have S32 : St W (whole W) w31 F19 [⟨n30, [(.int .i64 0), (.slice none 0 0), (.slice none 0 0)], 75⟩, ⟨n2, [(.slice a20 p2.name.length c20), (.slice a21 p2.key.length c21), (.slice a22 p2.value.length c22), (.bool p2.gone)], 30⟩] [] := S32
 refine stStore (i := 0) (v := (.agg #[(.int .i64 (txO [] l1).start), (.slice xa24 (txO [] l1).reads.length xc25), (.slice xa26 (txO [] l1).writes.length xc27)])) S32 rfl rfl rfl rfl (size_75) (allc3 rfl rfl rfl) (Nat.le_of_ble_eq_true rfl) (fun w33 S34 => ?_)
 simp only [pS, pN, pA, pC, pZ]
 have S34 : St W (whole W) w33 F19 [⟨n30, [(.int .i64 (txO [] l1).start), (.slice xa24 (txO [] l1).reads.length xc25), (.slice xa26 (txO [] l1).writes.length xc27)], 75⟩, ⟨n2, [(.slice a20 p2.name.length c20), (.slice a21 p2.key.length c21), (.slice a22 p2.value.length c22), (.bool p2.gone)], 30⟩] [] := S34
 refine do_ rfl (.bool true) (ex_assign _) ?_
 simp only [pS, pN, pA, pC, pZ]
 refine wl_nil (hK16 _ _ ?_)
 refine wp_seq_k (fun K35 hK35 => ?_)
 obtain ⟨hp0, hp1⟩ := pick_bd x3 ((cs.length + 1 : Nat) : Int) (by omega)
 obtain ⟨kn, hkn⟩ : ∃ kn : Nat, pick x3 ((cs.length + 1 : Nat) : Int) = (kn : Int) := ⟨(pick x3 ((cs.length + 1 : Nat) : Int)).toNat, (Int.toNat_of_nonneg hp0).symm⟩
 have hkb : kn < cs.length + 1 := by omega
 refine region_wl ?_
 refine do_ rfl (.int .i64 x3) (ex_move _) ?_
 simp only [pS, pN, pA, pC, pZ]
 refine do_ rfl (.slice a12 cs.length c13) (ex_move _) ?_
 simp only [pS, pN, pA, pC, pZ]
 refine do_ rfl (.int .i64 ((cs.length : Nat) : Int)) (ex_len Try.underlying60 rfl) ?_
 simp only [pS, pN, pA, pC, pZ]
 refine do_ rfl (.int .i64 (((cs.length + 1) : Nat) : Int)) (ex_add (m := ((cs.length : Nat) : Int)) (n := (1 : Int)) (r := (((cs.length + 1) : Nat) : Int)) rfl rfl (by omega) (by omega) (by omega)) ?_
 simp only [pS, pN, pA, pC, pZ]
 refine stTells (v := (.int .i64 ((kn : Nat) : Int))) S34 rfl (ex_fn (vs := #[(.int .i64 x3), (.int .i64 (((cs.length + 1) : Nat) : Int))]) (map2 rfl rfl) rfl (ent_25 _ _)) (hkn ▸ tells_same (picked_spec x3 (((cs.length + 1) : Nat) : Int) _ b3 b3' (by omega) (by omega))) (fun w36 S37 => ?_)
 simp only [pS, pN, pA, pC, pZ]
 refine do_ rfl (.pointer (some ⟨n30, 0, none⟩)) (ex_field (q := ⟨n30, 0, none⟩) rfl (fa_75_0 _ _)) ?_
 simp only [pS, pN, pA, pC, pZ]
 refine stStore (i := 0) (v := (.int .i64 ((kn : Nat) : Int))) S37 rfl rfl rfl rfl (size_3) (allc1 rfl) (Nat.le_of_ble_eq_true rfl) (fun w38 S39 => ?_)
 simp only [pS, pN, pA, pC, pZ]
 have S39 : St W (whole W) w38 F19 [⟨n30, [(.int .i64 ((kn : Nat) : Int)), (.slice xa24 (txO [] l1).reads.length xc25), (.slice xa26 (txO [] l1).writes.length xc27)], 75⟩, ⟨n2, [(.slice a20 p2.name.length c20), (.slice a21 p2.key.length c21), (.slice a22 p2.value.length c22), (.bool p2.gone)], 30⟩] [] := S39
 refine wl_nil (hK35 _ _ ?_)
 refine wp_seq_k (fun K40 hK40 => ?_)
 have hT := txO_ok [] l1
 have hTk := hT.1.from_ (k := ((kn : Nat) : Int)) (by omega) (by omega)
 have hTl := hT.1.from_ (k := (((kn + 1) : Nat) : Int)) (by omega) (by omega)
 obtain ⟨B, hB⟩ := noteX_room (t := (⟨((kn : Nat) : Int), (txO [] l1).reads, (txO [] l1).writes⟩ : Tx)) (r := (readP p2)) (by show (txO [] l1).reads.length < 20; omega)
 have hBk := noteX_ok hTk (readP_ok p2) hB
 obtain ⟨hBsub, hBs⟩ := noteX_sub hB
 refine region_wl ?_
 refine do_ rfl (.agg #[(.int .i64 ((kn : Nat) : Int)), (.slice xa24 (txO [] l1).reads.length xc25), (.slice xa26 (txO [] l1).writes.length xc27)]) (ex_load rfl (loadN (cs := [(.int .i64 ((kn : Nat) : Int)), (.slice xa24 (txO [] l1).reads.length xc25), (.slice xa26 (txO [] l1).writes.length xc27)]) Try.underlying75 rfl (size_75) (St.range S39 (i := 0) rfl 0 [(.int .i64 ((kn : Nat) : Int)), (.slice xa24 (txO [] l1).reads.length xc25), (.slice xa26 (txO [] l1).writes.length xc27)] (sub_range 0 rfl)))) ?_
 simp only [pS, pN, pA, pC, pZ]
 refine do_ rfl (.slice a12 cs.length c13) (ex_move _) ?_
 simp only [pS, pN, pA, pC, pZ]
 refine stTells (v := (.tuple #[(.bool (clashX ((kn : Nat) : Int) ((txO [] l1).reads) cs)), (.int .i64 0)])) S39 rfl (ex_fn (vs := #[(.agg #[(.int .i64 ((kn : Nat) : Int)), (.slice xa24 (txO [] l1).reads.length xc25), (.slice xa26 (txO [] l1).writes.length xc27)]), (.slice a12 cs.length c13)]) (map2 rfl rfl) rfl (ent_47 _ _)) (clashOk_spec _ _ _ _ (⟨((kn : Nat) : Int), (txO [] l1).reads, (txO [] l1).writes⟩ : Tx) cs (S39).sat ⟨_, _, _, _, rfl, r28, r29⟩ (R10.mono le20) (fun c hc => by have := (hh.ok c hc).some.2; omega) hTk) (fun w41 S42 => ?_)
 simp only [pS, pN, pA, pC, pZ]
 refine do_ rfl (.tuple #[(.bool (clashX ((kn : Nat) : Int) ((txO [] l1).reads) cs)), (.int .i64 0)]) (ex_move _) ?_
 simp only [pS, pN, pA, pC, pZ]
 refine do_ rfl (.bool (clashX ((kn : Nat) : Int) ((txO [] l1).reads) cs)) (ex_extract rfl rfl) ?_
 simp only [pS, pN, pA, pC, pZ]
 refine do_ rfl (.int .i64 0) (ex_extract rfl rfl) ?_
 simp only [pS, pN, pA, pC, pZ]
 refine do_ rfl (.bool (clashX ((kn : Nat) : Int) ((txO [] l1).reads) cs)) (ex_assign _) ?_
 simp only [pS, pN, pA, pC, pZ]
 refine do_ rfl (.int .i64 0) (ex_assign _) ?_
 simp only [pS, pN, pA, pC, pZ]
 refine wl_nil (hK40 _ _ ?_)
 refine wp_seq_k (fun K43 hK43 => ?_)
 refine region_late F19 [0, 1, 2, 3, 4, 5, 7] 6 8 [9] [(2, .made (fun F' u => RdV F' u (readP p2))), (3, .made (fun F' u => TxE F' u B 0)), (5, .made (fun F' u => TxV F' u B)), (7, .rel (NewAt w41 [(.int .i64 0), (.slice none 0 0), (.slice none 0 0)] 75) (NewAt.stable _ _ _)), (6, .is (.int .i64 0))] (by kernel_rfl) (by kernel_rfl) rfl rfl rfl rfl ?_
 simp only [opsAt, List.getElem?_cons_succ, List.getElem?_cons_zero, List.map_cons, List.map_nil]
 refine gp_pure rfl rfl (.agg #[(.int .i64 ((kn : Nat) : Int)), (.slice xa24 (txO [] l1).reads.length xc25), (.slice xa26 (txO [] l1).writes.length xc27)]) (fun w44 hCw44 => pureAt_of (ex_load rfl (loadN (cs := [(.int .i64 ((kn : Nat) : Int)), (.slice xa24 (txO [] l1).reads.length xc25), (.slice xa26 (txO [] l1).writes.length xc27)]) Try.underlying75 rfl (size_75) (St.range (St.tells S42 hCw44) (i := 0) rfl 0 [(.int .i64 ((kn : Nat) : Int)), (.slice xa24 (txO [] l1).reads.length xc25), (.slice xa26 (txO [] l1).writes.length xc27)] (sub_range 0 rfl))))) ?_
 simp only [pS, pN, pA, pC, pZ]
 refine gp_pure rfl rfl (.agg #[(.slice a20 p2.name.length c20), (.slice a21 p2.key.length c21), (.slice a22 p2.value.length c22), (.bool p2.gone)]) (fun w44 hCw44 => pureAt_of (ex_load rfl (loadN (cs := [(.slice a20 p2.name.length c20), (.slice a21 p2.key.length c21), (.slice a22 p2.value.length c22), (.bool p2.gone)]) Try.underlying30 rfl (size_30) (St.range (St.tells S42 hCw44) (i := 1) rfl 0 [(.slice a20 p2.name.length c20), (.slice a21 p2.key.length c21), (.slice a22 p2.value.length c22), (.bool p2.gone)] (sub_range 0 rfl))))) ?_
 simp only [pS, pN, pA, pC, pZ]
 refine gp_rel rfl rfl (fun w44 hCw44 hF => does_call (ex_fn (vs := #[(.agg #[(.slice a20 p2.name.length c20), (.slice a21 p2.key.length c21), (.slice a22 p2.value.length c22), (.bool p2.gone)])]) (map1 rfl) rfl (ent_45 _ _)) (call_made S42.sat hCw44 (keepRead_spec _ _ _ p2 ((St.tells S42 hCw44)).sat ⟨_, _, _, _, _, _, rfl, (z20.mono (le9.trans le20)), (z21.mono (le9.trans le20)), (z22.mono (le9.trans le20))⟩))) (fun v45 => ?_)
 simp only [pS, pN, pA, pC, pZ]
 refine gp_rel rfl rfl (fun w44 hCw44 hF_ => ?_) (fun v58 => ?_)
 ·obtain ⟨F46, g47, R48⟩ := hF_.get 2 (by kernel_rfl) rfl rfl
  obtain ⟨xa49, xc50, xa51, xc52, xa53, xc54, rfl, r55, r56, r57⟩ := R48
  exact does_call (ex_fn (vs := #[(.agg #[(.int .i64 ((kn : Nat) : Int)), (.slice xa24 (txO [] l1).reads.length xc25), (.slice xa26 (txO [] l1).writes.length xc27)]), (.agg #[(.slice xa49 (readP p2).name.length xc50), (.slice xa51 (readP p2).key.length xc52), (.bool (readP p2).wide), (.slice xa53 (readP p2).last.length xc54)])]) (map2 rfl rfl) rfl (ent_46 _ _)) (call_made2 g47 (txnNoteIs_spec _ _ _ _ (⟨((kn : Nat) : Int), (txO [] l1).reads, (txO [] l1).writes⟩ : Tx) (readP p2) B (g47).sat ⟨_, _, _, _, rfl, (r28.mono (g47.le S42.sat)), (r29.mono (g47.le S42.sat))⟩ ⟨_, _, _, _, _, _, rfl, r55, r56, r57⟩ hTk (readP_ok p2) hB))
 simp only [pS, pN, pA, pC, pZ]
 refine gp_pure rfl rfl v58 (fun w44 hCw44 => pureAt_of (ex_move _)) ?_
 simp only [pS, pN, pA, pC, pZ]
 refine gp_rel rfl rfl (fun w44 hCw44 hF_ => ?_) (fun v63 => ?_)
 ·obtain ⟨F59, g60, _, rfl, hx62⟩ := hF_.get 3 (by kernel_rfl) rfl rfl
  exact does_val (ex_extract rfl rfl) ⟨F59, g60, hx62⟩ (Below.refl _ _)
 simp only [pS, pN, pA, pC, pZ]
 refine gp_rel rfl rfl (fun w44 hCw44 _ => does_alloc (cs := [(.int .i64 0), (.slice none 0 0), (.slice none 0 0)]) (zero_75 _) rfl hCw44) (fun v64 => ?_)
 simp only [pS, pN, pA, pC, pZ]
 refine gp_nil (late_ rfl rfl (v := (.int .i64 0)) (fun w44 hCw44 hF_ => ?_) ?_)
 ·obtain ⟨F65, g66, _, rfl, hx67⟩ := hF_.get 3 (by kernel_rfl) rfl rfl
  exact fun w1 => pureAt_of (ex_extract rfl rfl)
 intro w68 hC70 hF71
 obtain ⟨n72, rfl, hn73, hb74⟩ := hF71.getR 7 rfl rfl
 have hnbn72 : ∀ u ∈ [(.int .i64 0), (.slice none 0 0), (.slice none 0 0)], ∀ x, u ≠ bv x := by intro u hu x; simp only [List.mem_cons, List.not_mem_nil, or_false] at hu; rcases hu with rfl | rfl | rfl <;> (unfold bv; simp)
 obtain ⟨F75, g76, R77⟩ := hF71.get 5 rfl rfl
 have g78 := g76.dropF S42.sat hn73
 have R79 := TxV.dropT g76.sat hb74 hnbn72 R77
 have S69 := St.addBlk (cs := [(.int .i64 0), (.slice none 0 0), (.slice none 0 0)]) S42 g78 hn73 (dropF_at _ _) hb74
 have le81 : Le _ _ := g78.le S42.sat
 have R82 := R79
 generalize (dropF F75 n72) = F80 at *
 obtain ⟨xa83, xc84, xa85, xc86, rfl, r87, r88⟩ := R82
 clear hF71
 have S69 : St W (whole W) w68 F80 [⟨n72, [(.int .i64 0), (.slice none 0 0), (.slice none 0 0)], 75⟩, ⟨n30, [(.int .i64 ((kn : Nat) : Int)), (.slice xa24 (txO [] l1).reads.length xc25), (.slice xa26 (txO [] l1).writes.length xc27)], 75⟩, ⟨n2, [(.slice a20 p2.name.length c20), (.slice a21 p2.key.length c21), (.slice a22 p2.value.length c22), (.bool p2.gone)], 30⟩] [] := S69
 simp only [pS, pN, pA, pC, pZ]
 refine stLate (i := 0) (v := (.agg #[(.int .i64 B.start), (.slice xa83 B.reads.length xc84), (.slice xa85 B.writes.length xc86)])) S69 rfl rfl rfl (size_75) (allc3 rfl rfl rfl) (Nat.le_of_ble_eq_true rfl) (fun w89 S90 => ?_)
 have S90 : St W (whole W) w89 F80 [⟨n72, [(.int .i64 B.start), (.slice xa83 B.reads.length xc84), (.slice xa85 B.writes.length xc86)], 75⟩, ⟨n30, [(.int .i64 ((kn : Nat) : Int)), (.slice xa24 (txO [] l1).reads.length xc25), (.slice xa26 (txO [] l1).writes.length xc27)], 75⟩, ⟨n2, [(.slice a20 p2.name.length c20), (.slice a21 p2.key.length c21), (.slice a22 p2.value.length c22), (.bool p2.gone)], 30⟩] [] := S90
 refine do_ rfl (.int .i64 0) (ex_assign _) ?_
 simp only [pS, pN, pA, pC, pZ]
 refine wl_nil (hK43 _ _ ?_)
 refine wp_seq_k (fun K91 hK91 => region_wl ?_)
 refine do_ rfl (.agg #[(.int .i64 B.start), (.slice xa83 B.reads.length xc84), (.slice xa85 B.writes.length xc86)]) (ex_load rfl (loadN (cs := [(.int .i64 B.start), (.slice xa83 B.reads.length xc84), (.slice xa85 B.writes.length xc86)]) Try.underlying75 rfl (size_75) (St.range S90 (i := 0) rfl 0 [(.int .i64 B.start), (.slice xa83 B.reads.length xc84), (.slice xa85 B.writes.length xc86)] (sub_range 0 rfl)))) ?_
 simp only [pS, pN, pA, pC, pZ]
 refine do_ rfl (.slice a12 cs.length c13) (ex_move _) ?_
 simp only [pS, pN, pA, pC, pZ]
 refine stTells (v := (.tuple #[(.bool (clashX (B.start) B.reads cs)), (.int .i64 0)])) S90 rfl (ex_fn (vs := #[(.agg #[(.int .i64 B.start), (.slice xa83 B.reads.length xc84), (.slice xa85 B.writes.length xc86)]), (.slice a12 cs.length c13)]) (map2 rfl rfl) rfl (ent_47 _ _)) (clashOk_spec _ _ _ _ B cs (S90).sat ⟨_, _, _, _, rfl, r87, r88⟩ (R10.mono (le20.trans le81)) (fun c hc => by have := (hh.ok c hc).some.2; omega) hBk) (fun w92 S93 => ?_)
 simp only [pS, pN, pA, pC, pZ]
 refine do_ rfl (.tuple #[(.bool (clashX (B.start) B.reads cs)), (.int .i64 0)]) (ex_move _) ?_
 simp only [pS, pN, pA, pC, pZ]
 refine do_ rfl (.bool (clashX (B.start) B.reads cs)) (ex_extract rfl rfl) ?_
 simp only [pS, pN, pA, pC, pZ]
 refine do_ rfl (.int .i64 0) (ex_extract rfl rfl) ?_
 simp only [pS, pN, pA, pC, pZ]
 refine do_ rfl (.bool (clashX (B.start) B.reads cs)) (ex_assign _) ?_
 simp only [pS, pN, pA, pC, pZ]
 refine do_ rfl (.int .i64 0) (ex_assign _) ?_
 simp only [pS, pN, pA, pC, pZ]
 refine wl_nil (hK91 _ _ ?_)
 refine wp_seq_k (fun K94 hK94 => region_wl ?_)
 refine do_ rfl (.agg #[(.int .i64 ((kn : Nat) : Int)), (.slice xa24 (txO [] l1).reads.length xc25), (.slice xa26 (txO [] l1).writes.length xc27)]) (ex_load rfl (loadN (cs := [(.int .i64 ((kn : Nat) : Int)), (.slice xa24 (txO [] l1).reads.length xc25), (.slice xa26 (txO [] l1).writes.length xc27)]) Try.underlying75 rfl (size_75) (St.range S93 (i := 1) rfl 0 [(.int .i64 ((kn : Nat) : Int)), (.slice xa24 (txO [] l1).reads.length xc25), (.slice xa26 (txO [] l1).writes.length xc27)] (sub_range 0 rfl)))) ?_
 simp only [pS, pN, pA, pC, pZ]
 refine stNew S93 (v := fun n => .pointer (some ⟨n, 0, none⟩)) rfl (ex_alloc (zero_75 _)) (fun n95 w96 S97 => ?_)
 simp only [pS, pN, pA, pC, pZ]
 have S97 : St W (whole W) w96 F80 [⟨n95, [(.int .i64 0), (.slice none 0 0), (.slice none 0 0)], 75⟩, ⟨n72, [(.int .i64 B.start), (.slice xa83 B.reads.length xc84), (.slice xa85 B.writes.length xc86)], 75⟩, ⟨n30, [(.int .i64 ((kn : Nat) : Int)), (.slice xa24 (txO [] l1).reads.length xc25), (.slice xa26 (txO [] l1).writes.length xc27)], 75⟩, ⟨n2, [(.slice a20 p2.name.length c20), (.slice a21 p2.key.length c21), (.slice a22 p2.value.length c22), (.bool p2.gone)], 30⟩] [] := S97
 refine stStore (i := 0) (v := (.agg #[(.int .i64 ((kn : Nat) : Int)), (.slice xa24 (txO [] l1).reads.length xc25), (.slice xa26 (txO [] l1).writes.length xc27)])) S97 rfl rfl rfl rfl (size_75) (allc3 rfl rfl rfl) (Nat.le_of_ble_eq_true rfl) (fun w98 S99 => ?_)
 simp only [pS, pN, pA, pC, pZ]
 have S99 : St W (whole W) w98 F80 [⟨n95, [(.int .i64 ((kn : Nat) : Int)), (.slice xa24 (txO [] l1).reads.length xc25), (.slice xa26 (txO [] l1).writes.length xc27)], 75⟩, ⟨n72, [(.int .i64 B.start), (.slice xa83 B.reads.length xc84), (.slice xa85 B.writes.length xc86)], 75⟩, ⟨n30, [(.int .i64 ((kn : Nat) : Int)), (.slice xa24 (txO [] l1).reads.length xc25), (.slice xa26 (txO [] l1).writes.length xc27)], 75⟩, ⟨n2, [(.slice a20 p2.name.length c20), (.slice a21 p2.key.length c21), (.slice a22 p2.value.length c22), (.bool p2.gone)], 30⟩] [] := S99
 refine wl_nil (hK94 _ _ ?_)
 refine wp_seq_k (fun K100 hK100 => region_wl ?_)
 refine do_ rfl (.pointer (some ⟨n95, 0, none⟩)) (ex_field (q := ⟨n95, 0, none⟩) rfl (fa_75_0 _ _)) ?_
 simp only [pS, pN, pA, pC, pZ]
 refine do_ rfl (.int .i64 ((kn : Nat) : Int)) (ex_load rfl (load1 (nagg_3 _) (St.cell S99 (i := 0) rfl rfl))) ?_
 simp only [pS, pN, pA, pC, pZ]
 refine do_ rfl (.int .i64 (((kn + 1) : Nat) : Int)) (ex_add (m := ((kn : Nat) : Int)) (n := (1 : Int)) (r := (((kn + 1) : Nat) : Int)) rfl rfl (by omega) (by omega) (by omega)) ?_
 simp only [pS, pN, pA, pC, pZ]
 refine do_ rfl (.pointer (some ⟨n95, 0, none⟩)) (ex_field (q := ⟨n95, 0, none⟩) rfl (fa_75_0 _ _)) ?_
 simp only [pS, pN, pA, pC, pZ]
 refine stStore (i := 0) (v := (.int .i64 (((kn + 1) : Nat) : Int))) S99 rfl rfl rfl rfl (size_3) (allc1 rfl) (Nat.le_of_ble_eq_true rfl) (fun w101 S102 => ?_)
 simp only [pS, pN, pA, pC, pZ]
 have S102 : St W (whole W) w101 F80 [⟨n95, [(.int .i64 (((kn + 1) : Nat) : Int)), (.slice xa24 (txO [] l1).reads.length xc25), (.slice xa26 (txO [] l1).writes.length xc27)], 75⟩, ⟨n72, [(.int .i64 B.start), (.slice xa83 B.reads.length xc84), (.slice xa85 B.writes.length xc86)], 75⟩, ⟨n30, [(.int .i64 ((kn : Nat) : Int)), (.slice xa24 (txO [] l1).reads.length xc25), (.slice xa26 (txO [] l1).writes.length xc27)], 75⟩, ⟨n2, [(.slice a20 p2.name.length c20), (.slice a21 p2.key.length c21), (.slice a22 p2.value.length c22), (.bool p2.gone)], 30⟩] [] := S102
 refine wl_nil (hK100 _ _ ?_)
 refine wp_seq_k (fun K103 hK103 => region_wl ?_)
 refine do_ rfl (.agg #[(.int .i64 (((kn + 1) : Nat) : Int)), (.slice xa24 (txO [] l1).reads.length xc25), (.slice xa26 (txO [] l1).writes.length xc27)]) (ex_load rfl (loadN (cs := [(.int .i64 (((kn + 1) : Nat) : Int)), (.slice xa24 (txO [] l1).reads.length xc25), (.slice xa26 (txO [] l1).writes.length xc27)]) Try.underlying75 rfl (size_75) (St.range S102 (i := 0) rfl 0 [(.int .i64 (((kn + 1) : Nat) : Int)), (.slice xa24 (txO [] l1).reads.length xc25), (.slice xa26 (txO [] l1).writes.length xc27)] (sub_range 0 rfl)))) ?_
 simp only [pS, pN, pA, pC, pZ]
 refine do_ rfl (.slice a12 cs.length c13) (ex_move _) ?_
 simp only [pS, pN, pA, pC, pZ]
 refine stTells (v := (.tuple #[(.bool (clashX (((kn + 1) : Nat) : Int) ((txO [] l1).reads) cs)), (.int .i64 0)])) S102 rfl (ex_fn (vs := #[(.agg #[(.int .i64 (((kn + 1) : Nat) : Int)), (.slice xa24 (txO [] l1).reads.length xc25), (.slice xa26 (txO [] l1).writes.length xc27)]), (.slice a12 cs.length c13)]) (map2 rfl rfl) rfl (ent_47 _ _)) (clashOk_spec _ _ _ _ (⟨(((kn + 1) : Nat) : Int), (txO [] l1).reads, (txO [] l1).writes⟩ : Tx) cs (S102).sat ⟨_, _, _, _, rfl, (r28.mono le81), (r29.mono le81)⟩ (R10.mono (le20.trans le81)) (fun c hc => by have := (hh.ok c hc).some.2; omega) hTl) (fun w104 S105 => ?_)
 simp only [pS, pN, pA, pC, pZ]
 refine do_ rfl (.tuple #[(.bool (clashX (((kn + 1) : Nat) : Int) ((txO [] l1).reads) cs)), (.int .i64 0)]) (ex_move _) ?_
 simp only [pS, pN, pA, pC, pZ]
 refine do_ rfl (.bool (clashX (((kn + 1) : Nat) : Int) ((txO [] l1).reads) cs)) (ex_extract rfl rfl) ?_
 simp only [pS, pN, pA, pC, pZ]
 refine do_ rfl (.int .i64 0) (ex_extract rfl rfl) ?_
 simp only [pS, pN, pA, pC, pZ]
 refine do_ rfl (.bool (clashX (((kn + 1) : Nat) : Int) ((txO [] l1).reads) cs)) (ex_assign _) ?_
 simp only [pS, pN, pA, pC, pZ]
 refine do_ rfl (.int .i64 0) (ex_assign _) ?_
 simp only [pS, pN, pA, pC, pZ]
 refine wl_nil (hK103 _ _ ?_)
 refine wp_seq_k (fun K106 hK106 => region_wl ?_)
 refine do_ rfl (.agg #[(.slice a20 p2.name.length c20), (.slice a21 p2.key.length c21), (.slice a22 p2.value.length c22), (.bool p2.gone)]) (ex_load rfl (loadN (cs := [(.slice a20 p2.name.length c20), (.slice a21 p2.key.length c21), (.slice a22 p2.value.length c22), (.bool p2.gone)]) Try.underlying30 rfl (size_30) (St.range S105 (i := 3) rfl 0 [(.slice a20 p2.name.length c20), (.slice a21 p2.key.length c21), (.slice a22 p2.value.length c22), (.bool p2.gone)] (sub_range 0 rfl)))) ?_
 simp only [pS, pN, pA, pC, pZ]
 refine stGives S105 rfl (ex_fn (vs := #[(.agg #[(.slice a20 p2.name.length c20), (.slice a21 p2.key.length c21), (.slice a22 p2.value.length c22), (.bool p2.gone)])]) (map1 rfl) rfl (ent_19 _ _)) (keepWrite_spec _ _ _ p2 (S105).sat ⟨_, _, _, _, _, _, rfl, (z20.mono ((le9.trans le20).trans le81)), (z21.mono ((le9.trans le20).trans le81)), (z22.mono ((le9.trans le20).trans le81))⟩) ?_
 intro v112 w107 F109 S108 le110 R111
 obtain ⟨xa113, xc114, xa115, xc116, xa117, xc118, rfl, r119, r120, r121⟩ := R111
 simp only [pS, pN, pA, pC, pZ]
 refine stNew S108 (v := fun n => .pointer (some ⟨n, 0, none⟩)) rfl (ex_alloc (zero_27 _)) (fun n122 w123 S124 => ?_)
 simp only [pS, pN, pA, pC, pZ]
 have S124 : St W (whole W) w123 F109 [⟨n122, [(.slice none 0 0), (.slice none 0 0), (.bool false), (.slice none 0 0)], 27⟩, ⟨n95, [(.int .i64 (((kn + 1) : Nat) : Int)), (.slice xa24 (txO [] l1).reads.length xc25), (.slice xa26 (txO [] l1).writes.length xc27)], 75⟩, ⟨n72, [(.int .i64 B.start), (.slice xa83 B.reads.length xc84), (.slice xa85 B.writes.length xc86)], 75⟩, ⟨n30, [(.int .i64 ((kn : Nat) : Int)), (.slice xa24 (txO [] l1).reads.length xc25), (.slice xa26 (txO [] l1).writes.length xc27)], 75⟩, ⟨n2, [(.slice a20 p2.name.length c20), (.slice a21 p2.key.length c21), (.slice a22 p2.value.length c22), (.bool p2.gone)], 30⟩] [] := S124
 refine stStore (i := 0) (v := (.agg #[(.slice xa113 (writeP p2).name.length xc114), (.slice xa115 (writeP p2).key.length xc116), (.bool (writeP p2).gone), (.slice xa117 (writeP p2).value.length xc118)])) S124 rfl rfl rfl rfl (size_27) (allc4 rfl rfl rfl rfl) (Nat.le_of_ble_eq_true rfl) (fun w125 S126 => ?_)
 simp only [pS, pN, pA, pC, pZ]
 have S126 : St W (whole W) w125 F109 [⟨n122, [(.slice xa113 (writeP p2).name.length xc114), (.slice xa115 (writeP p2).key.length xc116), (.bool (writeP p2).gone), (.slice xa117 (writeP p2).value.length xc118)], 27⟩, ⟨n95, [(.int .i64 (((kn + 1) : Nat) : Int)), (.slice xa24 (txO [] l1).reads.length xc25), (.slice xa26 (txO [] l1).writes.length xc27)], 75⟩, ⟨n72, [(.int .i64 B.start), (.slice xa83 B.reads.length xc84), (.slice xa85 B.writes.length xc86)], 75⟩, ⟨n30, [(.int .i64 ((kn : Nat) : Int)), (.slice xa24 (txO [] l1).reads.length xc25), (.slice xa26 (txO [] l1).writes.length xc27)], 75⟩, ⟨n2, [(.slice a20 p2.name.length c20), (.slice a21 p2.key.length c21), (.slice a22 p2.value.length c22), (.bool p2.gone)], 30⟩] [] := S126
 refine wl_nil (hK106 _ _ ?_)
 refine wp_seq_k (fun K127 hK127 => ?_)
 have hRS : RdOk (⟨(writeP p2).name, (writeP p2).key, false, ([] : By)⟩ : Rd) := ⟨(writeP_ok p2).name, ⟨(writeP_ok p2).key1, (writeP_ok p2).key2⟩, rfl⟩
 have hS : noteX nilX (⟨(writeP p2).name, (writeP p2).key, false, ([] : By)⟩ : Rd) = some (⟨0, [(⟨(writeP p2).name, (writeP p2).key, false, ([] : By)⟩ : Rd)], []⟩ : Tx) := by unfold noteX nilX; rw [if_neg (by simp), if_neg (by simp)]; rfl
 have hSk := noteX_ok nilX_ok hRS hS
 refine region_wl ?_
 refine do_ rfl (.agg #[(.int .i64 0), (.slice none 0 0), (.slice none 0 0)]) (ex_build (ps := #[]) (bmap0) (by kernel_rfl)) ?_
 simp only [pS, pN, pA, pC, pZ]
 refine do_ rfl (.pointer (some ⟨n122, 0, none⟩)) (ex_field (q := ⟨n122, 0, none⟩) rfl (fa_27_0 _ _)) ?_
 simp only [pS, pN, pA, pC, pZ]
 refine do_ rfl (.slice xa113 (writeP p2).name.length xc114) (ex_load rfl (load1 (nagg_25 _) (St.cell S126 (i := 0) rfl rfl))) ?_
 simp only [pS, pN, pA, pC, pZ]
 refine do_ rfl (.pointer (some ⟨n122, 1, none⟩)) (ex_field (q := ⟨n122, 1, none⟩) rfl (fa_27_1 _ _)) ?_
 simp only [pS, pN, pA, pC, pZ]
 refine do_ rfl (.slice xa115 (writeP p2).key.length xc116) (ex_load rfl (load1 (nagg_25 _) (St.cell S126 (i := 0) rfl rfl))) ?_
 simp only [pS, pN, pA, pC, pZ]
 refine do_ rfl (.agg #[(.slice xa113 (writeP p2).name.length xc114), (.slice xa115 (writeP p2).key.length xc116), (.bool false), (.slice none 0 0)]) (ex_build (ps := #[(0, (.slice xa113 (writeP p2).name.length xc114)), (1, (.slice xa115 (writeP p2).key.length xc116))]) (bmap2 rfl rfl) (by kernel_rfl)) ?_
 simp only [pS, pN, pA, pC, pZ]
 refine stGives S126 rfl (ex_fn (vs := #[(.agg #[(.int .i64 0), (.slice none 0 0), (.slice none 0 0)]), (.agg #[(.slice xa113 (writeP p2).name.length xc114), (.slice xa115 (writeP p2).key.length xc116), (.bool false), (.slice none 0 0)])]) (map2 rfl rfl) rfl (ent_46 _ _)) (txnNoteIs_spec _ _ _ _ nilX (⟨(writeP p2).name, (writeP p2).key, false, ([] : By)⟩ : Rd) (⟨0, [(⟨(writeP p2).name, (writeP p2).key, false, ([] : By)⟩ : Rd)], []⟩ : Tx) (S126).sat (TxV.nil _) ⟨_, _, _, _, _, _, rfl, r119, r120, (Bs.nil _)⟩ nilX_ok hRS hS) ?_
 intro v133 w128 F130 S129 le131 R132
 obtain ⟨_, rfl, R134⟩ := R132
 obtain ⟨xa135, xc136, xa137, xc138, rfl, r139, r140⟩ := R134
 simp only [pS, pN, pA, pC, pZ]
 refine do_ rfl (.tuple #[(.agg #[(.int .i64 (⟨0, [(⟨(writeP p2).name, (writeP p2).key, false, ([] : By)⟩ : Rd)], []⟩ : Tx).start), (.slice xa135 (⟨0, [(⟨(writeP p2).name, (writeP p2).key, false, ([] : By)⟩ : Rd)], []⟩ : Tx).reads.length xc136), (.slice xa137 (⟨0, [(⟨(writeP p2).name, (writeP p2).key, false, ([] : By)⟩ : Rd)], []⟩ : Tx).writes.length xc138)]), (.int .i64 0)]) (ex_move _) ?_
 simp only [pS, pN, pA, pC, pZ]
 refine do_ rfl (.agg #[(.int .i64 (⟨0, [(⟨(writeP p2).name, (writeP p2).key, false, ([] : By)⟩ : Rd)], []⟩ : Tx).start), (.slice xa135 (⟨0, [(⟨(writeP p2).name, (writeP p2).key, false, ([] : By)⟩ : Rd)], []⟩ : Tx).reads.length xc136), (.slice xa137 (⟨0, [(⟨(writeP p2).name, (writeP p2).key, false, ([] : By)⟩ : Rd)], []⟩ : Tx).writes.length xc138)]) (ex_extract rfl rfl) ?_
 simp only [pS, pN, pA, pC, pZ]
 refine do_ rfl (.int .i64 0) (ex_extract rfl rfl) ?_
 simp only [pS, pN, pA, pC, pZ]
 refine stNew S129 (v := fun n => .pointer (some ⟨n, 0, none⟩)) rfl (ex_alloc (zero_75 _)) (fun n141 w142 S143 => ?_)
 simp only [pS, pN, pA, pC, pZ]
 have S143 : St W (whole W) w142 F130 [⟨n141, [(.int .i64 0), (.slice none 0 0), (.slice none 0 0)], 75⟩, ⟨n122, [(.slice xa113 (writeP p2).name.length xc114), (.slice xa115 (writeP p2).key.length xc116), (.bool (writeP p2).gone), (.slice xa117 (writeP p2).value.length xc118)], 27⟩, ⟨n95, [(.int .i64 (((kn + 1) : Nat) : Int)), (.slice xa24 (txO [] l1).reads.length xc25), (.slice xa26 (txO [] l1).writes.length xc27)], 75⟩, ⟨n72, [(.int .i64 B.start), (.slice xa83 B.reads.length xc84), (.slice xa85 B.writes.length xc86)], 75⟩, ⟨n30, [(.int .i64 ((kn : Nat) : Int)), (.slice xa24 (txO [] l1).reads.length xc25), (.slice xa26 (txO [] l1).writes.length xc27)], 75⟩, ⟨n2, [(.slice a20 p2.name.length c20), (.slice a21 p2.key.length c21), (.slice a22 p2.value.length c22), (.bool p2.gone)], 30⟩] [] := S143
 refine stStore (i := 0) (v := (.agg #[(.int .i64 (⟨0, [(⟨(writeP p2).name, (writeP p2).key, false, ([] : By)⟩ : Rd)], []⟩ : Tx).start), (.slice xa135 (⟨0, [(⟨(writeP p2).name, (writeP p2).key, false, ([] : By)⟩ : Rd)], []⟩ : Tx).reads.length xc136), (.slice xa137 (⟨0, [(⟨(writeP p2).name, (writeP p2).key, false, ([] : By)⟩ : Rd)], []⟩ : Tx).writes.length xc138)])) S143 rfl rfl rfl rfl (size_75) (allc3 rfl rfl rfl) (Nat.le_of_ble_eq_true rfl) (fun w144 S145 => ?_)
 simp only [pS, pN, pA, pC, pZ]
 have S145 : St W (whole W) w144 F130 [⟨n141, [(.int .i64 (⟨0, [(⟨(writeP p2).name, (writeP p2).key, false, ([] : By)⟩ : Rd)], []⟩ : Tx).start), (.slice xa135 (⟨0, [(⟨(writeP p2).name, (writeP p2).key, false, ([] : By)⟩ : Rd)], []⟩ : Tx).reads.length xc136), (.slice xa137 (⟨0, [(⟨(writeP p2).name, (writeP p2).key, false, ([] : By)⟩ : Rd)], []⟩ : Tx).writes.length xc138)], 75⟩, ⟨n122, [(.slice xa113 (writeP p2).name.length xc114), (.slice xa115 (writeP p2).key.length xc116), (.bool (writeP p2).gone), (.slice xa117 (writeP p2).value.length xc118)], 27⟩, ⟨n95, [(.int .i64 (((kn + 1) : Nat) : Int)), (.slice xa24 (txO [] l1).reads.length xc25), (.slice xa26 (txO [] l1).writes.length xc27)], 75⟩, ⟨n72, [(.int .i64 B.start), (.slice xa83 B.reads.length xc84), (.slice xa85 B.writes.length xc86)], 75⟩, ⟨n30, [(.int .i64 ((kn : Nat) : Int)), (.slice xa24 (txO [] l1).reads.length xc25), (.slice xa26 (txO [] l1).writes.length xc27)], 75⟩, ⟨n2, [(.slice a20 p2.name.length c20), (.slice a21 p2.key.length c21), (.slice a22 p2.value.length c22), (.bool p2.gone)], 30⟩] [] := S145
 refine do_ rfl (.int .i64 0) (ex_assign _) ?_
 simp only [pS, pN, pA, pC, pZ]
 refine wl_nil (hK127 _ _ ?_)
 refine wp_seq_k (fun K146 hK146 => region_wl ?_)
 refine do_ rfl (.agg #[(.int .i64 (⟨0, [(⟨(writeP p2).name, (writeP p2).key, false, ([] : By)⟩ : Rd)], []⟩ : Tx).start), (.slice xa135 (⟨0, [(⟨(writeP p2).name, (writeP p2).key, false, ([] : By)⟩ : Rd)], []⟩ : Tx).reads.length xc136), (.slice xa137 (⟨0, [(⟨(writeP p2).name, (writeP p2).key, false, ([] : By)⟩ : Rd)], []⟩ : Tx).writes.length xc138)]) (ex_load rfl (loadN (cs := [(.int .i64 (⟨0, [(⟨(writeP p2).name, (writeP p2).key, false, ([] : By)⟩ : Rd)], []⟩ : Tx).start), (.slice xa135 (⟨0, [(⟨(writeP p2).name, (writeP p2).key, false, ([] : By)⟩ : Rd)], []⟩ : Tx).reads.length xc136), (.slice xa137 (⟨0, [(⟨(writeP p2).name, (writeP p2).key, false, ([] : By)⟩ : Rd)], []⟩ : Tx).writes.length xc138)]) Try.underlying75 rfl (size_75) (St.range S145 (i := 0) rfl 0 [(.int .i64 (⟨0, [(⟨(writeP p2).name, (writeP p2).key, false, ([] : By)⟩ : Rd)], []⟩ : Tx).start), (.slice xa135 (⟨0, [(⟨(writeP p2).name, (writeP p2).key, false, ([] : By)⟩ : Rd)], []⟩ : Tx).reads.length xc136), (.slice xa137 (⟨0, [(⟨(writeP p2).name, (writeP p2).key, false, ([] : By)⟩ : Rd)], []⟩ : Tx).writes.length xc138)] (sub_range 0 rfl)))) ?_
 simp only [pS, pN, pA, pC, pZ]
 refine do_ rfl (.agg #[(.slice xa113 (writeP p2).name.length xc114), (.slice xa115 (writeP p2).key.length xc116), (.bool (writeP p2).gone), (.slice xa117 (writeP p2).value.length xc118)]) (ex_load rfl (loadN (cs := [(.slice xa113 (writeP p2).name.length xc114), (.slice xa115 (writeP p2).key.length xc116), (.bool (writeP p2).gone), (.slice xa117 (writeP p2).value.length xc118)]) Try.underlying27 rfl (size_27) (St.range S145 (i := 1) rfl 0 [(.slice xa113 (writeP p2).name.length xc114), (.slice xa115 (writeP p2).key.length xc116), (.bool (writeP p2).gone), (.slice xa117 (writeP p2).value.length xc118)] (sub_range 0 rfl)))) ?_
 simp only [pS, pN, pA, pC, pZ]
 refine stNew S145 (v := fun n => .slice (some ⟨n, 0, none⟩) 1 1) rfl (ex_lit (ps := #[(0, (.agg #[(.slice xa113 (writeP p2).name.length xc114), (.slice xa115 (writeP p2).key.length xc116), (.bool (writeP p2).gone), (.slice xa117 (writeP p2).value.length xc118)]))]) (cells := #[(.slice xa113 (writeP p2).name.length xc114), (.slice xa115 (writeP p2).key.length xc116), (.bool (writeP p2).gone), (.slice xa117 (writeP p2).value.length xc118)]) (E := 27) (bmap1 rfl) (fun w => by kernel_rfl)) (fun n147 w148 S149 => ?_)
 simp only [pS, pN, pA, pC, pZ]
 have S149 : St W (whole W) w148 F130 [⟨n147, [(.slice xa113 (writeP p2).name.length xc114), (.slice xa115 (writeP p2).key.length xc116), (.bool (writeP p2).gone), (.slice xa117 (writeP p2).value.length xc118)], 27⟩, ⟨n141, [(.int .i64 (⟨0, [(⟨(writeP p2).name, (writeP p2).key, false, ([] : By)⟩ : Rd)], []⟩ : Tx).start), (.slice xa135 (⟨0, [(⟨(writeP p2).name, (writeP p2).key, false, ([] : By)⟩ : Rd)], []⟩ : Tx).reads.length xc136), (.slice xa137 (⟨0, [(⟨(writeP p2).name, (writeP p2).key, false, ([] : By)⟩ : Rd)], []⟩ : Tx).writes.length xc138)], 75⟩, ⟨n122, [(.slice xa113 (writeP p2).name.length xc114), (.slice xa115 (writeP p2).key.length xc116), (.bool (writeP p2).gone), (.slice xa117 (writeP p2).value.length xc118)], 27⟩, ⟨n95, [(.int .i64 (((kn + 1) : Nat) : Int)), (.slice xa24 (txO [] l1).reads.length xc25), (.slice xa26 (txO [] l1).writes.length xc27)], 75⟩, ⟨n72, [(.int .i64 B.start), (.slice xa83 B.reads.length xc84), (.slice xa85 B.writes.length xc86)], 75⟩, ⟨n30, [(.int .i64 ((kn : Nat) : Int)), (.slice xa24 (txO [] l1).reads.length xc25), (.slice xa26 (txO [] l1).writes.length xc27)], 75⟩, ⟨n2, [(.slice a20 p2.name.length c20), (.slice a21 p2.key.length c21), (.slice a22 p2.value.length c22), (.bool p2.gone)], 30⟩] [] := S149
 refine do_ rfl (.agg #[(.int .i64 1), (.slice (some ⟨n147, 0, none⟩) 1 1)]) (ex_build (ps := #[(0, (.int .i64 1)), (1, (.slice (some ⟨n147, 0, none⟩) 1 1))]) (bmap2 rfl rfl) (by kernel_rfl)) ?_
 simp only [pS, pN, pA, pC, pZ]
 refine stNew S149 (v := fun n => .slice (some ⟨n, 0, none⟩) 1 1) rfl (ex_lit (ps := #[(0, (.agg #[(.int .i64 1), (.slice (some ⟨n147, 0, none⟩) 1 1)]))]) (cells := #[(.int .i64 1), (.slice (some ⟨n147, 0, none⟩) 1 1)]) (E := 50) (bmap1 rfl) (fun w => by kernel_rfl)) (fun n150 w151 S152 => ?_)
 simp only [pS, pN, pA, pC, pZ]
 have S152 : St W (whole W) w151 F130 [⟨n150, [(.int .i64 1), (.slice (some ⟨n147, 0, none⟩) 1 1)], 50⟩, ⟨n147, [(.slice xa113 (writeP p2).name.length xc114), (.slice xa115 (writeP p2).key.length xc116), (.bool (writeP p2).gone), (.slice xa117 (writeP p2).value.length xc118)], 27⟩, ⟨n141, [(.int .i64 (⟨0, [(⟨(writeP p2).name, (writeP p2).key, false, ([] : By)⟩ : Rd)], []⟩ : Tx).start), (.slice xa135 (⟨0, [(⟨(writeP p2).name, (writeP p2).key, false, ([] : By)⟩ : Rd)], []⟩ : Tx).reads.length xc136), (.slice xa137 (⟨0, [(⟨(writeP p2).name, (writeP p2).key, false, ([] : By)⟩ : Rd)], []⟩ : Tx).writes.length xc138)], 75⟩, ⟨n122, [(.slice xa113 (writeP p2).name.length xc114), (.slice xa115 (writeP p2).key.length xc116), (.bool (writeP p2).gone), (.slice xa117 (writeP p2).value.length xc118)], 27⟩, ⟨n95, [(.int .i64 (((kn + 1) : Nat) : Int)), (.slice xa24 (txO [] l1).reads.length xc25), (.slice xa26 (txO [] l1).writes.length xc27)], 75⟩, ⟨n72, [(.int .i64 B.start), (.slice xa83 B.reads.length xc84), (.slice xa85 B.writes.length xc86)], 75⟩, ⟨n30, [(.int .i64 ((kn : Nat) : Int)), (.slice xa24 (txO [] l1).reads.length xc25), (.slice xa26 (txO [] l1).writes.length xc27)], 75⟩, ⟨n2, [(.slice a20 p2.name.length c20), (.slice a21 p2.key.length c21), (.slice a22 p2.value.length c22), (.bool p2.gone)], 30⟩] [] := S152
 obtain ⟨S153, le154, hc155⟩ := St.freezeBlk S152 (i := 1) rfl
 have r157 : Wrs _ (.slice (some ⟨n147, 0, none⟩) 1 1) [(writeP p2)] := sl_of_block (R := WrC) (l := [(writeP p2)]) (el := [[(.slice xa113 (writeP p2).name.length xc114), (.slice xa115 (writeP p2).key.length xc116), (.bool (writeP p2).gone), (.slice xa117 (writeP p2).value.length xc118)]]) hc155 rfl ⟨⟨_, _, _, _, rfl, ((r119.mono le131).mono le154), ((r120.mono le131).mono le154), rfl, ((r121.mono le131).mono le154)⟩, trivial⟩ (by simp) (by unfold maxLen; simp)
 generalize addF F130 w151 n147 = F156 at *
 have S153 : St W (whole W) w151 F156 [⟨n150, [(.int .i64 1), (.slice (some ⟨n147, 0, none⟩) 1 1)], 50⟩, ⟨n141, [(.int .i64 (⟨0, [(⟨(writeP p2).name, (writeP p2).key, false, ([] : By)⟩ : Rd)], []⟩ : Tx).start), (.slice xa135 (⟨0, [(⟨(writeP p2).name, (writeP p2).key, false, ([] : By)⟩ : Rd)], []⟩ : Tx).reads.length xc136), (.slice xa137 (⟨0, [(⟨(writeP p2).name, (writeP p2).key, false, ([] : By)⟩ : Rd)], []⟩ : Tx).writes.length xc138)], 75⟩, ⟨n122, [(.slice xa113 (writeP p2).name.length xc114), (.slice xa115 (writeP p2).key.length xc116), (.bool (writeP p2).gone), (.slice xa117 (writeP p2).value.length xc118)], 27⟩, ⟨n95, [(.int .i64 (((kn + 1) : Nat) : Int)), (.slice xa24 (txO [] l1).reads.length xc25), (.slice xa26 (txO [] l1).writes.length xc27)], 75⟩, ⟨n72, [(.int .i64 B.start), (.slice xa83 B.reads.length xc84), (.slice xa85 B.writes.length xc86)], 75⟩, ⟨n30, [(.int .i64 ((kn : Nat) : Int)), (.slice xa24 (txO [] l1).reads.length xc25), (.slice xa26 (txO [] l1).writes.length xc27)], 75⟩, ⟨n2, [(.slice a20 p2.name.length c20), (.slice a21 p2.key.length c21), (.slice a22 p2.value.length c22), (.bool p2.gone)], 30⟩] [] := S153
 obtain ⟨S158, le159, hc160⟩ := St.freezeBlk S153 (i := 0) rfl
 have r162 : Cms _ (.slice (some ⟨n150, 0, none⟩) 1 1) [(⟨1, [(writeP p2)]⟩ : Cm)] := sl_of_block (R := CmC) (l := [(⟨1, [(writeP p2)]⟩ : Cm)]) (el := [[(.int .i64 1), (.slice (some ⟨n147, 0, none⟩) 1 1)]]) hc160 rfl ⟨⟨_, _, rfl, rfl, (r157.mono le159)⟩, trivial⟩ (by simp) (by unfold maxLen; simp)
 generalize addF F156 w151 n150 = F161 at *
 have S158 : St W (whole W) w151 F161 [⟨n141, [(.int .i64 (⟨0, [(⟨(writeP p2).name, (writeP p2).key, false, ([] : By)⟩ : Rd)], []⟩ : Tx).start), (.slice xa135 (⟨0, [(⟨(writeP p2).name, (writeP p2).key, false, ([] : By)⟩ : Rd)], []⟩ : Tx).reads.length xc136), (.slice xa137 (⟨0, [(⟨(writeP p2).name, (writeP p2).key, false, ([] : By)⟩ : Rd)], []⟩ : Tx).writes.length xc138)], 75⟩, ⟨n122, [(.slice xa113 (writeP p2).name.length xc114), (.slice xa115 (writeP p2).key.length xc116), (.bool (writeP p2).gone), (.slice xa117 (writeP p2).value.length xc118)], 27⟩, ⟨n95, [(.int .i64 (((kn + 1) : Nat) : Int)), (.slice xa24 (txO [] l1).reads.length xc25), (.slice xa26 (txO [] l1).writes.length xc27)], 75⟩, ⟨n72, [(.int .i64 B.start), (.slice xa83 B.reads.length xc84), (.slice xa85 B.writes.length xc86)], 75⟩, ⟨n30, [(.int .i64 ((kn : Nat) : Int)), (.slice xa24 (txO [] l1).reads.length xc25), (.slice xa26 (txO [] l1).writes.length xc27)], 75⟩, ⟨n2, [(.slice a20 p2.name.length c20), (.slice a21 p2.key.length c21), (.slice a22 p2.value.length c22), (.bool p2.gone)], 30⟩] [] := S158
 have hd : (clashX ((⟨0, [(⟨(writeP p2).name, (writeP p2).key, false, ([] : By)⟩ : Rd)], []⟩ : Tx).start) ((⟨0, [(⟨(writeP p2).name, (writeP p2).key, false, ([] : By)⟩ : Rd)], []⟩ : Tx).reads) [(⟨1, [(writeP p2)]⟩ : Cm)]) = true := by simp [clashX, touchesX]
 refine stTells (v := (.tuple #[(.bool (clashX ((⟨0, [(⟨(writeP p2).name, (writeP p2).key, false, ([] : By)⟩ : Rd)], []⟩ : Tx).start) ((⟨0, [(⟨(writeP p2).name, (writeP p2).key, false, ([] : By)⟩ : Rd)], []⟩ : Tx).reads) [(⟨1, [(writeP p2)]⟩ : Cm)])), (.int .i64 0)])) S158 rfl (ex_fn (vs := #[(.agg #[(.int .i64 (⟨0, [(⟨(writeP p2).name, (writeP p2).key, false, ([] : By)⟩ : Rd)], []⟩ : Tx).start), (.slice xa135 (⟨0, [(⟨(writeP p2).name, (writeP p2).key, false, ([] : By)⟩ : Rd)], []⟩ : Tx).reads.length xc136), (.slice xa137 (⟨0, [(⟨(writeP p2).name, (writeP p2).key, false, ([] : By)⟩ : Rd)], []⟩ : Tx).writes.length xc138)]), (.slice (some ⟨n150, 0, none⟩) 1 1)]) (map2 rfl rfl) rfl (ent_47 _ _)) (clashOk_spec _ _ _ _ (⟨0, [(⟨(writeP p2).name, (writeP p2).key, false, ([] : By)⟩ : Rd)], []⟩ : Tx) [(⟨1, [(writeP p2)]⟩ : Cm)] (S158).sat ⟨_, _, _, _, rfl, (r139.mono (le154.trans le159)), (r140.mono (le154.trans le159))⟩ r162 (by intro c hc; rw [List.mem_singleton.1 hc]; simp) hSk) (fun w163 S164 => ?_)
 simp only [pS, pN, pA, pC, pZ]
 refine do_ rfl (.tuple #[(.bool (clashX ((⟨0, [(⟨(writeP p2).name, (writeP p2).key, false, ([] : By)⟩ : Rd)], []⟩ : Tx).start) ((⟨0, [(⟨(writeP p2).name, (writeP p2).key, false, ([] : By)⟩ : Rd)], []⟩ : Tx).reads) [(⟨1, [(writeP p2)]⟩ : Cm)])), (.int .i64 0)]) (ex_move _) ?_
 simp only [pS, pN, pA, pC, pZ]
 refine do_ rfl (.bool (clashX ((⟨0, [(⟨(writeP p2).name, (writeP p2).key, false, ([] : By)⟩ : Rd)], []⟩ : Tx).start) ((⟨0, [(⟨(writeP p2).name, (writeP p2).key, false, ([] : By)⟩ : Rd)], []⟩ : Tx).reads) [(⟨1, [(writeP p2)]⟩ : Cm)])) (ex_extract rfl rfl) ?_
 simp only [pS, pN, pA, pC, pZ]
 refine do_ rfl (.int .i64 0) (ex_extract rfl rfl) ?_
 simp only [pS, pN, pA, pC, pZ]
 refine do_ rfl (.bool (clashX ((⟨0, [(⟨(writeP p2).name, (writeP p2).key, false, ([] : By)⟩ : Rd)], []⟩ : Tx).start) ((⟨0, [(⟨(writeP p2).name, (writeP p2).key, false, ([] : By)⟩ : Rd)], []⟩ : Tx).reads) [(⟨1, [(writeP p2)]⟩ : Cm)])) (ex_assign _) ?_
 simp only [pS, pN, pA, pC, pZ]
 refine do_ rfl (.int .i64 0) (ex_assign _) ?_
 simp only [pS, pN, pA, pC, pZ]
 refine wl_nil (hK146 _ _ ?_)
 refine wp_seq_k (fun K165 hK165 => ?_)
 rw [hd]
 cases hA : (clashX ((kn : Nat) : Int) ((txO [] l1).reads) cs) with
 | true =>
  have hB1 : (clashX (B.start) B.reads cs) = true := by rw [hBs]; exact clash_more hBsub hA
  rw [hB1]
  cases hC : (clashX (((kn + 1) : Nat) : Int) ((txO [] l1).reads) cs) with
  | true =>
   refine region_wl ?_
   refine do_ rfl (.bool true) (ex_move _) ?_
   simp only [pS, pN, pA, pC, pZ]
   refine do_ rfl (.bool true) (ex_move _) ?_
   simp only [pS, pN, pA, pC, pZ]
   refine do_ rfl (.int .i64 0) (ex_move _) ?_
   simp only [pS, pN, pA, pC, pZ]
   refine do_ rfl (.bool true) (ex_eql (b := true) rfl rfl (by decide)) ?_
   simp only [pS, pN, pA, pC, pZ]
   refine do_ rfl (.bool true) (ex_pick (b := true) rfl) ?_
   simp only [pS, pN, pA, pC, pZ]
   refine do_ rfl (.bool true) (ex_move _) ?_
   simp only [pS, pN, pA, pC, pZ]
   refine do_ rfl (.int .i64 0) (ex_move _) ?_
   simp only [pS, pN, pA, pC, pZ]
   refine do_ rfl (.bool true) (ex_eql (b := true) rfl rfl (by decide)) ?_
   simp only [pS, pN, pA, pC, pZ]
   refine do_ rfl (.bool true) (ex_pick (b := true) rfl) ?_
   simp only [pS, pN, pA, pC, pZ]
   refine do_ rfl (.bool true) (ex_move _) ?_
   simp only [pS, pN, pA, pC, pZ]
   refine do_ rfl (.int .i64 0) (ex_move _) ?_
   simp only [pS, pN, pA, pC, pZ]
   refine do_ rfl (.bool true) (ex_eql (b := true) rfl rfl (by decide)) ?_
   simp only [pS, pN, pA, pC, pZ]
   refine do_ rfl (.bool true) (ex_pick (b := true) rfl) ?_
   simp only [pS, pN, pA, pC, pZ]
   refine do_ rfl (.bool true) (ex_move _) ?_
   simp only [pS, pN, pA, pC, pZ]
   refine do_ rfl (.int .i64 0) (ex_move _) ?_
   simp only [pS, pN, pA, pC, pZ]
   refine do_ rfl (.bool true) (ex_eql (b := true) rfl rfl (by decide)) ?_
   simp only [pS, pN, pA, pC, pZ]
   refine do_ rfl (.bool true) (ex_pick (b := true) rfl) ?_
   simp only [pS, pN, pA, pC, pZ]
   refine do_ rfl (.bool true) (ex_move _) ?_
   simp only [pS, pN, pA, pC, pZ]
   refine do_ rfl (.int .i64 0) (ex_move _) ?_
   simp only [pS, pN, pA, pC, pZ]
   refine do_ rfl (.bool true) (ex_eql (b := true) rfl rfl (by decide)) ?_
   simp only [pS, pN, pA, pC, pZ]
   refine do_ rfl (.bool true) (ex_pick (b := true) rfl) ?_
   simp only [pS, pN, pA, pC, pZ]
   refine do_ rfl (.bool true) (ex_move _) ?_
   simp only [pS, pN, pA, pC, pZ]
   refine do_ rfl (.int .i64 0) (ex_move _) ?_
   simp only [pS, pN, pA, pC, pZ]
   refine do_ rfl (.bool true) (ex_eql (b := true) rfl rfl (by decide)) ?_
   simp only [pS, pN, pA, pC, pZ]
   refine do_ rfl (.bool true) (ex_pick (b := true) rfl) ?_
   simp only [pS, pN, pA, pC, pZ]
   refine do_ rfl (.bool true) (ex_move _) ?_
   simp only [pS, pN, pA, pC, pZ]
   refine do_ rfl (.bool true) (ex_move _) ?_
   simp only [pS, pN, pA, pC, pZ]
   refine do_ rfl (.bool false) (ex_not (b := true) rfl rfl) ?_
   simp only [pS, pN, pA, pC, pZ]
   refine do_ rfl (.bool false) (ex_move _) ?_
   simp only [pS, pN, pA, pC, pZ]
   refine do_ rfl (.bool true) (ex_move _) ?_
   simp only [pS, pN, pA, pC, pZ]
   refine do_ rfl (.bool true) (ex_pick (b := false) rfl) ?_
   simp only [pS, pN, pA, pC, pZ]
   refine do_ rfl (.bool true) (ex_pick (b := true) rfl) ?_
   simp only [pS, pN, pA, pC, pZ]
   refine do_ rfl (.bool true) (ex_move _) ?_
   simp only [pS, pN, pA, pC, pZ]
   refine do_ rfl (.bool true) (ex_move _) ?_
   simp only [pS, pN, pA, pC, pZ]
   refine do_ rfl (.bool false) (ex_not (b := true) rfl rfl) ?_
   simp only [pS, pN, pA, pC, pZ]
   refine do_ rfl (.bool false) (ex_move _) ?_
   simp only [pS, pN, pA, pC, pZ]
   refine do_ rfl (.bool true) (ex_move _) ?_
   simp only [pS, pN, pA, pC, pZ]
   refine do_ rfl (.bool true) (ex_pick (b := false) rfl) ?_
   simp only [pS, pN, pA, pC, pZ]
   refine do_ rfl (.bool true) (ex_pick (b := true) rfl) ?_
   simp only [pS, pN, pA, pC, pZ]
   refine do_ rfl (.bool true) (ex_move _) ?_
   simp only [pS, pN, pA, pC, pZ]
   refine do_ rfl (.bool true) (ex_move _) ?_
   simp only [pS, pN, pA, pC, pZ]
   refine do_ rfl (.bool true) (ex_pick (b := true) rfl) ?_
   simp only [pS, pN, pA, pC, pZ]
   refine do_ rfl (.bool true) (ex_assign _) ?_
   simp only [pS, pN, pA, pC, pZ]
   refine wl_nil (hK165 _ _ ?_)
   refine wp_ret ?_
   (try simp only [Exit.then, Exit.inBlock, ↓reduceIte, Nat.reduceEqDiff])
   refine bodyPost_ret (v := (.bool true)) ?_ rfl ?_
   ·exact res_t rfl rfl
   ·exact ⟨rfl, S164.gr.below⟩
  | false =>
   refine region_wl ?_
   refine do_ rfl (.bool true) (ex_move _) ?_
   simp only [pS, pN, pA, pC, pZ]
   refine do_ rfl (.bool true) (ex_move _) ?_
   simp only [pS, pN, pA, pC, pZ]
   refine do_ rfl (.int .i64 0) (ex_move _) ?_
   simp only [pS, pN, pA, pC, pZ]
   refine do_ rfl (.bool true) (ex_eql (b := true) rfl rfl (by decide)) ?_
   simp only [pS, pN, pA, pC, pZ]
   refine do_ rfl (.bool true) (ex_pick (b := true) rfl) ?_
   simp only [pS, pN, pA, pC, pZ]
   refine do_ rfl (.bool true) (ex_move _) ?_
   simp only [pS, pN, pA, pC, pZ]
   refine do_ rfl (.int .i64 0) (ex_move _) ?_
   simp only [pS, pN, pA, pC, pZ]
   refine do_ rfl (.bool true) (ex_eql (b := true) rfl rfl (by decide)) ?_
   simp only [pS, pN, pA, pC, pZ]
   refine do_ rfl (.bool true) (ex_pick (b := true) rfl) ?_
   simp only [pS, pN, pA, pC, pZ]
   refine do_ rfl (.bool true) (ex_move _) ?_
   simp only [pS, pN, pA, pC, pZ]
   refine do_ rfl (.int .i64 0) (ex_move _) ?_
   simp only [pS, pN, pA, pC, pZ]
   refine do_ rfl (.bool true) (ex_eql (b := true) rfl rfl (by decide)) ?_
   simp only [pS, pN, pA, pC, pZ]
   refine do_ rfl (.bool true) (ex_pick (b := true) rfl) ?_
   simp only [pS, pN, pA, pC, pZ]
   refine do_ rfl (.bool true) (ex_move _) ?_
   simp only [pS, pN, pA, pC, pZ]
   refine do_ rfl (.int .i64 0) (ex_move _) ?_
   simp only [pS, pN, pA, pC, pZ]
   refine do_ rfl (.bool true) (ex_eql (b := true) rfl rfl (by decide)) ?_
   simp only [pS, pN, pA, pC, pZ]
   refine do_ rfl (.bool true) (ex_pick (b := true) rfl) ?_
   simp only [pS, pN, pA, pC, pZ]
   refine do_ rfl (.bool true) (ex_move _) ?_
   simp only [pS, pN, pA, pC, pZ]
   refine do_ rfl (.int .i64 0) (ex_move _) ?_
   simp only [pS, pN, pA, pC, pZ]
   refine do_ rfl (.bool true) (ex_eql (b := true) rfl rfl (by decide)) ?_
   simp only [pS, pN, pA, pC, pZ]
   refine do_ rfl (.bool true) (ex_pick (b := true) rfl) ?_
   simp only [pS, pN, pA, pC, pZ]
   refine do_ rfl (.bool true) (ex_move _) ?_
   simp only [pS, pN, pA, pC, pZ]
   refine do_ rfl (.int .i64 0) (ex_move _) ?_
   simp only [pS, pN, pA, pC, pZ]
   refine do_ rfl (.bool true) (ex_eql (b := true) rfl rfl (by decide)) ?_
   simp only [pS, pN, pA, pC, pZ]
   refine do_ rfl (.bool true) (ex_pick (b := true) rfl) ?_
   simp only [pS, pN, pA, pC, pZ]
   refine do_ rfl (.bool true) (ex_move _) ?_
   simp only [pS, pN, pA, pC, pZ]
   refine do_ rfl (.bool true) (ex_move _) ?_
   simp only [pS, pN, pA, pC, pZ]
   refine do_ rfl (.bool false) (ex_not (b := true) rfl rfl) ?_
   simp only [pS, pN, pA, pC, pZ]
   refine do_ rfl (.bool false) (ex_move _) ?_
   simp only [pS, pN, pA, pC, pZ]
   refine do_ rfl (.bool true) (ex_move _) ?_
   simp only [pS, pN, pA, pC, pZ]
   refine do_ rfl (.bool true) (ex_pick (b := false) rfl) ?_
   simp only [pS, pN, pA, pC, pZ]
   refine do_ rfl (.bool true) (ex_pick (b := true) rfl) ?_
   simp only [pS, pN, pA, pC, pZ]
   refine do_ rfl (.bool true) (ex_move _) ?_
   simp only [pS, pN, pA, pC, pZ]
   refine do_ rfl (.bool false) (ex_move _) ?_
   simp only [pS, pN, pA, pC, pZ]
   refine do_ rfl (.bool true) (ex_not (b := false) rfl rfl) ?_
   simp only [pS, pN, pA, pC, pZ]
   refine do_ rfl (.bool true) (ex_move _) ?_
   simp only [pS, pN, pA, pC, pZ]
   refine doN (wanted_no rfl rfl rfl (c := true) rfl (by decide)) ?_
   simp only [pS, pN, pA, pC, pZ]
   refine do_ rfl (.bool true) (ex_pick (b := true) rfl) ?_
   simp only [pS, pN, pA, pC, pZ]
   refine do_ rfl (.bool true) (ex_pick (b := true) rfl) ?_
   simp only [pS, pN, pA, pC, pZ]
   refine do_ rfl (.bool true) (ex_move _) ?_
   simp only [pS, pN, pA, pC, pZ]
   refine do_ rfl (.bool true) (ex_move _) ?_
   simp only [pS, pN, pA, pC, pZ]
   refine do_ rfl (.bool true) (ex_pick (b := true) rfl) ?_
   simp only [pS, pN, pA, pC, pZ]
   refine do_ rfl (.bool true) (ex_assign _) ?_
   simp only [pS, pN, pA, pC, pZ]
   refine wl_nil (hK165 _ _ ?_)
   refine wp_ret ?_
   (try simp only [Exit.then, Exit.inBlock, ↓reduceIte, Nat.reduceEqDiff])
   refine bodyPost_ret (v := (.bool true)) ?_ rfl ?_
   ·exact res_t rfl rfl
   ·exact ⟨rfl, S164.gr.below⟩
 | false =>
  have hC : (clashX (((kn + 1) : Nat) : Int) ((txO [] l1).reads) cs) = false := by cases hC : (clashX (((kn + 1) : Nat) : Int) ((txO [] l1).reads) cs) with | false => rfl | true => exact absurd (clash_late (a := ((kn : Nat) : Int)) (by omega) hC) (by rw [hA]; simp)
  rw [hC]
  refine region_wl ?_
  refine do_ rfl (.bool true) (ex_move _) ?_
  simp only [pS, pN, pA, pC, pZ]
  refine do_ rfl (.bool true) (ex_move _) ?_
  simp only [pS, pN, pA, pC, pZ]
  refine do_ rfl (.int .i64 0) (ex_move _) ?_
  simp only [pS, pN, pA, pC, pZ]
  refine do_ rfl (.bool true) (ex_eql (b := true) rfl rfl (by decide)) ?_
  simp only [pS, pN, pA, pC, pZ]
  refine do_ rfl (.bool true) (ex_pick (b := true) rfl) ?_
  simp only [pS, pN, pA, pC, pZ]
  refine do_ rfl (.bool true) (ex_move _) ?_
  simp only [pS, pN, pA, pC, pZ]
  refine do_ rfl (.int .i64 0) (ex_move _) ?_
  simp only [pS, pN, pA, pC, pZ]
  refine do_ rfl (.bool true) (ex_eql (b := true) rfl rfl (by decide)) ?_
  simp only [pS, pN, pA, pC, pZ]
  refine do_ rfl (.bool true) (ex_pick (b := true) rfl) ?_
  simp only [pS, pN, pA, pC, pZ]
  refine do_ rfl (.bool true) (ex_move _) ?_
  simp only [pS, pN, pA, pC, pZ]
  refine do_ rfl (.int .i64 0) (ex_move _) ?_
  simp only [pS, pN, pA, pC, pZ]
  refine do_ rfl (.bool true) (ex_eql (b := true) rfl rfl (by decide)) ?_
  simp only [pS, pN, pA, pC, pZ]
  refine do_ rfl (.bool true) (ex_pick (b := true) rfl) ?_
  simp only [pS, pN, pA, pC, pZ]
  refine do_ rfl (.bool true) (ex_move _) ?_
  simp only [pS, pN, pA, pC, pZ]
  refine do_ rfl (.int .i64 0) (ex_move _) ?_
  simp only [pS, pN, pA, pC, pZ]
  refine do_ rfl (.bool true) (ex_eql (b := true) rfl rfl (by decide)) ?_
  simp only [pS, pN, pA, pC, pZ]
  refine do_ rfl (.bool true) (ex_pick (b := true) rfl) ?_
  simp only [pS, pN, pA, pC, pZ]
  refine do_ rfl (.bool true) (ex_move _) ?_
  simp only [pS, pN, pA, pC, pZ]
  refine do_ rfl (.int .i64 0) (ex_move _) ?_
  simp only [pS, pN, pA, pC, pZ]
  refine do_ rfl (.bool true) (ex_eql (b := true) rfl rfl (by decide)) ?_
  simp only [pS, pN, pA, pC, pZ]
  refine do_ rfl (.bool true) (ex_pick (b := true) rfl) ?_
  simp only [pS, pN, pA, pC, pZ]
  refine do_ rfl (.bool true) (ex_move _) ?_
  simp only [pS, pN, pA, pC, pZ]
  refine do_ rfl (.int .i64 0) (ex_move _) ?_
  simp only [pS, pN, pA, pC, pZ]
  refine do_ rfl (.bool true) (ex_eql (b := true) rfl rfl (by decide)) ?_
  simp only [pS, pN, pA, pC, pZ]
  refine do_ rfl (.bool true) (ex_pick (b := true) rfl) ?_
  simp only [pS, pN, pA, pC, pZ]
  refine do_ rfl (.bool true) (ex_move _) ?_
  simp only [pS, pN, pA, pC, pZ]
  refine do_ rfl (.bool false) (ex_move _) ?_
  simp only [pS, pN, pA, pC, pZ]
  refine do_ rfl (.bool true) (ex_not (b := false) rfl rfl) ?_
  simp only [pS, pN, pA, pC, pZ]
  refine do_ rfl (.bool true) (ex_move _) ?_
  simp only [pS, pN, pA, pC, pZ]
  refine doN (wanted_no rfl rfl rfl (c := true) rfl (by decide)) ?_
  simp only [pS, pN, pA, pC, pZ]
  refine do_ rfl (.bool true) (ex_pick (b := true) rfl) ?_
  simp only [pS, pN, pA, pC, pZ]
  refine do_ rfl (.bool true) (ex_pick (b := true) rfl) ?_
  simp only [pS, pN, pA, pC, pZ]
  refine do_ rfl (.bool true) (ex_move _) ?_
  simp only [pS, pN, pA, pC, pZ]
  refine do_ rfl (.bool false) (ex_move _) ?_
  simp only [pS, pN, pA, pC, pZ]
  refine do_ rfl (.bool true) (ex_not (b := false) rfl rfl) ?_
  simp only [pS, pN, pA, pC, pZ]
  refine do_ rfl (.bool true) (ex_move _) ?_
  simp only [pS, pN, pA, pC, pZ]
  refine doN (wanted_no rfl rfl rfl (c := true) rfl (by decide)) ?_
  simp only [pS, pN, pA, pC, pZ]
  refine do_ rfl (.bool true) (ex_pick (b := true) rfl) ?_
  simp only [pS, pN, pA, pC, pZ]
  refine do_ rfl (.bool true) (ex_pick (b := true) rfl) ?_
  simp only [pS, pN, pA, pC, pZ]
  refine do_ rfl (.bool true) (ex_move _) ?_
  simp only [pS, pN, pA, pC, pZ]
  refine do_ rfl (.bool true) (ex_move _) ?_
  simp only [pS, pN, pA, pC, pZ]
  refine do_ rfl (.bool true) (ex_pick (b := true) rfl) ?_
  simp only [pS, pN, pA, pC, pZ]
  refine do_ rfl (.bool true) (ex_assign _) ?_
  simp only [pS, pN, pA, pC, pZ]
  refine wl_nil (hK165 _ _ ?_)
  refine wp_ret ?_
  (try simp only [Exit.then, Exit.inBlock, ↓reduceIte, Nat.reduceEqDiff])
  refine bodyPost_ret (v := (.bool true)) ?_ rfl ?_
  ·exact res_t rfl rfl
  ·exact ⟨rfl, S164.gr.below⟩
end Go.Proofs.Ytcpngkkconalhaa
