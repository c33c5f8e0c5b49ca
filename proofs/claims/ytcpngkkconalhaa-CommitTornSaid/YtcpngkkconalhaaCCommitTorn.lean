/- The walk of CommitTorn -/
import Derived.Test.YtcpngkkconalhaaT10
namespace Go.Proofs.Ytcpngkkconalhaa
open Go.RowKit
set_option maxRecDepth 100000
set_option linter.unusedVariables false
set_option linter.unusedSimpArgs false
set_option maxHeartbeats 8000000 in
theorem commitTorn_walk (W : World) (v0 : Value) (l0 : List Pl) (z0 : Pls (whole W) v0 l0) (x1 : Int) (b1 : -9223372036854775808 ≤ x1) (b1' : x1 ≤ 9223372036854775807) :
    Calls Try.prog 9 #[v0, .int .i64 x1] W (Tells W (.bool true)) := by
 obtain ⟨a0, c0, rfl, q0, q0'⟩ := Sl.shape z0
 have S := St.start (Sat.whole W)
 go_enter Try.func9, Try.ntmps9
 refine wp_seq_k (fun K101 hK101 => region_wl ?_)
 refine do_ rfl (.bool false) (ex_assign _) ?_
 simp only [pS, pN, pA, pC, pZ]
 refine wl_nil (hK101 _ _ ?_)
 refine wp_seq_k (fun K102 hK102 => region_wl ?_)
 refine do_ rfl (.slice a0 l0.length c0) (ex_move _) ?_
 simp only [pS, pN, pA, pC, pZ]
 refine stGives S rfl (ex_fn (vs := #[(.slice a0 l0.length c0), (.int .i64 10)]) (map2 rfl rfl) rfl (ent_24 _ _)) (writes_spec _ _ _ l0 10 (S).sat z0 (by omega)) ?_
 intro v108 w103 F105 S104 le106 R107
 obtain ⟨a109, c110, rfl, h111, h112⟩ := Sl.shape R107
 unfold maxLen at h112
 simp only [pS, pN, pA, pC, pZ]
 refine do_ rfl (.slice a109 (writesN l0 10).length c110) (ex_assign _) ?_
 simp only [pS, pN, pA, pC, pZ]
 refine wl_nil (hK102 _ _ ?_)
 refine wp_seq_k (fun K113 hK113 => ?_)
 refine wp_seq_k (fun K114 hK114 => ?_)
 have hwl := writesN_len l0 10
 have hwok := writesN_ok l0 10
 by_cases hz : (writesN l0 10).length = 0
 ·refine region_wl ?_
  refine do_ rfl (.slice a109 (writesN l0 10).length c110) (ex_move _) ?_
  simp only [pS, pN, pA, pC, pZ]
  refine do_ rfl (.int .i64 (((writesN l0 10).length : Nat) : Int)) (ex_len Try.underlying44 rfl) ?_
  simp only [pS, pN, pA, pC, pZ]
  refine do_ rfl (.bool true) (ex_eql (m := (((writesN l0 10).length : Nat) : Int)) (n := (0 : Int)) (b := true) rfl rfl (beq_iff_eq.2 (by omega))) ?_
  simp only [pS, pN, pA, pC, pZ]
  refine wl_nil (hK114 _ _ ?_)
  refine wp_cond_true rfl ?_
  refine wp_seq_k (fun K115 hK115 => region_wl ?_)
  refine do_ rfl (.agg #[(.int .i64 1), (.slice none 0 0)]) (ex_build (ps := #[(0, (.int .i64 1))]) (bmap1 rfl) (by kernel_rfl)) ?_
  simp only [pS, pN, pA, pC, pZ]
  refine stTells (v := (.int .i64 1)) S104 rfl (ex_fn (vs := #[(.agg #[(.int .i64 1), (.slice none 0 0)])]) (map1 rfl) rfl (ent_40 _ _)) (tapeCheckNil_spec _ _ _ (⟨1, []⟩ : Cm) (S104).sat ⟨none, 0, rfl, Sl.nil _ _ _⟩ ⟨by decide, by decide⟩ rfl) (fun w116 S117 => ?_)
  simp only [pS, pN, pA, pC, pZ]
  refine do_ rfl (.bool true) (ex_eql (b := true) rfl rfl (by decide)) ?_
  simp only [pS, pN, pA, pC, pZ]
  refine do_ rfl (.bool true) (ex_assign _) ?_
  simp only [pS, pN, pA, pC, pZ]
  refine wl_nil (hK115 _ _ ?_)
  refine wp_ret ?_
  (try simp only [Exit.then, Exit.inBlock, ↓reduceIte, Nat.reduceEqDiff])
  refine bodyPost_ret (v := (.bool true)) ?_ rfl ?_
  ·exact res_t rfl rfl
  ·exact ⟨rfl, S117.gr.below⟩
 ·have hm : CmOk (⟨1, (writesN l0 10)⟩ : Cm) := ⟨⟨by show 1 ≤ 1; omega, by show 1 ≤ 1048576; omega⟩, ⟨by show 1 ≤ (writesN l0 10).length; omega, hwl⟩, hwok⟩
  obtain ⟨hel, hel2⟩ := encCm_len hm
  have hel : (encCm 1 (writesN l0 10)).length ≤ 594 := hel
  have hel2 : 4 ≤ (encCm 1 (writesN l0 10)).length := hel2
  obtain ⟨hp0, hp1⟩ := pick_bd x1 (((encCm 1 (writesN l0 10)).length : Nat) : Int) (by omega)
  obtain ⟨kn, hkn⟩ : ∃ kn : Nat, pick x1 (((encCm 1 (writesN l0 10)).length : Nat) : Int) = (kn : Int) := ⟨(pick x1 (((encCm 1 (writesN l0 10)).length : Nat) : Int)).toNat, (Int.toNat_of_nonneg hp0).symm⟩
  have hkb : kn < (encCm 1 (writesN l0 10)).length := by omega
  have hd1 := dec_torn hm hkb
  refine region_wl ?_
  refine do_ rfl (.slice a109 (writesN l0 10).length c110) (ex_move _) ?_
  simp only [pS, pN, pA, pC, pZ]
  refine do_ rfl (.int .i64 (((writesN l0 10).length : Nat) : Int)) (ex_len Try.underlying44 rfl) ?_
  simp only [pS, pN, pA, pC, pZ]
  refine do_ rfl (.bool false) (ex_eql (m := (((writesN l0 10).length : Nat) : Int)) (n := (0 : Int)) (b := false) rfl rfl (beq_eq_false_iff_ne.2 (by omega))) ?_
  simp only [pS, pN, pA, pC, pZ]
  refine wl_nil (hK114 _ _ ?_)
  refine wp_cond_false rfl ?_
  refine wp_skip ?_
  refine hK113 _ _ ?_
  refine wp_seq_k (fun K118 hK118 => region_wl ?_)
  refine do_ rfl (.slice a109 (writesN l0 10).length c110) (ex_move _) ?_
  simp only [pS, pN, pA, pC, pZ]
  refine do_ rfl (.agg #[(.int .i64 1), (.slice a109 (writesN l0 10).length c110)]) (ex_build (ps := #[(0, (.int .i64 1)), (1, (.slice a109 (writesN l0 10).length c110))]) (bmap2 rfl rfl) (by kernel_rfl)) ?_
  simp only [pS, pN, pA, pC, pZ]
  refine stGives S104 rfl (ex_fn (vs := #[(.agg #[(.int .i64 1), (.slice a109 (writesN l0 10).length c110)])]) (map1 rfl) rfl (ent_26 _ _)) (encode_spec _ _ _ (⟨1, (writesN l0 10)⟩ : Cm) (S104).sat ⟨_, _, rfl, R107⟩ hm) ?_
  intro v124 w119 F121 S120 le122 R123
  obtain ⟨_, rfl, r127⟩ := R123
  obtain ⟨a125, c126, rfl, h128, _⟩ := r127.shape
  have h128 : (encCm 1 (writesN l0 10)).length ≤ c126 := h128
  have r127 : Bs _ (.slice a125 (encCm 1 (writesN l0 10)).length c126) (encCm 1 (writesN l0 10)) := r127
  simp only [pS, pN, pA, pC, pZ]
  refine do_ rfl (.tuple #[(.slice a125 (encCm 1 (writesN l0 10)).length c126), (.int .i64 0)]) (ex_move _) ?_
  simp only [pS, pN, pA, pC, pZ]
  refine do_ rfl (.slice a125 (encCm 1 (writesN l0 10)).length c126) (ex_extract rfl rfl) ?_
  simp only [pS, pN, pA, pC, pZ]
  refine do_ rfl (.int .i64 0) (ex_extract rfl rfl) ?_
  simp only [pS, pN, pA, pC, pZ]
  refine do_ rfl (.slice a125 (encCm 1 (writesN l0 10)).length c126) (ex_assign _) ?_
  simp only [pS, pN, pA, pC, pZ]
  refine do_ rfl (.int .i64 0) (ex_assign _) ?_
  simp only [pS, pN, pA, pC, pZ]
  refine wl_nil (hK118 _ _ ?_)
  refine wp_seq_k (fun K129 hK129 => region_wl ?_)
  refine do_ rfl (.slice a125 (encCm 1 (writesN l0 10)).length c126) (ex_move _) ?_
  simp only [pS, pN, pA, pC, pZ]
  refine do_ rfl (.int .i64 x1) (ex_move _) ?_
  simp only [pS, pN, pA, pC, pZ]
  refine do_ rfl (.slice a125 (encCm 1 (writesN l0 10)).length c126) (ex_move _) ?_
  simp only [pS, pN, pA, pC, pZ]
  refine do_ rfl (.int .i64 (((encCm 1 (writesN l0 10)).length : Nat) : Int)) (ex_len Try.underlying25 rfl) ?_
  simp only [pS, pN, pA, pC, pZ]
  refine do_ rfl (.int .i64 (((encCm 1 (writesN l0 10)).length : Nat) : Int)) (ex_max (m := (((encCm 1 (writesN l0 10)).length : Nat) : Int)) (n := (1 : Int)) (r := (((encCm 1 (writesN l0 10)).length : Nat) : Int)) rfl rfl (by split <;> omega)) ?_
  simp only [pS, pN, pA, pC, pZ]
  refine stTells (v := (.int .i64 ((kn : Nat) : Int))) S120 rfl (ex_fn (vs := #[(.int .i64 x1), (.int .i64 (((encCm 1 (writesN l0 10)).length : Nat) : Int))]) (map2 rfl rfl) rfl (ent_25 _ _)) (hkn ▸ tells_same (picked_spec x1 (((encCm 1 (writesN l0 10)).length : Nat) : Int) _ b1 b1' (by omega) (by omega))) (fun w130 S131 => ?_)
  simp only [pS, pN, pA, pC, pZ]
  have r132 : Bs _ (.slice a125 (encCm 1 (writesN l0 10)).length c126) (encCm 1 (writesN l0 10)) := r127
  have r132 := bs_of_sl (Sl.takeN (m := kn) r132.sl (by omega))
  refine do_ rfl (.slice a125 kn c126) (ex_slice (l := 0) (h := kn) (sz := 1) Try.underlying25 rfl (sizeof_5 _) (.inl ⟨rfl, rfl⟩) (.inr ⟨_, rfl, rfl⟩) (by omega) (by omega) (slice_zero)) ?_
  simp only [pS, pN, pA, pC, pZ]
  refine stGives S131 rfl (ex_fn (vs := #[(.slice a125 kn c126)]) (map1 rfl) rfl (ent_38 _ _)) (decodeIs_spec _ _ _ ((encCm 1 (writesN l0 10)).take kn) (S131).sat r132 (by rw [List.length_take]; omega) hd1.1 hd1.2) ?_
  intro v138 w133 F135 S134 le136 R137
  obtain ⟨_, rfl, xa139, xc140, rfl, r141⟩ := R137
  simp only [pS, pN, pA, pC, pZ]
  refine do_ rfl (.tuple #[(.agg #[(.int .i64 0), (.slice xa139 ([] : List Wr).length xc140)]), (.int .i64 14)]) (ex_move _) ?_
  simp only [pS, pN, pA, pC, pZ]
  refine do_ rfl (.agg #[(.int .i64 0), (.slice xa139 ([] : List Wr).length xc140)]) (ex_extract rfl rfl) ?_
  simp only [pS, pN, pA, pC, pZ]
  refine do_ rfl (.int .i64 14) (ex_extract rfl rfl) ?_
  simp only [pS, pN, pA, pC, pZ]
  refine stNew S134 (v := fun n => .pointer (some ⟨n, 0, none⟩)) rfl (ex_alloc (zero_50 _)) (fun n142 w143 S144 => ?_)
  simp only [pS, pN, pA, pC, pZ]
  have S144 : St W (whole W) w143 F135 [⟨n142, [(.int .i64 0), (.slice none 0 0)], 50⟩] [] := S144
  refine stStore (i := 0) (v := (.agg #[(.int .i64 0), (.slice xa139 ([] : List Wr).length xc140)])) S144 rfl rfl rfl rfl (size_50) (allc2 rfl rfl) (Nat.le_of_ble_eq_true rfl) (fun w145 S146 => ?_)
  simp only [pS, pN, pA, pC, pZ]
  have S146 : St W (whole W) w145 F135 [⟨n142, [(.int .i64 0), (.slice xa139 ([] : List Wr).length xc140)], 50⟩] [] := S146
  refine do_ rfl (.int .i64 14) (ex_assign _) ?_
  simp only [pS, pN, pA, pC, pZ]
  refine wl_nil (hK129 _ _ ?_)
  refine wp_seq_k (fun K147 hK147 => region_wl ?_)
  refine do_ rfl (.int .i64 0) (ex_move _) ?_
  simp only [pS, pN, pA, pC, pZ]
  refine do_ rfl (.bool true) (ex_eql (b := true) rfl rfl (by decide)) ?_
  simp only [pS, pN, pA, pC, pZ]
  refine do_ rfl (.bool true) (ex_move _) ?_
  simp only [pS, pN, pA, pC, pZ]
  refine do_ rfl (.int .i64 14) (ex_move _) ?_
  simp only [pS, pN, pA, pC, pZ]
  refine do_ rfl (.bool true) (ex_eql (b := true) rfl rfl (by decide)) ?_
  simp only [pS, pN, pA, pC, pZ]
  refine do_ rfl (.bool true) (ex_pick (b := true) rfl) ?_
  simp only [pS, pN, pA, pC, pZ]
  refine do_ rfl (.bool true) (ex_assign _) ?_
  simp only [pS, pN, pA, pC, pZ]
  refine wl_nil (hK147 _ _ ?_)
  refine wp_ret ?_
  (try simp only [Exit.then, Exit.inBlock, ↓reduceIte, Nat.reduceEqDiff])
  refine bodyPost_ret (v := (.bool true)) ?_ rfl ?_
  ·exact res_t rfl rfl
  ·exact ⟨rfl, S146.gr.below⟩
end Go.Proofs.Ytcpngkkconalhaa
