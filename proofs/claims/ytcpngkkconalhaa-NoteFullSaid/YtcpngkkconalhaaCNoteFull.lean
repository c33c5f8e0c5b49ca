/- The walk of NoteFull -/
import Derived.Test.YtcpngkkconalhaaZ12
import Derived.Test.YtcpngkkconalhaaZ8
import Derived.Test.YtcpngkkconalhaaZ2
namespace Go.Proofs.Ytcpngkkconalhaa
open Go.RowKit
set_option maxRecDepth 100000
set_option linter.unusedVariables false
set_option linter.unusedSimpArgs false
theorem bv_b8 {z : Nat} (h : z < 256) : bv (b8 z) = .int .u8 (z : Int) := by unfold bv; rw [b8_toNat h]
theorem conv_i8 (z : Nat) (h : z < 256) (w : World) : (convert 3 5 (.int .i64 (z : Nat))).run Try.prog w = .ok (.int .u8 (z : Int)) w := by
  have e : IntKind.u8.wrap (z : Int) = (z : Int) := IntWalk.u8_in _ ⟨by omega, by omega⟩
  have : (convert 3 5 (.int .i64 (z : Nat))).run Try.prog w = .ok (.int .u8 (IntKind.u8.wrap (z : Int))) w := by kernel_rfl
  rw [this, e]
def nfR (j : Nat) : Rd := ⟨[1], [b8 j], false, []⟩
def nfW (j : Nat) : Wr := ⟨[1], [b8 j], false, []⟩
def nfT (i j : Nat) : Tx := ⟨0, (List.range i).map nfR, (List.range j).map nfW⟩
theorem b8_inj {i j : Nat} (hi : i < 256) (hj : j < 256) (h : b8 i = b8 j) : i = j := by rw [← b8_toNat hi, h, b8_toNat hj]
theorem nfR_mem {i k : Nat} (hi : i ≤ 20) (hk : k < 256) : nfR k ∈ (List.range i).map nfR ↔ k < i := by
  rw [List.mem_map]
  constructor
  · rintro ⟨j, hj, e⟩
    have hj := List.mem_range.1 hj
    have : b8 j = b8 k := by unfold nfR at e; injection e with _ e; injection e
    rw [← b8_inj (by omega) hk this]; exact hj
  · exact fun h => ⟨k, List.mem_range.2 h, rfl⟩
theorem nf_same {j k : Nat} {g : Bool} (hj : j < 256) (hk : k < 256) : samePl (nfW j) ⟨[1], [b8 k], g, []⟩ = decide (j = k) := by
  rw [Bool.eq_iff_iff, samePl_iff, decide_eq_true_iff]
  exact ⟨fun h => b8_inj hj hk (by have := h.2; unfold nfW at this; injection this), fun h => by subst h; exact ⟨rfl, rfl⟩⟩
theorem nf_ok {i j : Nat} (hi : i ≤ 20) (hj : j ≤ 10) : TxOk (nfT i j) := by
  refine ⟨by simp [nfT], by simp [nfT]; omega, by simp [nfT]; omega, fun r hr => ?_, ?_, fun r hr => ?_, ?_⟩
  · obtain ⟨k, _, rfl⟩ := List.mem_map.1 hr
    exact ⟨by simp [NameOk, nfR], by simp [nfR], by simp [nfR]⟩
  · refine List.pairwise_map.2 (List.pairwise_lt_range.imp_of_mem fun {a b} ha hb hab e => ?_)
    have ha := List.mem_range.1 ha; have hb := List.mem_range.1 hb
    have : b8 a = b8 b := by unfold nfR at e; injection e with _ e; injection e
    have := b8_inj (by omega) (by omega) this
    omega
  · obtain ⟨k, _, rfl⟩ := List.mem_map.1 hr
    exact ⟨by simp [NameOk, nfW], by simp [nfW], by simp [nfW], by simp [nfW], by simp [nfW]⟩
  · refine List.pairwise_map.2 (List.pairwise_lt_range.imp_of_mem fun {a b} ha hb hab => ?_)
    have ha := List.mem_range.1 ha; have hb := List.mem_range.1 hb
    show samePl (nfW a) ⟨[1], [b8 b], false, []⟩ = false
    rw [nf_same (by omega) (by omega)]
    exact decide_eq_false (by omega)
theorem nf_note {i : Nat} (h : i < 20) : noteX (nfT i 0) (nfR i) = some (nfT (i + 1) 0) := by
  unfold noteX
  rw [if_neg (fun hm => by have := (nfR_mem (by omega) (by omega)).1 hm; omega), if_neg (by simp [nfT]; omega)]
  simp [nfT, List.range_succ]
theorem nf_idx {j k : Nat} {g : Bool} (hj : j ≤ 10) (hk : k < 256) : (idxW (nfT 20 j).writes ⟨[1], [b8 k], g, []⟩).isSome = decide (k < j) := by
  rw [Bool.eq_iff_iff, decide_eq_true_iff]
  unfold idxW
  rw [List.findIdx?_isSome, List.any_eq_true]
  constructor
  · rintro ⟨x, hx, e⟩
    obtain ⟨a, ha, rfl⟩ := List.mem_map.1 hx
    have ha := List.mem_range.1 ha
    rw [nf_same (by omega) hk] at e
    have := of_decide_eq_true e
    omega
  · exact fun h => ⟨nfW k, List.mem_map.2 ⟨k, List.mem_range.2 h, rfl⟩, by rw [nf_same hk hk]; simp⟩
theorem nf_none {j k : Nat} {g : Bool} (hj : j ≤ 10) (hk : k < 256) (h : ¬ k < j) : idxW (nfT 20 j).writes ⟨[1], [b8 k], g, []⟩ = none := by
  have := nf_idx (g := g) hj hk
  rw [decide_eq_false h] at this
  simpa using this
theorem nf_write {j : Nat} (h : j < 10) : writeX (nfT 20 j) (nfW j) = some (nfT 20 (j + 1)) := by
  have := nf_none (j := j) (k := j) (g := false) (by omega) (by omega) (by omega)
  unfold writeX
  rw [show nfW j = ⟨[1], [b8 j], false, []⟩ from rfl, this]
  simp only
  rw [if_neg (by simp [nfT]; omega)]
  simp [nfT, List.range_succ, nfW]
theorem nf_note_in {k : Nat} (hk : k < 20) : noteX (nfT 20 10) (nfR k) = some (nfT 20 10) := by
  unfold noteX; rw [if_pos (show nfR k ∈ (nfT 20 10).reads from (nfR_mem (by omega) (by omega)).2 hk)]
theorem nf_note_out {k : Nat} (hk : k < 256) (h : ¬ k < 20) : noteX (nfT 20 10) (nfR k) = none := by
  unfold noteX; rw [if_neg (show ¬ nfR k ∈ (nfT 20 10).reads from fun hm => h ((nfR_mem (by omega) hk).1 hm)), if_pos (by simp [nfT])]
theorem nf_write_in {k : Nat} (hk : k < 10) : ∃ u, writeX (nfT 20 10) ⟨[1], [b8 k], true, []⟩ = some u := by
  have := nf_idx (j := 10) (k := k) (g := true) (by omega) (by omega)
  rw [decide_eq_true hk] at this
  obtain ⟨i, hi⟩ := Option.isSome_iff_exists.1 this
  exact ⟨_, by unfold writeX; rw [hi]⟩
theorem nf_write_out {k : Nat} (hk : k < 256) (h : ¬ k < 10) : writeX (nfT 20 10) ⟨[1], [b8 k], true, []⟩ = none := by
  unfold writeX
  rw [nf_none (by omega) hk h]
  simp only
  rw [if_pos (by simp [nfT])]
theorem nfR_ok (k : Nat) : RdOk (nfR k) := ⟨by simp [NameOk, nfR], by simp [nfR], by simp [nfR]⟩
theorem nfW_ok (k : Nat) (g : Bool) : WrOk ⟨[1], [b8 k], g, []⟩ := ⟨by simp [NameOk], by simp, by simp, by simp, by simp⟩
theorem txnNoteFull_spec (F : Fz) (w : World) (v u : Value) (t : Tx) (r : Rd) (hs : Sat w F) (hv : TxV F v t) (hu : RdV F u r) (ht : TxOk t) (hr : RdOk r) (e : noteX t r = none) :
    Calls Try.prog 46 #[v, u] w (Gives w F fun F' u => TxE F' u nilX 11) := by
  have := txnNote_spec F w v u t r hs hv hu (fun x hx => (ht.writes x hx).small)
  obtain ⟨h1, h2⟩ := noteE_full ht hr e
  rwa [h1, h2] at this
theorem txnWriteFull_spec (F : Fz) (w : World) (v u : Value) (t : Tx) (r : Wr) (hs : Sat w F) (hv : TxV F v t) (hu : WrV F u r) (ht : TxOk t) (hr : WrOk r) (e : writeX t r = none) :
    Calls Try.prog 42 #[v, u] w (Gives w F fun F' u => TxE F' u nilX 11) := by
  have := txnWriteT_spec F w v u t r hs hv hu (fun x hx => (ht.writes x hx).small) hr.small
  obtain ⟨h1, h2⟩ := writeE_full ht hr e
  rwa [h1, h2] at this
set_option maxHeartbeats 8000000 in
theorem noteFull_walk (W : World) (x0 : Int) (b0 : -9223372036854775808 ≤ x0) (b0' : x0 ≤ 9223372036854775807) :
    Calls Try.prog 12 #[.int .i64 x0] W (Tells W (.bool true)) := by
 obtain ⟨hp0, hp1⟩ := pick_bd x0 256 (by omega)
 obtain ⟨kn, hkn⟩ : ∃ kn : Nat, pick x0 256 = (kn : Int) := ⟨(pick x0 256).toNat, (Int.toNat_of_nonneg hp0).symm⟩
 have hkb : kn < 256 := by omega
 have S := St.start (Sat.whole W)
 go_enter Try.func12, Try.ntmps12
 refine wp_seq_k (fun K1 hK1 => region_wl ?_)
 refine do_ rfl (.bool false) (ex_assign _) ?_
 simp only [pS, pN, pA, pC, pZ]
 refine wl_nil (hK1 _ _ ?_)
 refine wp_seq_k (fun K2 hK2 => region_wl ?_)
 refine stNew S (v := fun n => .pointer (some ⟨n, 0, none⟩)) rfl (ex_alloc (zero_75 _)) (fun n3 w4 S5 => ?_)
 simp only [pS, pN, pA, pC, pZ]
 have S5 : St W (whole W) w4 (whole W) [⟨n3, [(.int .i64 0), (.slice none 0 0), (.slice none 0 0)], 75⟩] [] := S5
 refine wl_nil (hK2 _ _ ?_)
 refine wp_seq_k (fun K6 hK6 => ?_)
 refine wp_seq_k (fun K7 hK7 => region_wl ?_)
 refine do_ rfl (.int .i64 0) (ex_assign _) ?_
 simp only [pS, pN, pA, pC, pZ]
 refine wl_nil (hK7 _ _ ?_)
 refine wp_block ?_
 refine wp_loop_g (fun mm aa w10 => ∃ (k : Nat) (y0 : Option Addr) (y1 : Nat) (y2 : Option Addr) (y3 : Nat) (F8 : Fz) (u9 : Nat → Value), mm = 20 - k ∧ u9 = slots aa ∧ aa = ⟨#[(.int .i64 x0), undef, (u9 2), (.pointer (some ⟨n3, 0, none⟩)), (.int .i64 ((k : Nat) : Int)), (u9 5), (u9 6), undef, undef, undef, undef, undef, undef, undef, undef, (u9 15), (u9 16), (u9 17), (u9 18), (u9 19), (u9 20), (u9 21), (u9 22), (u9 23), (u9 24), (u9 25), (u9 26), (u9 27), (u9 28), (u9 29), (u9 30), (u9 31), undef, undef, undef, undef, undef, undef, undef, undef, undef, undef, undef, undef, undef, undef, undef, undef, undef, undef, undef, undef, undef, undef, undef, undef, undef, undef, undef, undef, undef, undef, undef, undef, undef, undef, undef, undef, undef, undef, undef, undef, undef, undef, undef, undef, undef, undef, undef, undef, undef, undef, undef, undef, undef, undef, undef, undef, undef, undef, undef, undef, undef, undef, undef, undef, undef, undef, undef], []⟩ ∧ St W (whole W) w10 F8 [⟨n3, [(.int .i64 (nfT k 0).start), (.slice y0 (nfT k 0).reads.length y1), (.slice y2 (nfT k 0).writes.length y3)], 75⟩] [] ∧ Le (whole W) F8 ∧ (k ≤ 20) ∧ (Rds F8 (.slice y0 (nfT k 0).reads.length y1) (nfT k 0).reads) ∧ (Wrs F8 (.slice y2 (nfT k 0).writes.length y3) (nfT k 0).writes)) _ ⟨0, none, 0, none, 0, (whole W), _, rfl, rfl, rfl, S5, Le.refl _, (by omega), (Sl.nil _ _ _), (Sl.nil _ _ _)⟩ ?_
 rintro m11 a12 w13 ⟨k, y0, y1, y2, y3, F8, u9, rfl, -, rfl, S14, le15, hk, qr, qw⟩ K16 hK16
 refine wp_seq_k (fun K17 hK17 => ?_)
 refine wp_seq_k (fun K18 hK18 => region_wl ?_)
 refine do_ rfl (.int .i64 ((k : Nat) : Int)) (ex_move _) ?_
 simp only [pS, pN, pA, pC, pZ]
 by_cases hc16 : k < 20
 ·refine do_ rfl (.bool true) (ex_lss (m := ((k : Nat) : Int)) (n := (20 : Int)) (b := true) rfl rfl (decide_eq_true (by omega))) ?_
  simp only [pS, pN, pA, pC, pZ]
  refine wl_nil (hK18 _ _ ?_)
  refine wp_cond_true rfl ?_
  refine wp_skip ?_
  refine hK17 _ _ ?_
  refine wp_seq_k (fun K19 hK19 => ?_)
  refine wp_block ?_
  refine wp_seq_k (fun K20 hK20 => region_wl ?_)
  refine do_ rfl (.agg #[(.int .i64 (nfT k 0).start), (.slice y0 (nfT k 0).reads.length y1), (.slice y2 (nfT k 0).writes.length y3)]) (ex_load rfl (loadN (cs := [(.int .i64 (nfT k 0).start), (.slice y0 (nfT k 0).reads.length y1), (.slice y2 (nfT k 0).writes.length y3)]) Try.underlying75 rfl (size_75) (St.range S14 (i := 0) rfl 0 [(.int .i64 (nfT k 0).start), (.slice y0 (nfT k 0).reads.length y1), (.slice y2 (nfT k 0).writes.length y3)] (sub_range 0 rfl)))) ?_
  simp only [pS, pN, pA, pC, pZ]
  refine stNew S14 (v := fun n => .slice (some ⟨n, 0, none⟩) 1 1) rfl (ex_lit (ps := #[(0, (.int .u8 1))]) (cells := #[(.int .u8 1)]) (E := 5) (bmap1 rfl) (fun w => by kernel_rfl)) (fun n21 w22 S23 => ?_)
  simp only [pS, pN, pA, pC, pZ]
  have S23 : St W (whole W) w22 F8 [⟨n21, [(.int .u8 1)], 5⟩, ⟨n3, [(.int .i64 (nfT k 0).start), (.slice y0 (nfT k 0).reads.length y1), (.slice y2 (nfT k 0).writes.length y3)], 75⟩] [] := S23
  refine do_ rfl (.int .i64 ((k : Nat) : Int)) (ex_move _) ?_
  simp only [pS, pN, pA, pC, pZ]
  refine do_ rfl (.int .u8 ((k : Nat) : Int)) (ex_convert (v := (.int .i64 ((k : Nat) : Int))) rfl (conv_i8 k (by omega) _)) ?_
  simp only [pS, pN, pA, pC, pZ]
  refine stNew S23 (v := fun n => .slice (some ⟨n, 0, none⟩) 1 1) rfl (ex_lit (ps := #[(0, (.int .u8 ((k : Nat) : Int)))]) (cells := #[(.int .u8 ((k : Nat) : Int))]) (E := 5) (bmap1 rfl) (fun w => by kernel_rfl)) (fun n24 w25 S26 => ?_)
  simp only [pS, pN, pA, pC, pZ]
  have S26 : St W (whole W) w25 F8 [⟨n24, [(.int .u8 ((k : Nat) : Int))], 5⟩, ⟨n21, [(.int .u8 1)], 5⟩, ⟨n3, [(.int .i64 (nfT k 0).start), (.slice y0 (nfT k 0).reads.length y1), (.slice y2 (nfT k 0).writes.length y3)], 75⟩] [] := S26
  refine do_ rfl (.agg #[(.slice (some ⟨n21, 0, none⟩) 1 1), (.slice (some ⟨n24, 0, none⟩) 1 1), (.bool false), (.slice none 0 0)]) (ex_build (ps := #[(0, (.slice (some ⟨n21, 0, none⟩) 1 1)), (1, (.slice (some ⟨n24, 0, none⟩) 1 1))]) (bmap2 rfl rfl) (by kernel_rfl)) ?_
  simp only [pS, pN, pA, pC, pZ]
  obtain ⟨S27, le28, hc29⟩ := St.freezeBlk S26 (i := 1) rfl
  have r31 : Bs _ (.slice (some ⟨n21, 0, none⟩) 1 1) ([1] : By) := bs_of_block (l := ([1] : By)) hc29 (rfl) (by unfold maxLen; simp)
  generalize addF F8 w25 n21 = F30 at *
  have S27 : St W (whole W) w25 F30 [⟨n24, [(.int .u8 ((k : Nat) : Int))], 5⟩, ⟨n3, [(.int .i64 (nfT k 0).start), (.slice y0 (nfT k 0).reads.length y1), (.slice y2 (nfT k 0).writes.length y3)], 75⟩] [] := S27
  obtain ⟨S32, le33, hc34⟩ := St.freezeBlk S27 (i := 0) rfl
  have r36 : Bs _ (.slice (some ⟨n24, 0, none⟩) 1 1) ([b8 k] : By) := bs_of_block (l := ([b8 k] : By)) hc34 ((by simp only [List.map_cons, List.map_nil]; rw [bv_b8 (by omega)])) (by unfold maxLen; simp)
  generalize addF F30 w25 n24 = F35 at *
  have S32 : St W (whole W) w25 F35 [⟨n3, [(.int .i64 (nfT k 0).start), (.slice y0 (nfT k 0).reads.length y1), (.slice y2 (nfT k 0).writes.length y3)], 75⟩] [] := S32
  refine stGives S32 rfl (ex_fn (vs := #[(.agg #[(.int .i64 (nfT k 0).start), (.slice y0 (nfT k 0).reads.length y1), (.slice y2 (nfT k 0).writes.length y3)]), (.agg #[(.slice (some ⟨n21, 0, none⟩) 1 1), (.slice (some ⟨n24, 0, none⟩) 1 1), (.bool false), (.slice none 0 0)])]) (map2 rfl rfl) rfl (ent_46 _ _)) (txnNoteIs_spec _ _ _ _ (nfT k 0) (⟨([1] : By), [b8 k], false, ([] : By)⟩ : Rd) (nfT (k + 1) 0) (S32).sat ⟨_, _, _, _, rfl, (qr.mono (le28.trans le33)), (qw.mono (le28.trans le33))⟩ ⟨_, _, _, _, _, _, rfl, (r31.mono le33), r36, (Bs.nil _)⟩ (nf_ok (by omega) (by omega)) (nfR_ok k) (nf_note (by omega))) ?_
  intro v42 w37 F39 S38 le40 R41
  obtain ⟨_, rfl, R43⟩ := R41
  obtain ⟨xa44, xc45, xa46, xc47, rfl, r48, r49⟩ := R43
  simp only [pS, pN, pA, pC, pZ]
  refine do_ rfl (.tuple #[(.agg #[(.int .i64 (nfT (k + 1) 0).start), (.slice xa44 (nfT (k + 1) 0).reads.length xc45), (.slice xa46 (nfT (k + 1) 0).writes.length xc47)]), (.int .i64 0)]) (ex_move _) ?_
  simp only [pS, pN, pA, pC, pZ]
  refine do_ rfl (.agg #[(.int .i64 (nfT (k + 1) 0).start), (.slice xa44 (nfT (k + 1) 0).reads.length xc45), (.slice xa46 (nfT (k + 1) 0).writes.length xc47)]) (ex_extract rfl rfl) ?_
  simp only [pS, pN, pA, pC, pZ]
  refine do_ rfl (.int .i64 0) (ex_extract rfl rfl) ?_
  simp only [pS, pN, pA, pC, pZ]
  refine stNew S38 (v := fun n => .pointer (some ⟨n, 0, none⟩)) rfl (ex_alloc (zero_75 _)) (fun n50 w51 S52 => ?_)
  simp only [pS, pN, pA, pC, pZ]
  have S52 : St W (whole W) w51 F39 [⟨n50, [(.int .i64 0), (.slice none 0 0), (.slice none 0 0)], 75⟩, ⟨n3, [(.int .i64 (nfT k 0).start), (.slice y0 (nfT k 0).reads.length y1), (.slice y2 (nfT k 0).writes.length y3)], 75⟩] [] := S52
  refine stStore (i := 0) (v := (.agg #[(.int .i64 (nfT (k + 1) 0).start), (.slice xa44 (nfT (k + 1) 0).reads.length xc45), (.slice xa46 (nfT (k + 1) 0).writes.length xc47)])) S52 rfl rfl rfl rfl (size_75) (allc3 rfl rfl rfl) (Nat.le_of_ble_eq_true rfl) (fun w53 S54 => ?_)
  simp only [pS, pN, pA, pC, pZ]
  have S54 : St W (whole W) w53 F39 [⟨n50, [(.int .i64 (nfT (k + 1) 0).start), (.slice xa44 (nfT (k + 1) 0).reads.length xc45), (.slice xa46 (nfT (k + 1) 0).writes.length xc47)], 75⟩, ⟨n3, [(.int .i64 (nfT k 0).start), (.slice y0 (nfT k 0).reads.length y1), (.slice y2 (nfT k 0).writes.length y3)], 75⟩] [] := S54
  refine do_ rfl (.int .i64 0) (ex_assign _) ?_
  simp only [pS, pN, pA, pC, pZ]
  refine wl_nil (hK20 _ _ ?_)
  refine wp_seq_k (fun K55 hK55 => ?_)
  refine wp_seq_k (fun K56 hK56 => region_wl ?_)
  refine do_ rfl (.int .i64 0) (ex_move _) ?_
  simp only [pS, pN, pA, pC, pZ]
  refine do_ rfl (.bool false) (ex_neq (b := false) rfl rfl (by decide)) ?_
  simp only [pS, pN, pA, pC, pZ]
  refine wl_nil (hK56 _ _ ?_)
  refine wp_cond_false rfl ?_
  refine wp_skip ?_
  refine hK55 _ _ ?_
  refine region_wl ?_
  refine do_ rfl (.agg #[(.int .i64 (nfT (k + 1) 0).start), (.slice xa44 (nfT (k + 1) 0).reads.length xc45), (.slice xa46 (nfT (k + 1) 0).writes.length xc47)]) (ex_load rfl (loadN (cs := [(.int .i64 (nfT (k + 1) 0).start), (.slice xa44 (nfT (k + 1) 0).reads.length xc45), (.slice xa46 (nfT (k + 1) 0).writes.length xc47)]) Try.underlying75 rfl (size_75) (St.range S54 (i := 0) rfl 0 [(.int .i64 (nfT (k + 1) 0).start), (.slice xa44 (nfT (k + 1) 0).reads.length xc45), (.slice xa46 (nfT (k + 1) 0).writes.length xc47)] (sub_range 0 rfl)))) ?_
  simp only [pS, pN, pA, pC, pZ]
  refine stStore (i := 1) (v := (.agg #[(.int .i64 (nfT (k + 1) 0).start), (.slice xa44 (nfT (k + 1) 0).reads.length xc45), (.slice xa46 (nfT (k + 1) 0).writes.length xc47)])) S54 rfl rfl rfl rfl (size_75) (allc3 rfl rfl rfl) (Nat.le_of_ble_eq_true rfl) (fun w57 S58 => ?_)
  simp only [pS, pN, pA, pC, pZ]
  have S58 : St W (whole W) w57 F39 [⟨n50, [(.int .i64 (nfT (k + 1) 0).start), (.slice xa44 (nfT (k + 1) 0).reads.length xc45), (.slice xa46 (nfT (k + 1) 0).writes.length xc47)], 75⟩, ⟨n3, [(.int .i64 (nfT (k + 1) 0).start), (.slice xa44 (nfT (k + 1) 0).reads.length xc45), (.slice xa46 (nfT (k + 1) 0).writes.length xc47)], 75⟩] [] := S58
  refine wl_nil (hK19 _ _ ?_)
  refine region_wl ?_
  refine do_ rfl (.int .i64 ((k : Nat) : Int)) (ex_move _) ?_
  simp only [pS, pN, pA, pC, pZ]
  refine do_ rfl (.int .i64 (((k + 1) : Nat) : Int)) (ex_add (m := ((k : Nat) : Int)) (n := (1 : Int)) (r := (((k + 1) : Nat) : Int)) rfl rfl (by omega) (by omega) (by omega)) ?_
  simp only [pS, pN, pA, pC, pZ]
  refine do_ rfl (.int .i64 (((k + 1) : Nat) : Int)) (ex_assign _) ?_
  simp only [pS, pN, pA, pC, pZ]
  refine wl_nil ?_
  have S58 := St.drop S58 (L' := [⟨n3, [(.int .i64 (nfT (k + 1) 0).start), (.slice xa44 (nfT (k + 1) 0).reads.length xc45), (.slice xa46 (nfT (k + 1) 0).writes.length xc47)], 75⟩]) (.cons _ (List.Sublist.refl _))
  exact hK16 _ _ _ (by omega) ⟨(k + 1), xa44, xc45, xa46, xc47, F39, _, rfl, rfl, rfl, S58, (((le15.trans le28).trans le33).trans le40), (by omega), r48, r49⟩
 ·refine do_ rfl (.bool false) (ex_lss (m := ((k : Nat) : Int)) (n := (20 : Int)) (b := false) rfl rfl (decide_eq_false (by omega))) ?_
  simp only [pS, pN, pA, pC, pZ]
  refine wl_nil (hK18 _ _ ?_)
  refine wp_cond_false rfl ?_
  refine wp_exit ?_
  refine hK6 _ _ ?_
  refine wp_seq_k (fun K59 hK59 => ?_)
  refine wp_seq_k (fun K60 hK60 => region_wl ?_)
  refine do_ rfl (.int .i64 0) (ex_assign _) ?_
  simp only [pS, pN, pA, pC, pZ]
  refine wl_nil (hK60 _ _ ?_)
  refine wp_block ?_
  have hk20 : k = 20 := by omega
  subst hk20
  refine wp_loop_g (fun mm aa w63 => ∃ (j : Nat) (z0 : Option Addr) (z1 : Nat) (z2 : Option Addr) (z3 : Nat) (F61 : Fz) (u62 : Nat → Value), mm = 10 - j ∧ u62 = slots aa ∧ aa = ⟨#[(.int .i64 x0), undef, (u62 2), (.pointer (some ⟨n3, 0, none⟩)), (.int .i64 20), (u9 5), (u9 6), (.int .i64 ((j : Nat) : Int)), (u62 8), (u62 9), undef, undef, undef, undef, undef, (.int .i64 20), (.bool false), (u9 17), (u9 18), (u9 19), (u9 20), (u9 21), (u9 22), (u9 23), (u9 24), (u9 25), (u9 26), (u9 27), (u9 28), (u9 29), (u9 30), (u9 31), (u62 32), (u62 33), (u62 34), (u62 35), (u62 36), (u62 37), (u62 38), (u62 39), (u62 40), (u62 41), (u62 42), (u62 43), (u62 44), (u62 45), (u62 46), (u62 47), (u62 48), undef, undef, undef, undef, undef, undef, undef, undef, undef, undef, undef, undef, undef, undef, undef, undef, undef, undef, undef, undef, undef, undef, undef, undef, undef, undef, undef, undef, undef, undef, undef, undef, undef, undef, undef, undef, undef, undef, undef, undef, undef, undef, undef, undef, undef, undef, undef, undef, undef, undef], []⟩ ∧ St W (whole W) w63 F61 [⟨n3, [(.int .i64 (nfT 20 j).start), (.slice z0 (nfT 20 j).reads.length z1), (.slice z2 (nfT 20 j).writes.length z3)], 75⟩] [] ∧ Le F8 F61 ∧ (j ≤ 10) ∧ (Rds F61 (.slice z0 (nfT 20 j).reads.length z1) (nfT 20 j).reads) ∧ (Wrs F61 (.slice z2 (nfT 20 j).writes.length z3) (nfT 20 j).writes)) _ ⟨0, y0, y1, y2, y3, F8, _, rfl, rfl, rfl, S14, Le.refl _, (by omega), qr, qw⟩ ?_
  rintro m64 a65 w66 ⟨j, z0, z1, z2, z3, F61, u62, rfl, -, rfl, S67, le68, hj, pr, pw⟩ K69 hK69
  refine wp_seq_k (fun K70 hK70 => ?_)
  refine wp_seq_k (fun K71 hK71 => region_wl ?_)
  refine do_ rfl (.int .i64 ((j : Nat) : Int)) (ex_move _) ?_
  simp only [pS, pN, pA, pC, pZ]
  by_cases hc33 : j < 10
  ·refine do_ rfl (.bool true) (ex_lss (m := ((j : Nat) : Int)) (n := (10 : Int)) (b := true) rfl rfl (decide_eq_true (by omega))) ?_
   simp only [pS, pN, pA, pC, pZ]
   refine wl_nil (hK71 _ _ ?_)
   refine wp_cond_true rfl ?_
   refine wp_skip ?_
   refine hK70 _ _ ?_
   refine wp_seq_k (fun K72 hK72 => ?_)
   refine wp_block ?_
   refine wp_seq_k (fun K73 hK73 => region_wl ?_)
   refine do_ rfl (.agg #[(.int .i64 (nfT 20 j).start), (.slice z0 (nfT 20 j).reads.length z1), (.slice z2 (nfT 20 j).writes.length z3)]) (ex_load rfl (loadN (cs := [(.int .i64 (nfT 20 j).start), (.slice z0 (nfT 20 j).reads.length z1), (.slice z2 (nfT 20 j).writes.length z3)]) Try.underlying75 rfl (size_75) (St.range S67 (i := 0) rfl 0 [(.int .i64 (nfT 20 j).start), (.slice z0 (nfT 20 j).reads.length z1), (.slice z2 (nfT 20 j).writes.length z3)] (sub_range 0 rfl)))) ?_
   simp only [pS, pN, pA, pC, pZ]
   refine stNew S67 (v := fun n => .slice (some ⟨n, 0, none⟩) 1 1) rfl (ex_lit (ps := #[(0, (.int .u8 1))]) (cells := #[(.int .u8 1)]) (E := 5) (bmap1 rfl) (fun w => by kernel_rfl)) (fun n74 w75 S76 => ?_)
   simp only [pS, pN, pA, pC, pZ]
   have S76 : St W (whole W) w75 F61 [⟨n74, [(.int .u8 1)], 5⟩, ⟨n3, [(.int .i64 (nfT 20 j).start), (.slice z0 (nfT 20 j).reads.length z1), (.slice z2 (nfT 20 j).writes.length z3)], 75⟩] [] := S76
   refine do_ rfl (.int .i64 ((j : Nat) : Int)) (ex_move _) ?_
   simp only [pS, pN, pA, pC, pZ]
   refine do_ rfl (.int .u8 ((j : Nat) : Int)) (ex_convert (v := (.int .i64 ((j : Nat) : Int))) rfl (conv_i8 j (by omega) _)) ?_
   simp only [pS, pN, pA, pC, pZ]
   refine stNew S76 (v := fun n => .slice (some ⟨n, 0, none⟩) 1 1) rfl (ex_lit (ps := #[(0, (.int .u8 ((j : Nat) : Int)))]) (cells := #[(.int .u8 ((j : Nat) : Int))]) (E := 5) (bmap1 rfl) (fun w => by kernel_rfl)) (fun n77 w78 S79 => ?_)
   simp only [pS, pN, pA, pC, pZ]
   have S79 : St W (whole W) w78 F61 [⟨n77, [(.int .u8 ((j : Nat) : Int))], 5⟩, ⟨n74, [(.int .u8 1)], 5⟩, ⟨n3, [(.int .i64 (nfT 20 j).start), (.slice z0 (nfT 20 j).reads.length z1), (.slice z2 (nfT 20 j).writes.length z3)], 75⟩] [] := S79
   refine do_ rfl (.agg #[(.slice (some ⟨n74, 0, none⟩) 1 1), (.slice (some ⟨n77, 0, none⟩) 1 1), (.bool false), (.slice none 0 0)]) (ex_build (ps := #[(0, (.slice (some ⟨n74, 0, none⟩) 1 1)), (1, (.slice (some ⟨n77, 0, none⟩) 1 1))]) (bmap2 rfl rfl) (by kernel_rfl)) ?_
   simp only [pS, pN, pA, pC, pZ]
   obtain ⟨S80, le81, hc82⟩ := St.freezeBlk S79 (i := 1) rfl
   have r84 : Bs _ (.slice (some ⟨n74, 0, none⟩) 1 1) ([1] : By) := bs_of_block (l := ([1] : By)) hc82 (rfl) (by unfold maxLen; simp)
   generalize addF F61 w78 n74 = F83 at *
   have S80 : St W (whole W) w78 F83 [⟨n77, [(.int .u8 ((j : Nat) : Int))], 5⟩, ⟨n3, [(.int .i64 (nfT 20 j).start), (.slice z0 (nfT 20 j).reads.length z1), (.slice z2 (nfT 20 j).writes.length z3)], 75⟩] [] := S80
   obtain ⟨S85, le86, hc87⟩ := St.freezeBlk S80 (i := 0) rfl
   have r89 : Bs _ (.slice (some ⟨n77, 0, none⟩) 1 1) ([b8 j] : By) := bs_of_block (l := ([b8 j] : By)) hc87 ((by simp only [List.map_cons, List.map_nil]; rw [bv_b8 (by omega)])) (by unfold maxLen; simp)
   generalize addF F83 w78 n77 = F88 at *
   have S85 : St W (whole W) w78 F88 [⟨n3, [(.int .i64 (nfT 20 j).start), (.slice z0 (nfT 20 j).reads.length z1), (.slice z2 (nfT 20 j).writes.length z3)], 75⟩] [] := S85
   refine stGives S85 rfl (ex_fn (vs := #[(.agg #[(.int .i64 (nfT 20 j).start), (.slice z0 (nfT 20 j).reads.length z1), (.slice z2 (nfT 20 j).writes.length z3)]), (.agg #[(.slice (some ⟨n74, 0, none⟩) 1 1), (.slice (some ⟨n77, 0, none⟩) 1 1), (.bool false), (.slice none 0 0)])]) (map2 rfl rfl) rfl (ent_42 _ _)) (txnWriteIs_spec _ _ _ _ (nfT 20 j) (⟨([1] : By), [b8 j], false, ([] : By)⟩ : Wr) (nfT 20 (j + 1)) (S85).sat ⟨_, _, _, _, rfl, (pr.mono (le81.trans le86)), (pw.mono (le81.trans le86))⟩ ⟨_, _, _, _, _, _, rfl, (r84.mono le86), r89, (Bs.nil _)⟩ (nf_ok (by omega) (by omega)) (nfW_ok j false) (nf_write (by omega))) ?_
   intro v95 w90 F92 S91 le93 R94
   obtain ⟨_, rfl, R96⟩ := R94
   obtain ⟨xa97, xc98, xa99, xc100, rfl, r101, r102⟩ := R96
   simp only [pS, pN, pA, pC, pZ]
   refine do_ rfl (.tuple #[(.agg #[(.int .i64 (nfT 20 (j + 1)).start), (.slice xa97 (nfT 20 (j + 1)).reads.length xc98), (.slice xa99 (nfT 20 (j + 1)).writes.length xc100)]), (.int .i64 0)]) (ex_move _) ?_
   simp only [pS, pN, pA, pC, pZ]
   refine do_ rfl (.agg #[(.int .i64 (nfT 20 (j + 1)).start), (.slice xa97 (nfT 20 (j + 1)).reads.length xc98), (.slice xa99 (nfT 20 (j + 1)).writes.length xc100)]) (ex_extract rfl rfl) ?_
   simp only [pS, pN, pA, pC, pZ]
   refine do_ rfl (.int .i64 0) (ex_extract rfl rfl) ?_
   simp only [pS, pN, pA, pC, pZ]
   refine stNew S91 (v := fun n => .pointer (some ⟨n, 0, none⟩)) rfl (ex_alloc (zero_75 _)) (fun n103 w104 S105 => ?_)
   simp only [pS, pN, pA, pC, pZ]
   have S105 : St W (whole W) w104 F92 [⟨n103, [(.int .i64 0), (.slice none 0 0), (.slice none 0 0)], 75⟩, ⟨n3, [(.int .i64 (nfT 20 j).start), (.slice z0 (nfT 20 j).reads.length z1), (.slice z2 (nfT 20 j).writes.length z3)], 75⟩] [] := S105
   refine stStore (i := 0) (v := (.agg #[(.int .i64 (nfT 20 (j + 1)).start), (.slice xa97 (nfT 20 (j + 1)).reads.length xc98), (.slice xa99 (nfT 20 (j + 1)).writes.length xc100)])) S105 rfl rfl rfl rfl (size_75) (allc3 rfl rfl rfl) (Nat.le_of_ble_eq_true rfl) (fun w106 S107 => ?_)
   simp only [pS, pN, pA, pC, pZ]
   have S107 : St W (whole W) w106 F92 [⟨n103, [(.int .i64 (nfT 20 (j + 1)).start), (.slice xa97 (nfT 20 (j + 1)).reads.length xc98), (.slice xa99 (nfT 20 (j + 1)).writes.length xc100)], 75⟩, ⟨n3, [(.int .i64 (nfT 20 j).start), (.slice z0 (nfT 20 j).reads.length z1), (.slice z2 (nfT 20 j).writes.length z3)], 75⟩] [] := S107
   refine do_ rfl (.int .i64 0) (ex_assign _) ?_
   simp only [pS, pN, pA, pC, pZ]
   refine wl_nil (hK73 _ _ ?_)
   refine wp_seq_k (fun K108 hK108 => ?_)
   refine wp_seq_k (fun K109 hK109 => region_wl ?_)
   refine do_ rfl (.int .i64 0) (ex_move _) ?_
   simp only [pS, pN, pA, pC, pZ]
   refine do_ rfl (.bool false) (ex_neq (b := false) rfl rfl (by decide)) ?_
   simp only [pS, pN, pA, pC, pZ]
   refine wl_nil (hK109 _ _ ?_)
   refine wp_cond_false rfl ?_
   refine wp_skip ?_
   refine hK108 _ _ ?_
   refine region_wl ?_
   refine do_ rfl (.agg #[(.int .i64 (nfT 20 (j + 1)).start), (.slice xa97 (nfT 20 (j + 1)).reads.length xc98), (.slice xa99 (nfT 20 (j + 1)).writes.length xc100)]) (ex_load rfl (loadN (cs := [(.int .i64 (nfT 20 (j + 1)).start), (.slice xa97 (nfT 20 (j + 1)).reads.length xc98), (.slice xa99 (nfT 20 (j + 1)).writes.length xc100)]) Try.underlying75 rfl (size_75) (St.range S107 (i := 0) rfl 0 [(.int .i64 (nfT 20 (j + 1)).start), (.slice xa97 (nfT 20 (j + 1)).reads.length xc98), (.slice xa99 (nfT 20 (j + 1)).writes.length xc100)] (sub_range 0 rfl)))) ?_
   simp only [pS, pN, pA, pC, pZ]
   refine stStore (i := 1) (v := (.agg #[(.int .i64 (nfT 20 (j + 1)).start), (.slice xa97 (nfT 20 (j + 1)).reads.length xc98), (.slice xa99 (nfT 20 (j + 1)).writes.length xc100)])) S107 rfl rfl rfl rfl (size_75) (allc3 rfl rfl rfl) (Nat.le_of_ble_eq_true rfl) (fun w110 S111 => ?_)
   simp only [pS, pN, pA, pC, pZ]
   have S111 : St W (whole W) w110 F92 [⟨n103, [(.int .i64 (nfT 20 (j + 1)).start), (.slice xa97 (nfT 20 (j + 1)).reads.length xc98), (.slice xa99 (nfT 20 (j + 1)).writes.length xc100)], 75⟩, ⟨n3, [(.int .i64 (nfT 20 (j + 1)).start), (.slice xa97 (nfT 20 (j + 1)).reads.length xc98), (.slice xa99 (nfT 20 (j + 1)).writes.length xc100)], 75⟩] [] := S111
   refine wl_nil (hK72 _ _ ?_)
   refine region_wl ?_
   refine do_ rfl (.int .i64 ((j : Nat) : Int)) (ex_move _) ?_
   simp only [pS, pN, pA, pC, pZ]
   refine do_ rfl (.int .i64 (((j + 1) : Nat) : Int)) (ex_add (m := ((j : Nat) : Int)) (n := (1 : Int)) (r := (((j + 1) : Nat) : Int)) rfl rfl (by omega) (by omega) (by omega)) ?_
   simp only [pS, pN, pA, pC, pZ]
   refine do_ rfl (.int .i64 (((j + 1) : Nat) : Int)) (ex_assign _) ?_
   simp only [pS, pN, pA, pC, pZ]
   refine wl_nil ?_
   have S111 := St.drop S111 (L' := [⟨n3, [(.int .i64 (nfT 20 (j + 1)).start), (.slice xa97 (nfT 20 (j + 1)).reads.length xc98), (.slice xa99 (nfT 20 (j + 1)).writes.length xc100)], 75⟩]) (.cons _ (List.Sublist.refl _))
   exact hK69 _ _ _ (by omega) ⟨(j + 1), xa97, xc98, xa99, xc100, F92, _, rfl, rfl, rfl, S111, (((le68.trans le81).trans le86).trans le93), (by omega), r101, r102⟩
  ·refine do_ rfl (.bool false) (ex_lss (m := ((j : Nat) : Int)) (n := (10 : Int)) (b := false) rfl rfl (decide_eq_false (by omega))) ?_
   simp only [pS, pN, pA, pC, pZ]
   refine wl_nil (hK71 _ _ ?_)
   refine wp_cond_false rfl ?_
   refine wp_exit ?_
   refine hK59 _ _ ?_
   refine wp_seq_k (fun K112 hK112 => ?_)
   have hj10 : j = 10 := by omega
   subst hj10
   refine region_wl ?_
   refine do_ rfl (.int .i64 x0) (ex_move _) ?_
   simp only [pS, pN, pA, pC, pZ]
   refine stTells (v := (.int .i64 ((kn : Nat) : Int))) S67 rfl (ex_fn (vs := #[(.int .i64 x0), (.int .i64 256)]) (map2 rfl rfl) rfl (ent_25 _ _)) (hkn ▸ tells_same (picked_spec x0 (256 : Int) _ b0 b0' (by omega) (by omega))) (fun w113 S114 => ?_)
   simp only [pS, pN, pA, pC, pZ]
   refine do_ rfl (.int .i64 ((kn : Nat) : Int)) (ex_assign _) ?_
   simp only [pS, pN, pA, pC, pZ]
   refine wl_nil (hK112 _ _ ?_)
   refine wp_seq_k (fun K115 hK115 => ?_)
   have hnf := nf_ok (i := 20) (j := 10) (by omega) (by omega)
   by_cases h20 : kn < 20
   ·refine region_wl ?_
    refine do_ rfl (.agg #[(.int .i64 (nfT 20 10).start), (.slice z0 (nfT 20 10).reads.length z1), (.slice z2 (nfT 20 10).writes.length z3)]) (ex_load rfl (loadN (cs := [(.int .i64 (nfT 20 10).start), (.slice z0 (nfT 20 10).reads.length z1), (.slice z2 (nfT 20 10).writes.length z3)]) Try.underlying75 rfl (size_75) (St.range S114 (i := 0) rfl 0 [(.int .i64 (nfT 20 10).start), (.slice z0 (nfT 20 10).reads.length z1), (.slice z2 (nfT 20 10).writes.length z3)] (sub_range 0 rfl)))) ?_
    simp only [pS, pN, pA, pC, pZ]
    refine stNew S114 (v := fun n => .slice (some ⟨n, 0, none⟩) 1 1) rfl (ex_lit (ps := #[(0, (.int .u8 1))]) (cells := #[(.int .u8 1)]) (E := 5) (bmap1 rfl) (fun w => by kernel_rfl)) (fun n116 w117 S118 => ?_)
    simp only [pS, pN, pA, pC, pZ]
    have S118 : St W (whole W) w117 F61 [⟨n116, [(.int .u8 1)], 5⟩, ⟨n3, [(.int .i64 (nfT 20 10).start), (.slice z0 (nfT 20 10).reads.length z1), (.slice z2 (nfT 20 10).writes.length z3)], 75⟩] [] := S118
    refine do_ rfl (.int .i64 ((kn : Nat) : Int)) (ex_move _) ?_
    simp only [pS, pN, pA, pC, pZ]
    refine do_ rfl (.int .u8 ((kn : Nat) : Int)) (ex_convert (v := (.int .i64 ((kn : Nat) : Int))) rfl (conv_i8 kn (by omega) _)) ?_
    simp only [pS, pN, pA, pC, pZ]
    refine stNew S118 (v := fun n => .slice (some ⟨n, 0, none⟩) 1 1) rfl (ex_lit (ps := #[(0, (.int .u8 ((kn : Nat) : Int)))]) (cells := #[(.int .u8 ((kn : Nat) : Int))]) (E := 5) (bmap1 rfl) (fun w => by kernel_rfl)) (fun n119 w120 S121 => ?_)
    simp only [pS, pN, pA, pC, pZ]
    have S121 : St W (whole W) w120 F61 [⟨n119, [(.int .u8 ((kn : Nat) : Int))], 5⟩, ⟨n116, [(.int .u8 1)], 5⟩, ⟨n3, [(.int .i64 (nfT 20 10).start), (.slice z0 (nfT 20 10).reads.length z1), (.slice z2 (nfT 20 10).writes.length z3)], 75⟩] [] := S121
    refine do_ rfl (.agg #[(.slice (some ⟨n116, 0, none⟩) 1 1), (.slice (some ⟨n119, 0, none⟩) 1 1), (.bool false), (.slice none 0 0)]) (ex_build (ps := #[(0, (.slice (some ⟨n116, 0, none⟩) 1 1)), (1, (.slice (some ⟨n119, 0, none⟩) 1 1))]) (bmap2 rfl rfl) (by kernel_rfl)) ?_
    simp only [pS, pN, pA, pC, pZ]
    obtain ⟨S122, le123, hc124⟩ := St.freezeBlk S121 (i := 1) rfl
    have r126 : Bs _ (.slice (some ⟨n116, 0, none⟩) 1 1) ([1] : By) := bs_of_block (l := ([1] : By)) hc124 (rfl) (by unfold maxLen; simp)
    generalize addF F61 w120 n116 = F125 at *
    have S122 : St W (whole W) w120 F125 [⟨n119, [(.int .u8 ((kn : Nat) : Int))], 5⟩, ⟨n3, [(.int .i64 (nfT 20 10).start), (.slice z0 (nfT 20 10).reads.length z1), (.slice z2 (nfT 20 10).writes.length z3)], 75⟩] [] := S122
    obtain ⟨S127, le128, hc129⟩ := St.freezeBlk S122 (i := 0) rfl
    have r131 : Bs _ (.slice (some ⟨n119, 0, none⟩) 1 1) ([b8 kn] : By) := bs_of_block (l := ([b8 kn] : By)) hc129 ((by simp only [List.map_cons, List.map_nil]; rw [bv_b8 (by omega)])) (by unfold maxLen; simp)
    generalize addF F125 w120 n119 = F130 at *
    have S127 : St W (whole W) w120 F130 [⟨n3, [(.int .i64 (nfT 20 10).start), (.slice z0 (nfT 20 10).reads.length z1), (.slice z2 (nfT 20 10).writes.length z3)], 75⟩] [] := S127
    refine stGives S127 rfl (ex_fn (vs := #[(.agg #[(.int .i64 (nfT 20 10).start), (.slice z0 (nfT 20 10).reads.length z1), (.slice z2 (nfT 20 10).writes.length z3)]), (.agg #[(.slice (some ⟨n116, 0, none⟩) 1 1), (.slice (some ⟨n119, 0, none⟩) 1 1), (.bool false), (.slice none 0 0)])]) (map2 rfl rfl) rfl (ent_46 _ _)) (txnNoteIs_spec _ _ _ _ (nfT 20 10) (⟨([1] : By), [b8 kn], false, ([] : By)⟩ : Rd) (nfT 20 10) (S127).sat ⟨_, _, _, _, rfl, (pr.mono (le123.trans le128)), (pw.mono (le123.trans le128))⟩ ⟨_, _, _, _, _, _, rfl, (r126.mono le128), r131, (Bs.nil _)⟩ hnf (nfR_ok kn) (nf_note_in h20)) ?_
    intro v137 w132 F134 S133 le135 R136
    obtain ⟨_, rfl, R138⟩ := R136
    obtain ⟨xa139, xc140, xa141, xc142, rfl, r143, r144⟩ := R138
    simp only [pS, pN, pA, pC, pZ]
    refine do_ rfl (.tuple #[(.agg #[(.int .i64 (nfT 20 10).start), (.slice xa139 (nfT 20 10).reads.length xc140), (.slice xa141 (nfT 20 10).writes.length xc142)]), (.int .i64 0)]) (ex_move _) ?_
    simp only [pS, pN, pA, pC, pZ]
    refine do_ rfl (.agg #[(.int .i64 (nfT 20 10).start), (.slice xa139 (nfT 20 10).reads.length xc140), (.slice xa141 (nfT 20 10).writes.length xc142)]) (ex_extract rfl rfl) ?_
    simp only [pS, pN, pA, pC, pZ]
    refine do_ rfl (.int .i64 0) (ex_extract rfl rfl) ?_
    simp only [pS, pN, pA, pC, pZ]
    refine stNew S133 (v := fun n => .pointer (some ⟨n, 0, none⟩)) rfl (ex_alloc (zero_75 _)) (fun n145 w146 S147 => ?_)
    simp only [pS, pN, pA, pC, pZ]
    have S147 : St W (whole W) w146 F134 [⟨n145, [(.int .i64 0), (.slice none 0 0), (.slice none 0 0)], 75⟩, ⟨n3, [(.int .i64 (nfT 20 10).start), (.slice z0 (nfT 20 10).reads.length z1), (.slice z2 (nfT 20 10).writes.length z3)], 75⟩] [] := S147
    refine stStore (i := 0) (v := (.agg #[(.int .i64 (nfT 20 10).start), (.slice xa139 (nfT 20 10).reads.length xc140), (.slice xa141 (nfT 20 10).writes.length xc142)])) S147 rfl rfl rfl rfl (size_75) (allc3 rfl rfl rfl) (Nat.le_of_ble_eq_true rfl) (fun w148 S149 => ?_)
    simp only [pS, pN, pA, pC, pZ]
    have S149 : St W (whole W) w148 F134 [⟨n145, [(.int .i64 (nfT 20 10).start), (.slice xa139 (nfT 20 10).reads.length xc140), (.slice xa141 (nfT 20 10).writes.length xc142)], 75⟩, ⟨n3, [(.int .i64 (nfT 20 10).start), (.slice z0 (nfT 20 10).reads.length z1), (.slice z2 (nfT 20 10).writes.length z3)], 75⟩] [] := S149
    refine do_ rfl (.int .i64 0) (ex_assign _) ?_
    simp only [pS, pN, pA, pC, pZ]
    refine wl_nil (hK115 _ _ ?_)
    refine wp_seq_k (fun K150 hK150 => ?_)
    by_cases h10 : kn < 10
    ·obtain ⟨U, hU⟩ := nf_write_in h10
     refine region_wl ?_
     refine do_ rfl (.agg #[(.int .i64 (nfT 20 10).start), (.slice z0 (nfT 20 10).reads.length z1), (.slice z2 (nfT 20 10).writes.length z3)]) (ex_load rfl (loadN (cs := [(.int .i64 (nfT 20 10).start), (.slice z0 (nfT 20 10).reads.length z1), (.slice z2 (nfT 20 10).writes.length z3)]) Try.underlying75 rfl (size_75) (St.range S149 (i := 1) rfl 0 [(.int .i64 (nfT 20 10).start), (.slice z0 (nfT 20 10).reads.length z1), (.slice z2 (nfT 20 10).writes.length z3)] (sub_range 0 rfl)))) ?_
     simp only [pS, pN, pA, pC, pZ]
     refine stNew S149 (v := fun n => .slice (some ⟨n, 0, none⟩) 1 1) rfl (ex_lit (ps := #[(0, (.int .u8 1))]) (cells := #[(.int .u8 1)]) (E := 5) (bmap1 rfl) (fun w => by kernel_rfl)) (fun n151 w152 S153 => ?_)
     simp only [pS, pN, pA, pC, pZ]
     have S153 : St W (whole W) w152 F134 [⟨n151, [(.int .u8 1)], 5⟩, ⟨n145, [(.int .i64 (nfT 20 10).start), (.slice xa139 (nfT 20 10).reads.length xc140), (.slice xa141 (nfT 20 10).writes.length xc142)], 75⟩, ⟨n3, [(.int .i64 (nfT 20 10).start), (.slice z0 (nfT 20 10).reads.length z1), (.slice z2 (nfT 20 10).writes.length z3)], 75⟩] [] := S153
     refine do_ rfl (.int .i64 ((kn : Nat) : Int)) (ex_move _) ?_
     simp only [pS, pN, pA, pC, pZ]
     refine do_ rfl (.int .u8 ((kn : Nat) : Int)) (ex_convert (v := (.int .i64 ((kn : Nat) : Int))) rfl (conv_i8 kn (by omega) _)) ?_
     simp only [pS, pN, pA, pC, pZ]
     refine stNew S153 (v := fun n => .slice (some ⟨n, 0, none⟩) 1 1) rfl (ex_lit (ps := #[(0, (.int .u8 ((kn : Nat) : Int)))]) (cells := #[(.int .u8 ((kn : Nat) : Int))]) (E := 5) (bmap1 rfl) (fun w => by kernel_rfl)) (fun n154 w155 S156 => ?_)
     simp only [pS, pN, pA, pC, pZ]
     have S156 : St W (whole W) w155 F134 [⟨n154, [(.int .u8 ((kn : Nat) : Int))], 5⟩, ⟨n151, [(.int .u8 1)], 5⟩, ⟨n145, [(.int .i64 (nfT 20 10).start), (.slice xa139 (nfT 20 10).reads.length xc140), (.slice xa141 (nfT 20 10).writes.length xc142)], 75⟩, ⟨n3, [(.int .i64 (nfT 20 10).start), (.slice z0 (nfT 20 10).reads.length z1), (.slice z2 (nfT 20 10).writes.length z3)], 75⟩] [] := S156
     refine do_ rfl (.agg #[(.slice (some ⟨n151, 0, none⟩) 1 1), (.slice (some ⟨n154, 0, none⟩) 1 1), (.bool true), (.slice none 0 0)]) (ex_build (ps := #[(0, (.slice (some ⟨n151, 0, none⟩) 1 1)), (1, (.slice (some ⟨n154, 0, none⟩) 1 1)), (2, (.bool true))]) (bmap3 rfl rfl rfl) (by kernel_rfl)) ?_
     simp only [pS, pN, pA, pC, pZ]
     obtain ⟨S157, le158, hc159⟩ := St.freezeBlk S156 (i := 1) rfl
     have r161 : Bs _ (.slice (some ⟨n151, 0, none⟩) 1 1) ([1] : By) := bs_of_block (l := ([1] : By)) hc159 (rfl) (by unfold maxLen; simp)
     generalize addF F134 w155 n151 = F160 at *
     have S157 : St W (whole W) w155 F160 [⟨n154, [(.int .u8 ((kn : Nat) : Int))], 5⟩, ⟨n145, [(.int .i64 (nfT 20 10).start), (.slice xa139 (nfT 20 10).reads.length xc140), (.slice xa141 (nfT 20 10).writes.length xc142)], 75⟩, ⟨n3, [(.int .i64 (nfT 20 10).start), (.slice z0 (nfT 20 10).reads.length z1), (.slice z2 (nfT 20 10).writes.length z3)], 75⟩] [] := S157
     obtain ⟨S162, le163, hc164⟩ := St.freezeBlk S157 (i := 0) rfl
     have r166 : Bs _ (.slice (some ⟨n154, 0, none⟩) 1 1) ([b8 kn] : By) := bs_of_block (l := ([b8 kn] : By)) hc164 ((by simp only [List.map_cons, List.map_nil]; rw [bv_b8 (by omega)])) (by unfold maxLen; simp)
     generalize addF F160 w155 n154 = F165 at *
     have S162 : St W (whole W) w155 F165 [⟨n145, [(.int .i64 (nfT 20 10).start), (.slice xa139 (nfT 20 10).reads.length xc140), (.slice xa141 (nfT 20 10).writes.length xc142)], 75⟩, ⟨n3, [(.int .i64 (nfT 20 10).start), (.slice z0 (nfT 20 10).reads.length z1), (.slice z2 (nfT 20 10).writes.length z3)], 75⟩] [] := S162
     refine stGives S162 rfl (ex_fn (vs := #[(.agg #[(.int .i64 (nfT 20 10).start), (.slice z0 (nfT 20 10).reads.length z1), (.slice z2 (nfT 20 10).writes.length z3)]), (.agg #[(.slice (some ⟨n151, 0, none⟩) 1 1), (.slice (some ⟨n154, 0, none⟩) 1 1), (.bool true), (.slice none 0 0)])]) (map2 rfl rfl) rfl (ent_42 _ _)) (txnWriteIs_spec _ _ _ _ (nfT 20 10) (⟨([1] : By), [b8 kn], true, ([] : By)⟩ : Wr) U (S162).sat ⟨_, _, _, _, rfl, (pr.mono ((((le123.trans le128).trans le135).trans le158).trans le163)), (pw.mono ((((le123.trans le128).trans le135).trans le158).trans le163))⟩ ⟨_, _, _, _, _, _, rfl, (r161.mono le163), r166, (Bs.nil _)⟩ hnf (nfW_ok kn true) hU) ?_
     intro v172 w167 F169 S168 le170 R171
     obtain ⟨_, rfl, R173⟩ := R171
     obtain ⟨xa174, xc175, xa176, xc177, rfl, r178, r179⟩ := R173
     simp only [pS, pN, pA, pC, pZ]
     refine do_ rfl (.tuple #[(.agg #[(.int .i64 U.start), (.slice xa174 U.reads.length xc175), (.slice xa176 U.writes.length xc177)]), (.int .i64 0)]) (ex_move _) ?_
     simp only [pS, pN, pA, pC, pZ]
     refine do_ rfl (.agg #[(.int .i64 U.start), (.slice xa174 U.reads.length xc175), (.slice xa176 U.writes.length xc177)]) (ex_extract rfl rfl) ?_
     simp only [pS, pN, pA, pC, pZ]
     refine do_ rfl (.int .i64 0) (ex_extract rfl rfl) ?_
     simp only [pS, pN, pA, pC, pZ]
     refine stNew S168 (v := fun n => .pointer (some ⟨n, 0, none⟩)) rfl (ex_alloc (zero_75 _)) (fun n180 w181 S182 => ?_)
     simp only [pS, pN, pA, pC, pZ]
     have S182 : St W (whole W) w181 F169 [⟨n180, [(.int .i64 0), (.slice none 0 0), (.slice none 0 0)], 75⟩, ⟨n145, [(.int .i64 (nfT 20 10).start), (.slice xa139 (nfT 20 10).reads.length xc140), (.slice xa141 (nfT 20 10).writes.length xc142)], 75⟩, ⟨n3, [(.int .i64 (nfT 20 10).start), (.slice z0 (nfT 20 10).reads.length z1), (.slice z2 (nfT 20 10).writes.length z3)], 75⟩] [] := S182
     refine stStore (i := 0) (v := (.agg #[(.int .i64 U.start), (.slice xa174 U.reads.length xc175), (.slice xa176 U.writes.length xc177)])) S182 rfl rfl rfl rfl (size_75) (allc3 rfl rfl rfl) (Nat.le_of_ble_eq_true rfl) (fun w183 S184 => ?_)
     simp only [pS, pN, pA, pC, pZ]
     have S184 : St W (whole W) w183 F169 [⟨n180, [(.int .i64 U.start), (.slice xa174 U.reads.length xc175), (.slice xa176 U.writes.length xc177)], 75⟩, ⟨n145, [(.int .i64 (nfT 20 10).start), (.slice xa139 (nfT 20 10).reads.length xc140), (.slice xa141 (nfT 20 10).writes.length xc142)], 75⟩, ⟨n3, [(.int .i64 (nfT 20 10).start), (.slice z0 (nfT 20 10).reads.length z1), (.slice z2 (nfT 20 10).writes.length z3)], 75⟩] [] := S184
     refine do_ rfl (.int .i64 0) (ex_assign _) ?_
     simp only [pS, pN, pA, pC, pZ]
     refine wl_nil (hK150 _ _ ?_)
     refine wp_seq_k (fun K185 hK185 => region_wl ?_)
     refine do_ rfl (.int .i64 0) (ex_move _) ?_
     simp only [pS, pN, pA, pC, pZ]
     refine do_ rfl (.bool true) (ex_eql (b := true) rfl rfl (by decide)) ?_
     simp only [pS, pN, pA, pC, pZ]
     refine do_ rfl (.int .i64 ((kn : Nat) : Int)) (ex_move _) ?_
     simp only [pS, pN, pA, pC, pZ]
     refine do_ rfl (.bool true) (ex_lss (m := ((kn : Nat) : Int)) (n := (20 : Int)) (b := true) rfl rfl (decide_eq_true (by omega))) ?_
     simp only [pS, pN, pA, pC, pZ]
     refine do_ rfl (.bool true) (ex_eqlB Try.underlying4 rfl rfl (rfl)) ?_
     simp only [pS, pN, pA, pC, pZ]
     refine do_ rfl (.bool true) (ex_move _) ?_
     simp only [pS, pN, pA, pC, pZ]
     refine do_ rfl (.int .i64 0) (ex_move _) ?_
     simp only [pS, pN, pA, pC, pZ]
     refine do_ rfl (.bool true) (ex_eql (b := true) rfl rfl (by decide)) ?_
     simp only [pS, pN, pA, pC, pZ]
     refine do_ rfl (.int .i64 ((kn : Nat) : Int)) (ex_move _) ?_
     simp only [pS, pN, pA, pC, pZ]
     refine do_ rfl (.bool true) (ex_lss (m := ((kn : Nat) : Int)) (n := (10 : Int)) (b := true) rfl rfl (decide_eq_true (by omega))) ?_
     simp only [pS, pN, pA, pC, pZ]
     refine do_ rfl (.bool true) (ex_eqlB Try.underlying4 rfl rfl (rfl)) ?_
     simp only [pS, pN, pA, pC, pZ]
     refine do_ rfl (.bool true) (ex_pick (b := true) rfl) ?_
     simp only [pS, pN, pA, pC, pZ]
     refine do_ rfl (.bool true) (ex_move _) ?_
     simp only [pS, pN, pA, pC, pZ]
     refine do_ rfl (.int .i64 0) (ex_move _) ?_
     simp only [pS, pN, pA, pC, pZ]
     refine do_ rfl (.bool true) (ex_eql (b := true) rfl rfl (by decide)) ?_
     simp only [pS, pN, pA, pC, pZ]
     refine do_ rfl (.bool true) (ex_move _) ?_
     simp only [pS, pN, pA, pC, pZ]
     refine doN (wanted_no rfl rfl rfl (c := true) rfl (by decide)) ?_
     simp only [pS, pN, pA, pC, pZ]
     refine doN (wanted_no rfl rfl rfl (c := true) rfl (by decide)) ?_
     simp only [pS, pN, pA, pC, pZ]
     refine do_ rfl (.bool true) (ex_pick (b := true) rfl) ?_
     simp only [pS, pN, pA, pC, pZ]
     refine do_ rfl (.bool true) (ex_pick (b := true) rfl) ?_
     simp only [pS, pN, pA, pC, pZ]
     refine do_ rfl (.bool true) (ex_move _) ?_
     simp only [pS, pN, pA, pC, pZ]
     refine do_ rfl (.int .i64 0) (ex_move _) ?_
     simp only [pS, pN, pA, pC, pZ]
     refine do_ rfl (.bool true) (ex_eql (b := true) rfl rfl (by decide)) ?_
     simp only [pS, pN, pA, pC, pZ]
     refine do_ rfl (.bool true) (ex_move _) ?_
     simp only [pS, pN, pA, pC, pZ]
     refine doN (wanted_no rfl rfl rfl (c := true) rfl (by decide)) ?_
     simp only [pS, pN, pA, pC, pZ]
     refine doN (wanted_no rfl rfl rfl (c := true) rfl (by decide)) ?_
     simp only [pS, pN, pA, pC, pZ]
     refine do_ rfl (.bool true) (ex_pick (b := true) rfl) ?_
     simp only [pS, pN, pA, pC, pZ]
     refine do_ rfl (.bool true) (ex_pick (b := true) rfl) ?_
     simp only [pS, pN, pA, pC, pZ]
     refine do_ rfl (.bool true) (ex_assign _) ?_
     simp only [pS, pN, pA, pC, pZ]
     refine wl_nil (hK185 _ _ ?_)
     refine wp_ret ?_
     (try simp only [Exit.then, Exit.inBlock, ↓reduceIte, Nat.reduceEqDiff])
     refine bodyPost_ret (v := (.bool true)) ?_ rfl ?_
     ·exact res_t rfl rfl
     ·exact ⟨rfl, S184.gr.below⟩
    ·refine region_wl ?_
     refine do_ rfl (.agg #[(.int .i64 (nfT 20 10).start), (.slice z0 (nfT 20 10).reads.length z1), (.slice z2 (nfT 20 10).writes.length z3)]) (ex_load rfl (loadN (cs := [(.int .i64 (nfT 20 10).start), (.slice z0 (nfT 20 10).reads.length z1), (.slice z2 (nfT 20 10).writes.length z3)]) Try.underlying75 rfl (size_75) (St.range S149 (i := 1) rfl 0 [(.int .i64 (nfT 20 10).start), (.slice z0 (nfT 20 10).reads.length z1), (.slice z2 (nfT 20 10).writes.length z3)] (sub_range 0 rfl)))) ?_
     simp only [pS, pN, pA, pC, pZ]
     refine stNew S149 (v := fun n => .slice (some ⟨n, 0, none⟩) 1 1) rfl (ex_lit (ps := #[(0, (.int .u8 1))]) (cells := #[(.int .u8 1)]) (E := 5) (bmap1 rfl) (fun w => by kernel_rfl)) (fun n186 w187 S188 => ?_)
     simp only [pS, pN, pA, pC, pZ]
     have S188 : St W (whole W) w187 F134 [⟨n186, [(.int .u8 1)], 5⟩, ⟨n145, [(.int .i64 (nfT 20 10).start), (.slice xa139 (nfT 20 10).reads.length xc140), (.slice xa141 (nfT 20 10).writes.length xc142)], 75⟩, ⟨n3, [(.int .i64 (nfT 20 10).start), (.slice z0 (nfT 20 10).reads.length z1), (.slice z2 (nfT 20 10).writes.length z3)], 75⟩] [] := S188
     refine do_ rfl (.int .i64 ((kn : Nat) : Int)) (ex_move _) ?_
     simp only [pS, pN, pA, pC, pZ]
     refine do_ rfl (.int .u8 ((kn : Nat) : Int)) (ex_convert (v := (.int .i64 ((kn : Nat) : Int))) rfl (conv_i8 kn (by omega) _)) ?_
     simp only [pS, pN, pA, pC, pZ]
     refine stNew S188 (v := fun n => .slice (some ⟨n, 0, none⟩) 1 1) rfl (ex_lit (ps := #[(0, (.int .u8 ((kn : Nat) : Int)))]) (cells := #[(.int .u8 ((kn : Nat) : Int))]) (E := 5) (bmap1 rfl) (fun w => by kernel_rfl)) (fun n189 w190 S191 => ?_)
     simp only [pS, pN, pA, pC, pZ]
     have S191 : St W (whole W) w190 F134 [⟨n189, [(.int .u8 ((kn : Nat) : Int))], 5⟩, ⟨n186, [(.int .u8 1)], 5⟩, ⟨n145, [(.int .i64 (nfT 20 10).start), (.slice xa139 (nfT 20 10).reads.length xc140), (.slice xa141 (nfT 20 10).writes.length xc142)], 75⟩, ⟨n3, [(.int .i64 (nfT 20 10).start), (.slice z0 (nfT 20 10).reads.length z1), (.slice z2 (nfT 20 10).writes.length z3)], 75⟩] [] := S191
     refine do_ rfl (.agg #[(.slice (some ⟨n186, 0, none⟩) 1 1), (.slice (some ⟨n189, 0, none⟩) 1 1), (.bool true), (.slice none 0 0)]) (ex_build (ps := #[(0, (.slice (some ⟨n186, 0, none⟩) 1 1)), (1, (.slice (some ⟨n189, 0, none⟩) 1 1)), (2, (.bool true))]) (bmap3 rfl rfl rfl) (by kernel_rfl)) ?_
     simp only [pS, pN, pA, pC, pZ]
     obtain ⟨S192, le193, hc194⟩ := St.freezeBlk S191 (i := 1) rfl
     have r196 : Bs _ (.slice (some ⟨n186, 0, none⟩) 1 1) ([1] : By) := bs_of_block (l := ([1] : By)) hc194 (rfl) (by unfold maxLen; simp)
     generalize addF F134 w190 n186 = F195 at *
     have S192 : St W (whole W) w190 F195 [⟨n189, [(.int .u8 ((kn : Nat) : Int))], 5⟩, ⟨n145, [(.int .i64 (nfT 20 10).start), (.slice xa139 (nfT 20 10).reads.length xc140), (.slice xa141 (nfT 20 10).writes.length xc142)], 75⟩, ⟨n3, [(.int .i64 (nfT 20 10).start), (.slice z0 (nfT 20 10).reads.length z1), (.slice z2 (nfT 20 10).writes.length z3)], 75⟩] [] := S192
     obtain ⟨S197, le198, hc199⟩ := St.freezeBlk S192 (i := 0) rfl
     have r201 : Bs _ (.slice (some ⟨n189, 0, none⟩) 1 1) ([b8 kn] : By) := bs_of_block (l := ([b8 kn] : By)) hc199 ((by simp only [List.map_cons, List.map_nil]; rw [bv_b8 (by omega)])) (by unfold maxLen; simp)
     generalize addF F195 w190 n189 = F200 at *
     have S197 : St W (whole W) w190 F200 [⟨n145, [(.int .i64 (nfT 20 10).start), (.slice xa139 (nfT 20 10).reads.length xc140), (.slice xa141 (nfT 20 10).writes.length xc142)], 75⟩, ⟨n3, [(.int .i64 (nfT 20 10).start), (.slice z0 (nfT 20 10).reads.length z1), (.slice z2 (nfT 20 10).writes.length z3)], 75⟩] [] := S197
     refine stGives S197 rfl (ex_fn (vs := #[(.agg #[(.int .i64 (nfT 20 10).start), (.slice z0 (nfT 20 10).reads.length z1), (.slice z2 (nfT 20 10).writes.length z3)]), (.agg #[(.slice (some ⟨n186, 0, none⟩) 1 1), (.slice (some ⟨n189, 0, none⟩) 1 1), (.bool true), (.slice none 0 0)])]) (map2 rfl rfl) rfl (ent_42 _ _)) (txnWriteFull_spec _ _ _ _ (nfT 20 10) (⟨([1] : By), [b8 kn], true, ([] : By)⟩ : Wr) (S197).sat ⟨_, _, _, _, rfl, (pr.mono ((((le123.trans le128).trans le135).trans le193).trans le198)), (pw.mono ((((le123.trans le128).trans le135).trans le193).trans le198))⟩ ⟨_, _, _, _, _, _, rfl, (r196.mono le198), r201, (Bs.nil _)⟩ hnf (nfW_ok kn true) (nf_write_out hkb h10)) ?_
     intro v207 w202 F204 S203 le205 R206
     obtain ⟨_, rfl, R208⟩ := R206
     obtain ⟨xa209, xc210, xa211, xc212, rfl, r213, r214⟩ := R208
     simp only [pS, pN, pA, pC, pZ]
     refine do_ rfl (.tuple #[(.agg #[(.int .i64 nilX.start), (.slice xa209 nilX.reads.length xc210), (.slice xa211 nilX.writes.length xc212)]), (.int .i64 11)]) (ex_move _) ?_
     simp only [pS, pN, pA, pC, pZ]
     refine do_ rfl (.agg #[(.int .i64 nilX.start), (.slice xa209 nilX.reads.length xc210), (.slice xa211 nilX.writes.length xc212)]) (ex_extract rfl rfl) ?_
     simp only [pS, pN, pA, pC, pZ]
     refine do_ rfl (.int .i64 11) (ex_extract rfl rfl) ?_
     simp only [pS, pN, pA, pC, pZ]
     refine stNew S203 (v := fun n => .pointer (some ⟨n, 0, none⟩)) rfl (ex_alloc (zero_75 _)) (fun n215 w216 S217 => ?_)
     simp only [pS, pN, pA, pC, pZ]
     have S217 : St W (whole W) w216 F204 [⟨n215, [(.int .i64 0), (.slice none 0 0), (.slice none 0 0)], 75⟩, ⟨n145, [(.int .i64 (nfT 20 10).start), (.slice xa139 (nfT 20 10).reads.length xc140), (.slice xa141 (nfT 20 10).writes.length xc142)], 75⟩, ⟨n3, [(.int .i64 (nfT 20 10).start), (.slice z0 (nfT 20 10).reads.length z1), (.slice z2 (nfT 20 10).writes.length z3)], 75⟩] [] := S217
     refine stStore (i := 0) (v := (.agg #[(.int .i64 nilX.start), (.slice xa209 nilX.reads.length xc210), (.slice xa211 nilX.writes.length xc212)])) S217 rfl rfl rfl rfl (size_75) (allc3 rfl rfl rfl) (Nat.le_of_ble_eq_true rfl) (fun w218 S219 => ?_)
     simp only [pS, pN, pA, pC, pZ]
     have S219 : St W (whole W) w218 F204 [⟨n215, [(.int .i64 nilX.start), (.slice xa209 nilX.reads.length xc210), (.slice xa211 nilX.writes.length xc212)], 75⟩, ⟨n145, [(.int .i64 (nfT 20 10).start), (.slice xa139 (nfT 20 10).reads.length xc140), (.slice xa141 (nfT 20 10).writes.length xc142)], 75⟩, ⟨n3, [(.int .i64 (nfT 20 10).start), (.slice z0 (nfT 20 10).reads.length z1), (.slice z2 (nfT 20 10).writes.length z3)], 75⟩] [] := S219
     refine do_ rfl (.int .i64 11) (ex_assign _) ?_
     simp only [pS, pN, pA, pC, pZ]
     refine wl_nil (hK150 _ _ ?_)
     refine wp_seq_k (fun K220 hK220 => region_wl ?_)
     refine do_ rfl (.int .i64 0) (ex_move _) ?_
     simp only [pS, pN, pA, pC, pZ]
     refine do_ rfl (.bool true) (ex_eql (b := true) rfl rfl (by decide)) ?_
     simp only [pS, pN, pA, pC, pZ]
     refine do_ rfl (.int .i64 ((kn : Nat) : Int)) (ex_move _) ?_
     simp only [pS, pN, pA, pC, pZ]
     refine do_ rfl (.bool true) (ex_lss (m := ((kn : Nat) : Int)) (n := (20 : Int)) (b := true) rfl rfl (decide_eq_true (by omega))) ?_
     simp only [pS, pN, pA, pC, pZ]
     refine do_ rfl (.bool true) (ex_eqlB Try.underlying4 rfl rfl (rfl)) ?_
     simp only [pS, pN, pA, pC, pZ]
     refine do_ rfl (.bool true) (ex_move _) ?_
     simp only [pS, pN, pA, pC, pZ]
     refine do_ rfl (.int .i64 11) (ex_move _) ?_
     simp only [pS, pN, pA, pC, pZ]
     refine do_ rfl (.bool false) (ex_eql (b := false) rfl rfl (by decide)) ?_
     simp only [pS, pN, pA, pC, pZ]
     refine do_ rfl (.int .i64 ((kn : Nat) : Int)) (ex_move _) ?_
     simp only [pS, pN, pA, pC, pZ]
     refine do_ rfl (.bool false) (ex_lss (m := ((kn : Nat) : Int)) (n := (10 : Int)) (b := false) rfl rfl (decide_eq_false (by omega))) ?_
     simp only [pS, pN, pA, pC, pZ]
     refine do_ rfl (.bool true) (ex_eqlB Try.underlying4 rfl rfl (rfl)) ?_
     simp only [pS, pN, pA, pC, pZ]
     refine do_ rfl (.bool true) (ex_pick (b := true) rfl) ?_
     simp only [pS, pN, pA, pC, pZ]
     refine do_ rfl (.bool true) (ex_move _) ?_
     simp only [pS, pN, pA, pC, pZ]
     refine do_ rfl (.int .i64 0) (ex_move _) ?_
     simp only [pS, pN, pA, pC, pZ]
     refine do_ rfl (.bool true) (ex_eql (b := true) rfl rfl (by decide)) ?_
     simp only [pS, pN, pA, pC, pZ]
     refine do_ rfl (.bool true) (ex_move _) ?_
     simp only [pS, pN, pA, pC, pZ]
     refine doN (wanted_no rfl rfl rfl (c := true) rfl (by decide)) ?_
     simp only [pS, pN, pA, pC, pZ]
     refine doN (wanted_no rfl rfl rfl (c := true) rfl (by decide)) ?_
     simp only [pS, pN, pA, pC, pZ]
     refine do_ rfl (.bool true) (ex_pick (b := true) rfl) ?_
     simp only [pS, pN, pA, pC, pZ]
     refine do_ rfl (.bool true) (ex_pick (b := true) rfl) ?_
     simp only [pS, pN, pA, pC, pZ]
     refine do_ rfl (.bool true) (ex_move _) ?_
     simp only [pS, pN, pA, pC, pZ]
     refine do_ rfl (.int .i64 11) (ex_move _) ?_
     simp only [pS, pN, pA, pC, pZ]
     refine do_ rfl (.bool false) (ex_eql (b := false) rfl rfl (by decide)) ?_
     simp only [pS, pN, pA, pC, pZ]
     refine do_ rfl (.bool false) (ex_move _) ?_
     simp only [pS, pN, pA, pC, pZ]
     refine do_ rfl (.int .i64 11) (ex_move _) ?_
     simp only [pS, pN, pA, pC, pZ]
     refine do_ rfl (.bool true) (ex_eql (b := true) rfl rfl (by decide)) ?_
     simp only [pS, pN, pA, pC, pZ]
     refine do_ rfl (.bool true) (ex_pick (b := false) rfl) ?_
     simp only [pS, pN, pA, pC, pZ]
     refine do_ rfl (.bool true) (ex_pick (b := true) rfl) ?_
     simp only [pS, pN, pA, pC, pZ]
     refine do_ rfl (.bool true) (ex_assign _) ?_
     simp only [pS, pN, pA, pC, pZ]
     refine wl_nil (hK220 _ _ ?_)
     refine wp_ret ?_
     (try simp only [Exit.then, Exit.inBlock, ↓reduceIte, Nat.reduceEqDiff])
     refine bodyPost_ret (v := (.bool true)) ?_ rfl ?_
     ·exact res_t rfl rfl
     ·exact ⟨rfl, S219.gr.below⟩
   ·refine region_wl ?_
    refine do_ rfl (.agg #[(.int .i64 (nfT 20 10).start), (.slice z0 (nfT 20 10).reads.length z1), (.slice z2 (nfT 20 10).writes.length z3)]) (ex_load rfl (loadN (cs := [(.int .i64 (nfT 20 10).start), (.slice z0 (nfT 20 10).reads.length z1), (.slice z2 (nfT 20 10).writes.length z3)]) Try.underlying75 rfl (size_75) (St.range S114 (i := 0) rfl 0 [(.int .i64 (nfT 20 10).start), (.slice z0 (nfT 20 10).reads.length z1), (.slice z2 (nfT 20 10).writes.length z3)] (sub_range 0 rfl)))) ?_
    simp only [pS, pN, pA, pC, pZ]
    refine stNew S114 (v := fun n => .slice (some ⟨n, 0, none⟩) 1 1) rfl (ex_lit (ps := #[(0, (.int .u8 1))]) (cells := #[(.int .u8 1)]) (E := 5) (bmap1 rfl) (fun w => by kernel_rfl)) (fun n221 w222 S223 => ?_)
    simp only [pS, pN, pA, pC, pZ]
    have S223 : St W (whole W) w222 F61 [⟨n221, [(.int .u8 1)], 5⟩, ⟨n3, [(.int .i64 (nfT 20 10).start), (.slice z0 (nfT 20 10).reads.length z1), (.slice z2 (nfT 20 10).writes.length z3)], 75⟩] [] := S223
    refine do_ rfl (.int .i64 ((kn : Nat) : Int)) (ex_move _) ?_
    simp only [pS, pN, pA, pC, pZ]
    refine do_ rfl (.int .u8 ((kn : Nat) : Int)) (ex_convert (v := (.int .i64 ((kn : Nat) : Int))) rfl (conv_i8 kn (by omega) _)) ?_
    simp only [pS, pN, pA, pC, pZ]
    refine stNew S223 (v := fun n => .slice (some ⟨n, 0, none⟩) 1 1) rfl (ex_lit (ps := #[(0, (.int .u8 ((kn : Nat) : Int)))]) (cells := #[(.int .u8 ((kn : Nat) : Int))]) (E := 5) (bmap1 rfl) (fun w => by kernel_rfl)) (fun n224 w225 S226 => ?_)
    simp only [pS, pN, pA, pC, pZ]
    have S226 : St W (whole W) w225 F61 [⟨n224, [(.int .u8 ((kn : Nat) : Int))], 5⟩, ⟨n221, [(.int .u8 1)], 5⟩, ⟨n3, [(.int .i64 (nfT 20 10).start), (.slice z0 (nfT 20 10).reads.length z1), (.slice z2 (nfT 20 10).writes.length z3)], 75⟩] [] := S226
    refine do_ rfl (.agg #[(.slice (some ⟨n221, 0, none⟩) 1 1), (.slice (some ⟨n224, 0, none⟩) 1 1), (.bool false), (.slice none 0 0)]) (ex_build (ps := #[(0, (.slice (some ⟨n221, 0, none⟩) 1 1)), (1, (.slice (some ⟨n224, 0, none⟩) 1 1))]) (bmap2 rfl rfl) (by kernel_rfl)) ?_
    simp only [pS, pN, pA, pC, pZ]
    obtain ⟨S227, le228, hc229⟩ := St.freezeBlk S226 (i := 1) rfl
    have r231 : Bs _ (.slice (some ⟨n221, 0, none⟩) 1 1) ([1] : By) := bs_of_block (l := ([1] : By)) hc229 (rfl) (by unfold maxLen; simp)
    generalize addF F61 w225 n221 = F230 at *
    have S227 : St W (whole W) w225 F230 [⟨n224, [(.int .u8 ((kn : Nat) : Int))], 5⟩, ⟨n3, [(.int .i64 (nfT 20 10).start), (.slice z0 (nfT 20 10).reads.length z1), (.slice z2 (nfT 20 10).writes.length z3)], 75⟩] [] := S227
    obtain ⟨S232, le233, hc234⟩ := St.freezeBlk S227 (i := 0) rfl
    have r236 : Bs _ (.slice (some ⟨n224, 0, none⟩) 1 1) ([b8 kn] : By) := bs_of_block (l := ([b8 kn] : By)) hc234 ((by simp only [List.map_cons, List.map_nil]; rw [bv_b8 (by omega)])) (by unfold maxLen; simp)
    generalize addF F230 w225 n224 = F235 at *
    have S232 : St W (whole W) w225 F235 [⟨n3, [(.int .i64 (nfT 20 10).start), (.slice z0 (nfT 20 10).reads.length z1), (.slice z2 (nfT 20 10).writes.length z3)], 75⟩] [] := S232
    refine stGives S232 rfl (ex_fn (vs := #[(.agg #[(.int .i64 (nfT 20 10).start), (.slice z0 (nfT 20 10).reads.length z1), (.slice z2 (nfT 20 10).writes.length z3)]), (.agg #[(.slice (some ⟨n221, 0, none⟩) 1 1), (.slice (some ⟨n224, 0, none⟩) 1 1), (.bool false), (.slice none 0 0)])]) (map2 rfl rfl) rfl (ent_46 _ _)) (txnNoteFull_spec _ _ _ _ (nfT 20 10) (⟨([1] : By), [b8 kn], false, ([] : By)⟩ : Rd) (S232).sat ⟨_, _, _, _, rfl, (pr.mono (le228.trans le233)), (pw.mono (le228.trans le233))⟩ ⟨_, _, _, _, _, _, rfl, (r231.mono le233), r236, (Bs.nil _)⟩ hnf (nfR_ok kn) (nf_note_out hkb h20)) ?_
    intro v242 w237 F239 S238 le240 R241
    obtain ⟨_, rfl, R243⟩ := R241
    obtain ⟨xa244, xc245, xa246, xc247, rfl, r248, r249⟩ := R243
    simp only [pS, pN, pA, pC, pZ]
    refine do_ rfl (.tuple #[(.agg #[(.int .i64 nilX.start), (.slice xa244 nilX.reads.length xc245), (.slice xa246 nilX.writes.length xc247)]), (.int .i64 11)]) (ex_move _) ?_
    simp only [pS, pN, pA, pC, pZ]
    refine do_ rfl (.agg #[(.int .i64 nilX.start), (.slice xa244 nilX.reads.length xc245), (.slice xa246 nilX.writes.length xc247)]) (ex_extract rfl rfl) ?_
    simp only [pS, pN, pA, pC, pZ]
    refine do_ rfl (.int .i64 11) (ex_extract rfl rfl) ?_
    simp only [pS, pN, pA, pC, pZ]
    refine stNew S238 (v := fun n => .pointer (some ⟨n, 0, none⟩)) rfl (ex_alloc (zero_75 _)) (fun n250 w251 S252 => ?_)
    simp only [pS, pN, pA, pC, pZ]
    have S252 : St W (whole W) w251 F239 [⟨n250, [(.int .i64 0), (.slice none 0 0), (.slice none 0 0)], 75⟩, ⟨n3, [(.int .i64 (nfT 20 10).start), (.slice z0 (nfT 20 10).reads.length z1), (.slice z2 (nfT 20 10).writes.length z3)], 75⟩] [] := S252
    refine stStore (i := 0) (v := (.agg #[(.int .i64 nilX.start), (.slice xa244 nilX.reads.length xc245), (.slice xa246 nilX.writes.length xc247)])) S252 rfl rfl rfl rfl (size_75) (allc3 rfl rfl rfl) (Nat.le_of_ble_eq_true rfl) (fun w253 S254 => ?_)
    simp only [pS, pN, pA, pC, pZ]
    have S254 : St W (whole W) w253 F239 [⟨n250, [(.int .i64 nilX.start), (.slice xa244 nilX.reads.length xc245), (.slice xa246 nilX.writes.length xc247)], 75⟩, ⟨n3, [(.int .i64 (nfT 20 10).start), (.slice z0 (nfT 20 10).reads.length z1), (.slice z2 (nfT 20 10).writes.length z3)], 75⟩] [] := S254
    refine do_ rfl (.int .i64 11) (ex_assign _) ?_
    simp only [pS, pN, pA, pC, pZ]
    refine wl_nil (hK115 _ _ ?_)
    refine wp_seq_k (fun K255 hK255 => ?_)
    by_cases h10 : kn < 10
    ·obtain ⟨U, hU⟩ := nf_write_in h10
     refine region_wl ?_
     refine do_ rfl (.agg #[(.int .i64 (nfT 20 10).start), (.slice z0 (nfT 20 10).reads.length z1), (.slice z2 (nfT 20 10).writes.length z3)]) (ex_load rfl (loadN (cs := [(.int .i64 (nfT 20 10).start), (.slice z0 (nfT 20 10).reads.length z1), (.slice z2 (nfT 20 10).writes.length z3)]) Try.underlying75 rfl (size_75) (St.range S254 (i := 1) rfl 0 [(.int .i64 (nfT 20 10).start), (.slice z0 (nfT 20 10).reads.length z1), (.slice z2 (nfT 20 10).writes.length z3)] (sub_range 0 rfl)))) ?_
     simp only [pS, pN, pA, pC, pZ]
     refine stNew S254 (v := fun n => .slice (some ⟨n, 0, none⟩) 1 1) rfl (ex_lit (ps := #[(0, (.int .u8 1))]) (cells := #[(.int .u8 1)]) (E := 5) (bmap1 rfl) (fun w => by kernel_rfl)) (fun n256 w257 S258 => ?_)
     simp only [pS, pN, pA, pC, pZ]
     have S258 : St W (whole W) w257 F239 [⟨n256, [(.int .u8 1)], 5⟩, ⟨n250, [(.int .i64 nilX.start), (.slice xa244 nilX.reads.length xc245), (.slice xa246 nilX.writes.length xc247)], 75⟩, ⟨n3, [(.int .i64 (nfT 20 10).start), (.slice z0 (nfT 20 10).reads.length z1), (.slice z2 (nfT 20 10).writes.length z3)], 75⟩] [] := S258
     refine do_ rfl (.int .i64 ((kn : Nat) : Int)) (ex_move _) ?_
     simp only [pS, pN, pA, pC, pZ]
     refine do_ rfl (.int .u8 ((kn : Nat) : Int)) (ex_convert (v := (.int .i64 ((kn : Nat) : Int))) rfl (conv_i8 kn (by omega) _)) ?_
     simp only [pS, pN, pA, pC, pZ]
     refine stNew S258 (v := fun n => .slice (some ⟨n, 0, none⟩) 1 1) rfl (ex_lit (ps := #[(0, (.int .u8 ((kn : Nat) : Int)))]) (cells := #[(.int .u8 ((kn : Nat) : Int))]) (E := 5) (bmap1 rfl) (fun w => by kernel_rfl)) (fun n259 w260 S261 => ?_)
     simp only [pS, pN, pA, pC, pZ]
     have S261 : St W (whole W) w260 F239 [⟨n259, [(.int .u8 ((kn : Nat) : Int))], 5⟩, ⟨n256, [(.int .u8 1)], 5⟩, ⟨n250, [(.int .i64 nilX.start), (.slice xa244 nilX.reads.length xc245), (.slice xa246 nilX.writes.length xc247)], 75⟩, ⟨n3, [(.int .i64 (nfT 20 10).start), (.slice z0 (nfT 20 10).reads.length z1), (.slice z2 (nfT 20 10).writes.length z3)], 75⟩] [] := S261
     refine do_ rfl (.agg #[(.slice (some ⟨n256, 0, none⟩) 1 1), (.slice (some ⟨n259, 0, none⟩) 1 1), (.bool true), (.slice none 0 0)]) (ex_build (ps := #[(0, (.slice (some ⟨n256, 0, none⟩) 1 1)), (1, (.slice (some ⟨n259, 0, none⟩) 1 1)), (2, (.bool true))]) (bmap3 rfl rfl rfl) (by kernel_rfl)) ?_
     simp only [pS, pN, pA, pC, pZ]
     obtain ⟨S262, le263, hc264⟩ := St.freezeBlk S261 (i := 1) rfl
     have r266 : Bs _ (.slice (some ⟨n256, 0, none⟩) 1 1) ([1] : By) := bs_of_block (l := ([1] : By)) hc264 (rfl) (by unfold maxLen; simp)
     generalize addF F239 w260 n256 = F265 at *
     have S262 : St W (whole W) w260 F265 [⟨n259, [(.int .u8 ((kn : Nat) : Int))], 5⟩, ⟨n250, [(.int .i64 nilX.start), (.slice xa244 nilX.reads.length xc245), (.slice xa246 nilX.writes.length xc247)], 75⟩, ⟨n3, [(.int .i64 (nfT 20 10).start), (.slice z0 (nfT 20 10).reads.length z1), (.slice z2 (nfT 20 10).writes.length z3)], 75⟩] [] := S262
     obtain ⟨S267, le268, hc269⟩ := St.freezeBlk S262 (i := 0) rfl
     have r271 : Bs _ (.slice (some ⟨n259, 0, none⟩) 1 1) ([b8 kn] : By) := bs_of_block (l := ([b8 kn] : By)) hc269 ((by simp only [List.map_cons, List.map_nil]; rw [bv_b8 (by omega)])) (by unfold maxLen; simp)
     generalize addF F265 w260 n259 = F270 at *
     have S267 : St W (whole W) w260 F270 [⟨n250, [(.int .i64 nilX.start), (.slice xa244 nilX.reads.length xc245), (.slice xa246 nilX.writes.length xc247)], 75⟩, ⟨n3, [(.int .i64 (nfT 20 10).start), (.slice z0 (nfT 20 10).reads.length z1), (.slice z2 (nfT 20 10).writes.length z3)], 75⟩] [] := S267
     refine stGives S267 rfl (ex_fn (vs := #[(.agg #[(.int .i64 (nfT 20 10).start), (.slice z0 (nfT 20 10).reads.length z1), (.slice z2 (nfT 20 10).writes.length z3)]), (.agg #[(.slice (some ⟨n256, 0, none⟩) 1 1), (.slice (some ⟨n259, 0, none⟩) 1 1), (.bool true), (.slice none 0 0)])]) (map2 rfl rfl) rfl (ent_42 _ _)) (txnWriteIs_spec _ _ _ _ (nfT 20 10) (⟨([1] : By), [b8 kn], true, ([] : By)⟩ : Wr) U (S267).sat ⟨_, _, _, _, rfl, (pr.mono ((((le228.trans le233).trans le240).trans le263).trans le268)), (pw.mono ((((le228.trans le233).trans le240).trans le263).trans le268))⟩ ⟨_, _, _, _, _, _, rfl, (r266.mono le268), r271, (Bs.nil _)⟩ hnf (nfW_ok kn true) hU) ?_
     intro v277 w272 F274 S273 le275 R276
     obtain ⟨_, rfl, R278⟩ := R276
     obtain ⟨xa279, xc280, xa281, xc282, rfl, r283, r284⟩ := R278
     simp only [pS, pN, pA, pC, pZ]
     refine do_ rfl (.tuple #[(.agg #[(.int .i64 U.start), (.slice xa279 U.reads.length xc280), (.slice xa281 U.writes.length xc282)]), (.int .i64 0)]) (ex_move _) ?_
     simp only [pS, pN, pA, pC, pZ]
     refine do_ rfl (.agg #[(.int .i64 U.start), (.slice xa279 U.reads.length xc280), (.slice xa281 U.writes.length xc282)]) (ex_extract rfl rfl) ?_
     simp only [pS, pN, pA, pC, pZ]
     refine do_ rfl (.int .i64 0) (ex_extract rfl rfl) ?_
     simp only [pS, pN, pA, pC, pZ]
     refine stNew S273 (v := fun n => .pointer (some ⟨n, 0, none⟩)) rfl (ex_alloc (zero_75 _)) (fun n285 w286 S287 => ?_)
     simp only [pS, pN, pA, pC, pZ]
     have S287 : St W (whole W) w286 F274 [⟨n285, [(.int .i64 0), (.slice none 0 0), (.slice none 0 0)], 75⟩, ⟨n250, [(.int .i64 nilX.start), (.slice xa244 nilX.reads.length xc245), (.slice xa246 nilX.writes.length xc247)], 75⟩, ⟨n3, [(.int .i64 (nfT 20 10).start), (.slice z0 (nfT 20 10).reads.length z1), (.slice z2 (nfT 20 10).writes.length z3)], 75⟩] [] := S287
     refine stStore (i := 0) (v := (.agg #[(.int .i64 U.start), (.slice xa279 U.reads.length xc280), (.slice xa281 U.writes.length xc282)])) S287 rfl rfl rfl rfl (size_75) (allc3 rfl rfl rfl) (Nat.le_of_ble_eq_true rfl) (fun w288 S289 => ?_)
     simp only [pS, pN, pA, pC, pZ]
     have S289 : St W (whole W) w288 F274 [⟨n285, [(.int .i64 U.start), (.slice xa279 U.reads.length xc280), (.slice xa281 U.writes.length xc282)], 75⟩, ⟨n250, [(.int .i64 nilX.start), (.slice xa244 nilX.reads.length xc245), (.slice xa246 nilX.writes.length xc247)], 75⟩, ⟨n3, [(.int .i64 (nfT 20 10).start), (.slice z0 (nfT 20 10).reads.length z1), (.slice z2 (nfT 20 10).writes.length z3)], 75⟩] [] := S289
     refine do_ rfl (.int .i64 0) (ex_assign _) ?_
     simp only [pS, pN, pA, pC, pZ]
     refine wl_nil (hK255 _ _ ?_)
     refine wp_seq_k (fun K290 hK290 => region_wl ?_)
     refine do_ rfl (.int .i64 11) (ex_move _) ?_
     simp only [pS, pN, pA, pC, pZ]
     refine do_ rfl (.bool false) (ex_eql (b := false) rfl rfl (by decide)) ?_
     simp only [pS, pN, pA, pC, pZ]
     refine do_ rfl (.int .i64 ((kn : Nat) : Int)) (ex_move _) ?_
     simp only [pS, pN, pA, pC, pZ]
     refine do_ rfl (.bool false) (ex_lss (m := ((kn : Nat) : Int)) (n := (20 : Int)) (b := false) rfl rfl (decide_eq_false (by omega))) ?_
     simp only [pS, pN, pA, pC, pZ]
     refine do_ rfl (.bool true) (ex_eqlB Try.underlying4 rfl rfl (rfl)) ?_
     simp only [pS, pN, pA, pC, pZ]
     refine do_ rfl (.bool true) (ex_move _) ?_
     simp only [pS, pN, pA, pC, pZ]
     refine do_ rfl (.int .i64 0) (ex_move _) ?_
     simp only [pS, pN, pA, pC, pZ]
     refine do_ rfl (.bool true) (ex_eql (b := true) rfl rfl (by decide)) ?_
     simp only [pS, pN, pA, pC, pZ]
     refine do_ rfl (.int .i64 ((kn : Nat) : Int)) (ex_move _) ?_
     simp only [pS, pN, pA, pC, pZ]
     refine do_ rfl (.bool true) (ex_lss (m := ((kn : Nat) : Int)) (n := (10 : Int)) (b := true) rfl rfl (decide_eq_true (by omega))) ?_
     simp only [pS, pN, pA, pC, pZ]
     refine do_ rfl (.bool true) (ex_eqlB Try.underlying4 rfl rfl (rfl)) ?_
     simp only [pS, pN, pA, pC, pZ]
     refine do_ rfl (.bool true) (ex_pick (b := true) rfl) ?_
     simp only [pS, pN, pA, pC, pZ]
     refine do_ rfl (.bool true) (ex_move _) ?_
     simp only [pS, pN, pA, pC, pZ]
     refine do_ rfl (.int .i64 11) (ex_move _) ?_
     simp only [pS, pN, pA, pC, pZ]
     refine do_ rfl (.bool false) (ex_eql (b := false) rfl rfl (by decide)) ?_
     simp only [pS, pN, pA, pC, pZ]
     refine do_ rfl (.bool false) (ex_move _) ?_
     simp only [pS, pN, pA, pC, pZ]
     refine do_ rfl (.int .i64 11) (ex_move _) ?_
     simp only [pS, pN, pA, pC, pZ]
     refine do_ rfl (.bool true) (ex_eql (b := true) rfl rfl (by decide)) ?_
     simp only [pS, pN, pA, pC, pZ]
     refine do_ rfl (.bool true) (ex_pick (b := false) rfl) ?_
     simp only [pS, pN, pA, pC, pZ]
     refine do_ rfl (.bool true) (ex_pick (b := true) rfl) ?_
     simp only [pS, pN, pA, pC, pZ]
     refine do_ rfl (.bool true) (ex_move _) ?_
     simp only [pS, pN, pA, pC, pZ]
     refine do_ rfl (.int .i64 0) (ex_move _) ?_
     simp only [pS, pN, pA, pC, pZ]
     refine do_ rfl (.bool true) (ex_eql (b := true) rfl rfl (by decide)) ?_
     simp only [pS, pN, pA, pC, pZ]
     refine do_ rfl (.bool true) (ex_move _) ?_
     simp only [pS, pN, pA, pC, pZ]
     refine doN (wanted_no rfl rfl rfl (c := true) rfl (by decide)) ?_
     simp only [pS, pN, pA, pC, pZ]
     refine doN (wanted_no rfl rfl rfl (c := true) rfl (by decide)) ?_
     simp only [pS, pN, pA, pC, pZ]
     refine do_ rfl (.bool true) (ex_pick (b := true) rfl) ?_
     simp only [pS, pN, pA, pC, pZ]
     refine do_ rfl (.bool true) (ex_pick (b := true) rfl) ?_
     simp only [pS, pN, pA, pC, pZ]
     refine do_ rfl (.bool true) (ex_assign _) ?_
     simp only [pS, pN, pA, pC, pZ]
     refine wl_nil (hK290 _ _ ?_)
     refine wp_ret ?_
     (try simp only [Exit.then, Exit.inBlock, ↓reduceIte, Nat.reduceEqDiff])
     refine bodyPost_ret (v := (.bool true)) ?_ rfl ?_
     ·exact res_t rfl rfl
     ·exact ⟨rfl, S289.gr.below⟩
    ·refine region_wl ?_
     refine do_ rfl (.agg #[(.int .i64 (nfT 20 10).start), (.slice z0 (nfT 20 10).reads.length z1), (.slice z2 (nfT 20 10).writes.length z3)]) (ex_load rfl (loadN (cs := [(.int .i64 (nfT 20 10).start), (.slice z0 (nfT 20 10).reads.length z1), (.slice z2 (nfT 20 10).writes.length z3)]) Try.underlying75 rfl (size_75) (St.range S254 (i := 1) rfl 0 [(.int .i64 (nfT 20 10).start), (.slice z0 (nfT 20 10).reads.length z1), (.slice z2 (nfT 20 10).writes.length z3)] (sub_range 0 rfl)))) ?_
     simp only [pS, pN, pA, pC, pZ]
     refine stNew S254 (v := fun n => .slice (some ⟨n, 0, none⟩) 1 1) rfl (ex_lit (ps := #[(0, (.int .u8 1))]) (cells := #[(.int .u8 1)]) (E := 5) (bmap1 rfl) (fun w => by kernel_rfl)) (fun n291 w292 S293 => ?_)
     simp only [pS, pN, pA, pC, pZ]
     have S293 : St W (whole W) w292 F239 [⟨n291, [(.int .u8 1)], 5⟩, ⟨n250, [(.int .i64 nilX.start), (.slice xa244 nilX.reads.length xc245), (.slice xa246 nilX.writes.length xc247)], 75⟩, ⟨n3, [(.int .i64 (nfT 20 10).start), (.slice z0 (nfT 20 10).reads.length z1), (.slice z2 (nfT 20 10).writes.length z3)], 75⟩] [] := S293
     refine do_ rfl (.int .i64 ((kn : Nat) : Int)) (ex_move _) ?_
     simp only [pS, pN, pA, pC, pZ]
     refine do_ rfl (.int .u8 ((kn : Nat) : Int)) (ex_convert (v := (.int .i64 ((kn : Nat) : Int))) rfl (conv_i8 kn (by omega) _)) ?_
     simp only [pS, pN, pA, pC, pZ]
     refine stNew S293 (v := fun n => .slice (some ⟨n, 0, none⟩) 1 1) rfl (ex_lit (ps := #[(0, (.int .u8 ((kn : Nat) : Int)))]) (cells := #[(.int .u8 ((kn : Nat) : Int))]) (E := 5) (bmap1 rfl) (fun w => by kernel_rfl)) (fun n294 w295 S296 => ?_)
     simp only [pS, pN, pA, pC, pZ]
     have S296 : St W (whole W) w295 F239 [⟨n294, [(.int .u8 ((kn : Nat) : Int))], 5⟩, ⟨n291, [(.int .u8 1)], 5⟩, ⟨n250, [(.int .i64 nilX.start), (.slice xa244 nilX.reads.length xc245), (.slice xa246 nilX.writes.length xc247)], 75⟩, ⟨n3, [(.int .i64 (nfT 20 10).start), (.slice z0 (nfT 20 10).reads.length z1), (.slice z2 (nfT 20 10).writes.length z3)], 75⟩] [] := S296
     refine do_ rfl (.agg #[(.slice (some ⟨n291, 0, none⟩) 1 1), (.slice (some ⟨n294, 0, none⟩) 1 1), (.bool true), (.slice none 0 0)]) (ex_build (ps := #[(0, (.slice (some ⟨n291, 0, none⟩) 1 1)), (1, (.slice (some ⟨n294, 0, none⟩) 1 1)), (2, (.bool true))]) (bmap3 rfl rfl rfl) (by kernel_rfl)) ?_
     simp only [pS, pN, pA, pC, pZ]
     obtain ⟨S297, le298, hc299⟩ := St.freezeBlk S296 (i := 1) rfl
     have r301 : Bs _ (.slice (some ⟨n291, 0, none⟩) 1 1) ([1] : By) := bs_of_block (l := ([1] : By)) hc299 (rfl) (by unfold maxLen; simp)
     generalize addF F239 w295 n291 = F300 at *
     have S297 : St W (whole W) w295 F300 [⟨n294, [(.int .u8 ((kn : Nat) : Int))], 5⟩, ⟨n250, [(.int .i64 nilX.start), (.slice xa244 nilX.reads.length xc245), (.slice xa246 nilX.writes.length xc247)], 75⟩, ⟨n3, [(.int .i64 (nfT 20 10).start), (.slice z0 (nfT 20 10).reads.length z1), (.slice z2 (nfT 20 10).writes.length z3)], 75⟩] [] := S297
     obtain ⟨S302, le303, hc304⟩ := St.freezeBlk S297 (i := 0) rfl
     have r306 : Bs _ (.slice (some ⟨n294, 0, none⟩) 1 1) ([b8 kn] : By) := bs_of_block (l := ([b8 kn] : By)) hc304 ((by simp only [List.map_cons, List.map_nil]; rw [bv_b8 (by omega)])) (by unfold maxLen; simp)
     generalize addF F300 w295 n294 = F305 at *
     have S302 : St W (whole W) w295 F305 [⟨n250, [(.int .i64 nilX.start), (.slice xa244 nilX.reads.length xc245), (.slice xa246 nilX.writes.length xc247)], 75⟩, ⟨n3, [(.int .i64 (nfT 20 10).start), (.slice z0 (nfT 20 10).reads.length z1), (.slice z2 (nfT 20 10).writes.length z3)], 75⟩] [] := S302
     refine stGives S302 rfl (ex_fn (vs := #[(.agg #[(.int .i64 (nfT 20 10).start), (.slice z0 (nfT 20 10).reads.length z1), (.slice z2 (nfT 20 10).writes.length z3)]), (.agg #[(.slice (some ⟨n291, 0, none⟩) 1 1), (.slice (some ⟨n294, 0, none⟩) 1 1), (.bool true), (.slice none 0 0)])]) (map2 rfl rfl) rfl (ent_42 _ _)) (txnWriteFull_spec _ _ _ _ (nfT 20 10) (⟨([1] : By), [b8 kn], true, ([] : By)⟩ : Wr) (S302).sat ⟨_, _, _, _, rfl, (pr.mono ((((le228.trans le233).trans le240).trans le298).trans le303)), (pw.mono ((((le228.trans le233).trans le240).trans le298).trans le303))⟩ ⟨_, _, _, _, _, _, rfl, (r301.mono le303), r306, (Bs.nil _)⟩ hnf (nfW_ok kn true) (nf_write_out hkb h10)) ?_
     intro v312 w307 F309 S308 le310 R311
     obtain ⟨_, rfl, R313⟩ := R311
     obtain ⟨xa314, xc315, xa316, xc317, rfl, r318, r319⟩ := R313
     simp only [pS, pN, pA, pC, pZ]
     refine do_ rfl (.tuple #[(.agg #[(.int .i64 nilX.start), (.slice xa314 nilX.reads.length xc315), (.slice xa316 nilX.writes.length xc317)]), (.int .i64 11)]) (ex_move _) ?_
     simp only [pS, pN, pA, pC, pZ]
     refine do_ rfl (.agg #[(.int .i64 nilX.start), (.slice xa314 nilX.reads.length xc315), (.slice xa316 nilX.writes.length xc317)]) (ex_extract rfl rfl) ?_
     simp only [pS, pN, pA, pC, pZ]
     refine do_ rfl (.int .i64 11) (ex_extract rfl rfl) ?_
     simp only [pS, pN, pA, pC, pZ]
     refine stNew S308 (v := fun n => .pointer (some ⟨n, 0, none⟩)) rfl (ex_alloc (zero_75 _)) (fun n320 w321 S322 => ?_)
     simp only [pS, pN, pA, pC, pZ]
     have S322 : St W (whole W) w321 F309 [⟨n320, [(.int .i64 0), (.slice none 0 0), (.slice none 0 0)], 75⟩, ⟨n250, [(.int .i64 nilX.start), (.slice xa244 nilX.reads.length xc245), (.slice xa246 nilX.writes.length xc247)], 75⟩, ⟨n3, [(.int .i64 (nfT 20 10).start), (.slice z0 (nfT 20 10).reads.length z1), (.slice z2 (nfT 20 10).writes.length z3)], 75⟩] [] := S322
     refine stStore (i := 0) (v := (.agg #[(.int .i64 nilX.start), (.slice xa314 nilX.reads.length xc315), (.slice xa316 nilX.writes.length xc317)])) S322 rfl rfl rfl rfl (size_75) (allc3 rfl rfl rfl) (Nat.le_of_ble_eq_true rfl) (fun w323 S324 => ?_)
     simp only [pS, pN, pA, pC, pZ]
     have S324 : St W (whole W) w323 F309 [⟨n320, [(.int .i64 nilX.start), (.slice xa314 nilX.reads.length xc315), (.slice xa316 nilX.writes.length xc317)], 75⟩, ⟨n250, [(.int .i64 nilX.start), (.slice xa244 nilX.reads.length xc245), (.slice xa246 nilX.writes.length xc247)], 75⟩, ⟨n3, [(.int .i64 (nfT 20 10).start), (.slice z0 (nfT 20 10).reads.length z1), (.slice z2 (nfT 20 10).writes.length z3)], 75⟩] [] := S324
     refine do_ rfl (.int .i64 11) (ex_assign _) ?_
     simp only [pS, pN, pA, pC, pZ]
     refine wl_nil (hK255 _ _ ?_)
     refine wp_seq_k (fun K325 hK325 => region_wl ?_)
     refine do_ rfl (.int .i64 11) (ex_move _) ?_
     simp only [pS, pN, pA, pC, pZ]
     refine do_ rfl (.bool false) (ex_eql (b := false) rfl rfl (by decide)) ?_
     simp only [pS, pN, pA, pC, pZ]
     refine do_ rfl (.int .i64 ((kn : Nat) : Int)) (ex_move _) ?_
     simp only [pS, pN, pA, pC, pZ]
     refine do_ rfl (.bool false) (ex_lss (m := ((kn : Nat) : Int)) (n := (20 : Int)) (b := false) rfl rfl (decide_eq_false (by omega))) ?_
     simp only [pS, pN, pA, pC, pZ]
     refine do_ rfl (.bool true) (ex_eqlB Try.underlying4 rfl rfl (rfl)) ?_
     simp only [pS, pN, pA, pC, pZ]
     refine do_ rfl (.bool true) (ex_move _) ?_
     simp only [pS, pN, pA, pC, pZ]
     refine do_ rfl (.int .i64 11) (ex_move _) ?_
     simp only [pS, pN, pA, pC, pZ]
     refine do_ rfl (.bool false) (ex_eql (b := false) rfl rfl (by decide)) ?_
     simp only [pS, pN, pA, pC, pZ]
     refine do_ rfl (.int .i64 ((kn : Nat) : Int)) (ex_move _) ?_
     simp only [pS, pN, pA, pC, pZ]
     refine do_ rfl (.bool false) (ex_lss (m := ((kn : Nat) : Int)) (n := (10 : Int)) (b := false) rfl rfl (decide_eq_false (by omega))) ?_
     simp only [pS, pN, pA, pC, pZ]
     refine do_ rfl (.bool true) (ex_eqlB Try.underlying4 rfl rfl (rfl)) ?_
     simp only [pS, pN, pA, pC, pZ]
     refine do_ rfl (.bool true) (ex_pick (b := true) rfl) ?_
     simp only [pS, pN, pA, pC, pZ]
     refine do_ rfl (.bool true) (ex_move _) ?_
     simp only [pS, pN, pA, pC, pZ]
     refine do_ rfl (.int .i64 11) (ex_move _) ?_
     simp only [pS, pN, pA, pC, pZ]
     refine do_ rfl (.bool false) (ex_eql (b := false) rfl rfl (by decide)) ?_
     simp only [pS, pN, pA, pC, pZ]
     refine do_ rfl (.bool false) (ex_move _) ?_
     simp only [pS, pN, pA, pC, pZ]
     refine do_ rfl (.int .i64 11) (ex_move _) ?_
     simp only [pS, pN, pA, pC, pZ]
     refine do_ rfl (.bool true) (ex_eql (b := true) rfl rfl (by decide)) ?_
     simp only [pS, pN, pA, pC, pZ]
     refine do_ rfl (.bool true) (ex_pick (b := false) rfl) ?_
     simp only [pS, pN, pA, pC, pZ]
     refine do_ rfl (.bool true) (ex_pick (b := true) rfl) ?_
     simp only [pS, pN, pA, pC, pZ]
     refine do_ rfl (.bool true) (ex_move _) ?_
     simp only [pS, pN, pA, pC, pZ]
     refine do_ rfl (.int .i64 11) (ex_move _) ?_
     simp only [pS, pN, pA, pC, pZ]
     refine do_ rfl (.bool false) (ex_eql (b := false) rfl rfl (by decide)) ?_
     simp only [pS, pN, pA, pC, pZ]
     refine do_ rfl (.bool false) (ex_move _) ?_
     simp only [pS, pN, pA, pC, pZ]
     refine do_ rfl (.int .i64 11) (ex_move _) ?_
     simp only [pS, pN, pA, pC, pZ]
     refine do_ rfl (.bool true) (ex_eql (b := true) rfl rfl (by decide)) ?_
     simp only [pS, pN, pA, pC, pZ]
     refine do_ rfl (.bool true) (ex_pick (b := false) rfl) ?_
     simp only [pS, pN, pA, pC, pZ]
     refine do_ rfl (.bool true) (ex_pick (b := true) rfl) ?_
     simp only [pS, pN, pA, pC, pZ]
     refine do_ rfl (.bool true) (ex_assign _) ?_
     simp only [pS, pN, pA, pC, pZ]
     refine wl_nil (hK325 _ _ ?_)
     refine wp_ret ?_
     (try simp only [Exit.then, Exit.inBlock, ↓reduceIte, Nat.reduceEqDiff])
     refine bodyPost_ret (v := (.bool true)) ?_ rfl ?_
     ·exact res_t rfl rfl
     ·exact ⟨rfl, S324.gr.below⟩
end Go.Proofs.Ytcpngkkconalhaa
