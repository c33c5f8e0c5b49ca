/- The walk of NoteOnce -/
import Derived.Test.YtcpngkkconalhaaZ12
import Derived.Test.YtcpngkkconalhaaZ8
namespace Go.Proofs.Ytcpngkkconalhaa
open Go.RowKit
set_option maxRecDepth 100000
set_option linter.unusedVariables false
set_option linter.unusedSimpArgs false
theorem noteX_self {t u : Tx} {r : Rd} (e : noteX t r = some u) : noteX u r = some u ∧ u.reads.length = t.reads.length + (if r ∈ t.reads then 0 else 1) := by
  unfold noteX at e
  split at e
  · rename_i h
    cases e
    exact ⟨by unfold noteX; rw [if_pos h], by rw [if_pos h]; rfl⟩
  · rename_i h
    split at e
    · cases e
    · cases e
      exact ⟨by unfold noteX; rw [if_pos (by simp)], by rw [if_neg h]; simp⟩
theorem any_mem {l : List Rd} {r : Rd} : l.any (fun q => decide (q = r)) = decide (r ∈ l) := by
  rw [Bool.eq_iff_iff, List.any_eq_true, decide_eq_true_iff]
  exact ⟨fun ⟨x, hx, e⟩ => by have := of_decide_eq_true e; subst this; exact hx, fun h => ⟨r, h, decide_eq_true rfl⟩⟩
theorem any_step {l : List Rd} {k : Nat} {p r : Rd} (hp : l[k]? = some p) : (l.take (k + 1)).any (fun q => decide (q = r)) = ((l.take k).any (fun q => decide (q = r)) || decide (p = r)) := by
  obtain ⟨hk, rfl⟩ := List.getElem?_eq_some_iff.1 hp
  rw [List.take_succ_eq_append_getElem hk, List.any_append]
  simp
theorem rd_ext {p r : Rd} (h0 : p.wide = r.wide) (h1 : p.name = r.name) (h2 : p.key = r.key) (h3 : p.last = r.last) : p = r := by cases p; cases r; simp_all
set_option maxHeartbeats 8000000 in
theorem noteOnce_walk (W : World) (v0 : Value) (l0 : List Pl) (z0 : Pls (whole W) v0 l0) (p1 : Pl) (v10 : Value) (z10 : Bs (whole W) v10 p1.name) (v11 : Value) (z11 : Bs (whole W) v11 p1.key) (v12 : Value) (z12 : Bs (whole W) v12 p1.value) :
    Calls Try.prog 11 #[v0, .agg #[v10, v11, v12, .bool p1.gone]] W (Tells W (.bool true)) := by
 obtain ⟨a0, c0, rfl, q0, q0'⟩ := Sl.shape z0
 obtain ⟨a10, c10, rfl, _⟩ := z10.shape
 obtain ⟨a11, c11, rfl, _⟩ := z11.shape
 obtain ⟨a12, c12, rfl, _⟩ := z12.shape
 have S := St.start (Sat.whole W)
 go_enter Try.func11, Try.ntmps11
 refine wp_seq_k (fun K1 hK1 => region_wl ?_)
 refine stNew S (v := fun n => .pointer (some ⟨n, 0, none⟩)) rfl (ex_box (v := (.agg #[(.slice a10 p1.name.length c10), (.slice a11 p1.key.length c11), (.slice a12 p1.value.length c12), (.bool p1.gone)])) rfl) (fun n2 w3 S4 => ?_)
 simp only [pS, pN, pA, pC, pZ]
 have S4 : St W (whole W) w3 (whole W) [⟨n2, [(.slice a10 p1.name.length c10), (.slice a11 p1.key.length c11), (.slice a12 p1.value.length c12), (.bool p1.gone)], 30⟩] [] := S4
 refine do_ rfl (.bool false) (ex_assign _) ?_
 simp only [pS, pN, pA, pC, pZ]
 refine wl_nil (hK1 _ _ ?_)
 refine wp_seq_k (fun K5 hK5 => region_wl ?_)
 refine do_ rfl (.slice a0 l0.length c0) (ex_move _) ?_
 simp only [pS, pN, pA, pC, pZ]
 refine stGives S4 rfl (ex_fn (vs := #[(.slice none 0 0), (.slice a0 l0.length c0)]) (map2 rfl rfl) rfl (ent_41 _ _)) (txnOf_spec _ _ _ _ [] l0 (S4).sat (Sl.nil _ _ _) z0) ?_
 intro v11 w6 F8 S7 le9 R10
 obtain ⟨_, rfl, R12⟩ := R10
 obtain ⟨xa13, xc14, xa15, xc16, rfl, r17, r18⟩ := R12
 simp only [pS, pN, pA, pC, pZ]
 refine do_ rfl (.tuple #[(.agg #[(.int .i64 (txO [] l0).start), (.slice xa13 (txO [] l0).reads.length xc14), (.slice xa15 (txO [] l0).writes.length xc16)]), (.bool true)]) (ex_move _) ?_
 simp only [pS, pN, pA, pC, pZ]
 refine do_ rfl (.agg #[(.int .i64 (txO [] l0).start), (.slice xa13 (txO [] l0).reads.length xc14), (.slice xa15 (txO [] l0).writes.length xc16)]) (ex_extract rfl rfl) ?_
 simp only [pS, pN, pA, pC, pZ]
 refine do_ rfl (.bool true) (ex_extract rfl rfl) ?_
 simp only [pS, pN, pA, pC, pZ]
 refine stNew S7 (v := fun n => .pointer (some ⟨n, 0, none⟩)) rfl (ex_alloc (zero_75 _)) (fun n19 w20 S21 => ?_)
 simp only [pS, pN, pA, pC, pZ]
 have S21 : St W (whole W) w20 F8 [⟨n19, [(.int .i64 0), (.slice none 0 0), (.slice none 0 0)], 75⟩, ⟨n2, [(.slice a10 p1.name.length c10), (.slice a11 p1.key.length c11), (.slice a12 p1.value.length c12), (.bool p1.gone)], 30⟩] [] := S21
 refine stStore (i := 0) (v := (.agg #[(.int .i64 (txO [] l0).start), (.slice xa13 (txO [] l0).reads.length xc14), (.slice xa15 (txO [] l0).writes.length xc16)])) S21 rfl rfl rfl rfl (size_75) (allc3 rfl rfl rfl) (Nat.le_of_ble_eq_true rfl) (fun w22 S23 => ?_)
 simp only [pS, pN, pA, pC, pZ]
 have S23 : St W (whole W) w22 F8 [⟨n19, [(.int .i64 (txO [] l0).start), (.slice xa13 (txO [] l0).reads.length xc14), (.slice xa15 (txO [] l0).writes.length xc16)], 75⟩, ⟨n2, [(.slice a10 p1.name.length c10), (.slice a11 p1.key.length c11), (.slice a12 p1.value.length c12), (.bool p1.gone)], 30⟩] [] := S23
 refine do_ rfl (.bool true) (ex_assign _) ?_
 simp only [pS, pN, pA, pC, pZ]
 refine wl_nil (hK5 _ _ ?_)
 refine wp_seq_k (fun K24 hK24 => region_wl ?_)
 refine do_ rfl (.agg #[(.slice a10 p1.name.length c10), (.slice a11 p1.key.length c11), (.slice a12 p1.value.length c12), (.bool p1.gone)]) (ex_load rfl (loadN (cs := [(.slice a10 p1.name.length c10), (.slice a11 p1.key.length c11), (.slice a12 p1.value.length c12), (.bool p1.gone)]) Try.underlying30 rfl (size_30) (St.range S23 (i := 1) rfl 0 [(.slice a10 p1.name.length c10), (.slice a11 p1.key.length c11), (.slice a12 p1.value.length c12), (.bool p1.gone)] (sub_range 0 rfl)))) ?_
 simp only [pS, pN, pA, pC, pZ]
 refine stGives S23 rfl (ex_fn (vs := #[(.agg #[(.slice a10 p1.name.length c10), (.slice a11 p1.key.length c11), (.slice a12 p1.value.length c12), (.bool p1.gone)])]) (map1 rfl) rfl (ent_45 _ _)) (keepRead_spec _ _ _ p1 (S23).sat ⟨_, _, _, _, _, _, rfl, (z10.mono le9), (z11.mono le9), (z12.mono le9)⟩) ?_
 intro v30 w25 F27 S26 le28 R29
 obtain ⟨xa31, xc32, xa33, xc34, xa35, xc36, rfl, r37, r38, r39⟩ := R29
 simp only [pS, pN, pA, pC, pZ]
 refine stNew S26 (v := fun n => .pointer (some ⟨n, 0, none⟩)) rfl (ex_alloc (zero_83 _)) (fun n40 w41 S42 => ?_)
 simp only [pS, pN, pA, pC, pZ]
 have S42 : St W (whole W) w41 F27 [⟨n40, [(.slice none 0 0), (.slice none 0 0), (.bool false), (.slice none 0 0)], 83⟩, ⟨n19, [(.int .i64 (txO [] l0).start), (.slice xa13 (txO [] l0).reads.length xc14), (.slice xa15 (txO [] l0).writes.length xc16)], 75⟩, ⟨n2, [(.slice a10 p1.name.length c10), (.slice a11 p1.key.length c11), (.slice a12 p1.value.length c12), (.bool p1.gone)], 30⟩] [] := S42
 refine stStore (i := 0) (v := (.agg #[(.slice xa31 (readP p1).name.length xc32), (.slice xa33 (readP p1).key.length xc34), (.bool (readP p1).wide), (.slice xa35 (readP p1).last.length xc36)])) S42 rfl rfl rfl rfl (size_83) (allc4 rfl rfl rfl rfl) (Nat.le_of_ble_eq_true rfl) (fun w43 S44 => ?_)
 simp only [pS, pN, pA, pC, pZ]
 have S44 : St W (whole W) w43 F27 [⟨n40, [(.slice xa31 (readP p1).name.length xc32), (.slice xa33 (readP p1).key.length xc34), (.bool (readP p1).wide), (.slice xa35 (readP p1).last.length xc36)], 83⟩, ⟨n19, [(.int .i64 (txO [] l0).start), (.slice xa13 (txO [] l0).reads.length xc14), (.slice xa15 (txO [] l0).writes.length xc16)], 75⟩, ⟨n2, [(.slice a10 p1.name.length c10), (.slice a11 p1.key.length c11), (.slice a12 p1.value.length c12), (.bool p1.gone)], 30⟩] [] := S44
 refine wl_nil (hK24 _ _ ?_)
 refine wp_seq_k (fun K45 hK45 => ?_)
 have hT := txO_ok [] l0
 obtain ⟨A, hA⟩ := noteX_room (t := (txO [] l0)) (r := (readP p1)) (by omega)
 obtain ⟨hB, hAl⟩ := noteX_self hA
 have hAk := noteX_ok hT.1 (readP_ok p1) hA
 refine region_wl ?_
 refine do_ rfl (.agg #[(.int .i64 (txO [] l0).start), (.slice xa13 (txO [] l0).reads.length xc14), (.slice xa15 (txO [] l0).writes.length xc16)]) (ex_load rfl (loadN (cs := [(.int .i64 (txO [] l0).start), (.slice xa13 (txO [] l0).reads.length xc14), (.slice xa15 (txO [] l0).writes.length xc16)]) Try.underlying75 rfl (size_75) (St.range S44 (i := 1) rfl 0 [(.int .i64 (txO [] l0).start), (.slice xa13 (txO [] l0).reads.length xc14), (.slice xa15 (txO [] l0).writes.length xc16)] (sub_range 0 rfl)))) ?_
 simp only [pS, pN, pA, pC, pZ]
 refine do_ rfl (.agg #[(.slice xa31 (readP p1).name.length xc32), (.slice xa33 (readP p1).key.length xc34), (.bool (readP p1).wide), (.slice xa35 (readP p1).last.length xc36)]) (ex_load rfl (loadN (cs := [(.slice xa31 (readP p1).name.length xc32), (.slice xa33 (readP p1).key.length xc34), (.bool (readP p1).wide), (.slice xa35 (readP p1).last.length xc36)]) Try.underlying83 rfl (size_83) (St.range S44 (i := 0) rfl 0 [(.slice xa31 (readP p1).name.length xc32), (.slice xa33 (readP p1).key.length xc34), (.bool (readP p1).wide), (.slice xa35 (readP p1).last.length xc36)] (sub_range 0 rfl)))) ?_
 simp only [pS, pN, pA, pC, pZ]
 refine stGives S44 rfl (ex_fn (vs := #[(.agg #[(.int .i64 (txO [] l0).start), (.slice xa13 (txO [] l0).reads.length xc14), (.slice xa15 (txO [] l0).writes.length xc16)]), (.agg #[(.slice xa31 (readP p1).name.length xc32), (.slice xa33 (readP p1).key.length xc34), (.bool (readP p1).wide), (.slice xa35 (readP p1).last.length xc36)])]) (map2 rfl rfl) rfl (ent_46 _ _)) (txnNoteIs_spec _ _ _ _ (txO [] l0) (readP p1) A (S44).sat ⟨_, _, _, _, rfl, (r17.mono le28), (r18.mono le28)⟩ ⟨_, _, _, _, _, _, rfl, r37, r38, r39⟩ hT.1 (readP_ok p1) hA) ?_
 intro v51 w46 F48 S47 le49 R50
 obtain ⟨_, rfl, R52⟩ := R50
 obtain ⟨xa53, xc54, xa55, xc56, rfl, r57, r58⟩ := R52
 simp only [pS, pN, pA, pC, pZ]
 refine do_ rfl (.tuple #[(.agg #[(.int .i64 A.start), (.slice xa53 A.reads.length xc54), (.slice xa55 A.writes.length xc56)]), (.int .i64 0)]) (ex_move _) ?_
 simp only [pS, pN, pA, pC, pZ]
 refine do_ rfl (.agg #[(.int .i64 A.start), (.slice xa53 A.reads.length xc54), (.slice xa55 A.writes.length xc56)]) (ex_extract rfl rfl) ?_
 simp only [pS, pN, pA, pC, pZ]
 refine do_ rfl (.int .i64 0) (ex_extract rfl rfl) ?_
 simp only [pS, pN, pA, pC, pZ]
 refine stNew S47 (v := fun n => .pointer (some ⟨n, 0, none⟩)) rfl (ex_alloc (zero_75 _)) (fun n59 w60 S61 => ?_)
 simp only [pS, pN, pA, pC, pZ]
 have S61 : St W (whole W) w60 F48 [⟨n59, [(.int .i64 0), (.slice none 0 0), (.slice none 0 0)], 75⟩, ⟨n40, [(.slice xa31 (readP p1).name.length xc32), (.slice xa33 (readP p1).key.length xc34), (.bool (readP p1).wide), (.slice xa35 (readP p1).last.length xc36)], 83⟩, ⟨n19, [(.int .i64 (txO [] l0).start), (.slice xa13 (txO [] l0).reads.length xc14), (.slice xa15 (txO [] l0).writes.length xc16)], 75⟩, ⟨n2, [(.slice a10 p1.name.length c10), (.slice a11 p1.key.length c11), (.slice a12 p1.value.length c12), (.bool p1.gone)], 30⟩] [] := S61
 refine stStore (i := 0) (v := (.agg #[(.int .i64 A.start), (.slice xa53 A.reads.length xc54), (.slice xa55 A.writes.length xc56)])) S61 rfl rfl rfl rfl (size_75) (allc3 rfl rfl rfl) (Nat.le_of_ble_eq_true rfl) (fun w62 S63 => ?_)
 simp only [pS, pN, pA, pC, pZ]
 have S63 : St W (whole W) w62 F48 [⟨n59, [(.int .i64 A.start), (.slice xa53 A.reads.length xc54), (.slice xa55 A.writes.length xc56)], 75⟩, ⟨n40, [(.slice xa31 (readP p1).name.length xc32), (.slice xa33 (readP p1).key.length xc34), (.bool (readP p1).wide), (.slice xa35 (readP p1).last.length xc36)], 83⟩, ⟨n19, [(.int .i64 (txO [] l0).start), (.slice xa13 (txO [] l0).reads.length xc14), (.slice xa15 (txO [] l0).writes.length xc16)], 75⟩, ⟨n2, [(.slice a10 p1.name.length c10), (.slice a11 p1.key.length c11), (.slice a12 p1.value.length c12), (.bool p1.gone)], 30⟩] [] := S63
 refine do_ rfl (.int .i64 0) (ex_assign _) ?_
 simp only [pS, pN, pA, pC, pZ]
 refine wl_nil (hK45 _ _ ?_)
 refine wp_seq_k (fun K64 hK64 => region_wl ?_)
 refine do_ rfl (.agg #[(.int .i64 A.start), (.slice xa53 A.reads.length xc54), (.slice xa55 A.writes.length xc56)]) (ex_load rfl (loadN (cs := [(.int .i64 A.start), (.slice xa53 A.reads.length xc54), (.slice xa55 A.writes.length xc56)]) Try.underlying75 rfl (size_75) (St.range S63 (i := 0) rfl 0 [(.int .i64 A.start), (.slice xa53 A.reads.length xc54), (.slice xa55 A.writes.length xc56)] (sub_range 0 rfl)))) ?_
 simp only [pS, pN, pA, pC, pZ]
 refine do_ rfl (.agg #[(.slice xa31 (readP p1).name.length xc32), (.slice xa33 (readP p1).key.length xc34), (.bool (readP p1).wide), (.slice xa35 (readP p1).last.length xc36)]) (ex_load rfl (loadN (cs := [(.slice xa31 (readP p1).name.length xc32), (.slice xa33 (readP p1).key.length xc34), (.bool (readP p1).wide), (.slice xa35 (readP p1).last.length xc36)]) Try.underlying83 rfl (size_83) (St.range S63 (i := 1) rfl 0 [(.slice xa31 (readP p1).name.length xc32), (.slice xa33 (readP p1).key.length xc34), (.bool (readP p1).wide), (.slice xa35 (readP p1).last.length xc36)] (sub_range 0 rfl)))) ?_
 simp only [pS, pN, pA, pC, pZ]
 refine stGives S63 rfl (ex_fn (vs := #[(.agg #[(.int .i64 A.start), (.slice xa53 A.reads.length xc54), (.slice xa55 A.writes.length xc56)]), (.agg #[(.slice xa31 (readP p1).name.length xc32), (.slice xa33 (readP p1).key.length xc34), (.bool (readP p1).wide), (.slice xa35 (readP p1).last.length xc36)])]) (map2 rfl rfl) rfl (ent_46 _ _)) (txnNoteIs_spec _ _ _ _ A (readP p1) A (S63).sat ⟨_, _, _, _, rfl, r57, r58⟩ ⟨_, _, _, _, _, _, rfl, (r37.mono le49), (r38.mono le49), (r39.mono le49)⟩ hAk (readP_ok p1) hB) ?_
 intro v70 w65 F67 S66 le68 R69
 obtain ⟨_, rfl, R71⟩ := R69
 obtain ⟨xa72, xc73, xa74, xc75, rfl, r76, r77⟩ := R71
 simp only [pS, pN, pA, pC, pZ]
 refine do_ rfl (.tuple #[(.agg #[(.int .i64 A.start), (.slice xa72 A.reads.length xc73), (.slice xa74 A.writes.length xc75)]), (.int .i64 0)]) (ex_move _) ?_
 simp only [pS, pN, pA, pC, pZ]
 refine do_ rfl (.agg #[(.int .i64 A.start), (.slice xa72 A.reads.length xc73), (.slice xa74 A.writes.length xc75)]) (ex_extract rfl rfl) ?_
 simp only [pS, pN, pA, pC, pZ]
 refine do_ rfl (.int .i64 0) (ex_extract rfl rfl) ?_
 simp only [pS, pN, pA, pC, pZ]
 refine stNew S66 (v := fun n => .pointer (some ⟨n, 0, none⟩)) rfl (ex_alloc (zero_75 _)) (fun n78 w79 S80 => ?_)
 simp only [pS, pN, pA, pC, pZ]
 have S80 : St W (whole W) w79 F67 [⟨n78, [(.int .i64 0), (.slice none 0 0), (.slice none 0 0)], 75⟩, ⟨n59, [(.int .i64 A.start), (.slice xa53 A.reads.length xc54), (.slice xa55 A.writes.length xc56)], 75⟩, ⟨n40, [(.slice xa31 (readP p1).name.length xc32), (.slice xa33 (readP p1).key.length xc34), (.bool (readP p1).wide), (.slice xa35 (readP p1).last.length xc36)], 83⟩, ⟨n19, [(.int .i64 (txO [] l0).start), (.slice xa13 (txO [] l0).reads.length xc14), (.slice xa15 (txO [] l0).writes.length xc16)], 75⟩, ⟨n2, [(.slice a10 p1.name.length c10), (.slice a11 p1.key.length c11), (.slice a12 p1.value.length c12), (.bool p1.gone)], 30⟩] [] := S80
 refine stStore (i := 0) (v := (.agg #[(.int .i64 A.start), (.slice xa72 A.reads.length xc73), (.slice xa74 A.writes.length xc75)])) S80 rfl rfl rfl rfl (size_75) (allc3 rfl rfl rfl) (Nat.le_of_ble_eq_true rfl) (fun w81 S82 => ?_)
 simp only [pS, pN, pA, pC, pZ]
 have S82 : St W (whole W) w81 F67 [⟨n78, [(.int .i64 A.start), (.slice xa72 A.reads.length xc73), (.slice xa74 A.writes.length xc75)], 75⟩, ⟨n59, [(.int .i64 A.start), (.slice xa53 A.reads.length xc54), (.slice xa55 A.writes.length xc56)], 75⟩, ⟨n40, [(.slice xa31 (readP p1).name.length xc32), (.slice xa33 (readP p1).key.length xc34), (.bool (readP p1).wide), (.slice xa35 (readP p1).last.length xc36)], 83⟩, ⟨n19, [(.int .i64 (txO [] l0).start), (.slice xa13 (txO [] l0).reads.length xc14), (.slice xa15 (txO [] l0).writes.length xc16)], 75⟩, ⟨n2, [(.slice a10 p1.name.length c10), (.slice a11 p1.key.length c11), (.slice a12 p1.value.length c12), (.bool p1.gone)], 30⟩] [] := S82
 refine do_ rfl (.int .i64 0) (ex_assign _) ?_
 simp only [pS, pN, pA, pC, pZ]
 refine wl_nil (hK64 _ _ ?_)
 refine wp_seq_k (fun K83 hK83 => region_wl ?_)
 refine do_ rfl (.bool false) (ex_assign _) ?_
 simp only [pS, pN, pA, pC, pZ]
 refine wl_nil (hK83 _ _ ?_)
 refine wp_seq_k (fun K84 hK84 => ?_)
 refine wp_seq_k (fun K85 hK85 => region_wl ?_)
 refine do_ rfl (.int .i64 0) (ex_assign _) ?_
 simp only [pS, pN, pA, pC, pZ]
 refine wl_nil (hK85 _ _ ?_)
 refine wp_block ?_
 refine wp_loop_g (fun mm aa w87 => ∃ (k : Nat) (h : Bool) (u86 : Nat → Value), mm = (txO [] l0).reads.length - k ∧ u86 = slots aa ∧ aa = ⟨#[(.slice a0 l0.length c0), (.agg #[(.slice a10 p1.name.length c10), (.slice a11 p1.key.length c11), (.slice a12 p1.value.length c12), (.bool p1.gone)]), undef, (.pointer (some ⟨n2, 0, none⟩)), (.bool false), (.pointer (some ⟨n19, 0, none⟩)), (.bool true), (.pointer (some ⟨n40, 0, none⟩)), (.pointer (some ⟨n59, 0, none⟩)), (.int .i64 0), (.pointer (some ⟨n78, 0, none⟩)), (.int .i64 0), (.bool h), (.int .i64 ((k : Nat) : Int)), (u86 14), undef, (.tuple #[(.agg #[(.int .i64 (txO [] l0).start), (.slice xa13 (txO [] l0).reads.length xc14), (.slice xa15 (txO [] l0).writes.length xc16)]), (.bool true)]), (.slice a0 l0.length c0), (.tuple #[(.agg #[(.int .i64 (txO [] l0).start), (.slice xa13 (txO [] l0).reads.length xc14), (.slice xa15 (txO [] l0).writes.length xc16)]), (.bool true)]), (.agg #[(.int .i64 (txO [] l0).start), (.slice xa13 (txO [] l0).reads.length xc14), (.slice xa15 (txO [] l0).writes.length xc16)]), (.bool true), (.agg #[(.slice a10 p1.name.length c10), (.slice a11 p1.key.length c11), (.slice a12 p1.value.length c12), (.bool p1.gone)]), (.agg #[(.slice xa31 (readP p1).name.length xc32), (.slice xa33 (readP p1).key.length xc34), (.bool (readP p1).wide), (.slice xa35 (readP p1).last.length xc36)]), (.tuple #[(.agg #[(.int .i64 A.start), (.slice xa53 A.reads.length xc54), (.slice xa55 A.writes.length xc56)]), (.int .i64 0)]), (.agg #[(.int .i64 (txO [] l0).start), (.slice xa13 (txO [] l0).reads.length xc14), (.slice xa15 (txO [] l0).writes.length xc16)]), (.agg #[(.slice xa31 (readP p1).name.length xc32), (.slice xa33 (readP p1).key.length xc34), (.bool (readP p1).wide), (.slice xa35 (readP p1).last.length xc36)]), (.tuple #[(.agg #[(.int .i64 A.start), (.slice xa53 A.reads.length xc54), (.slice xa55 A.writes.length xc56)]), (.int .i64 0)]), (.agg #[(.int .i64 A.start), (.slice xa53 A.reads.length xc54), (.slice xa55 A.writes.length xc56)]), (.int .i64 0), (.tuple #[(.agg #[(.int .i64 A.start), (.slice xa72 A.reads.length xc73), (.slice xa74 A.writes.length xc75)]), (.int .i64 0)]), (.agg #[(.int .i64 A.start), (.slice xa53 A.reads.length xc54), (.slice xa55 A.writes.length xc56)]), (.agg #[(.slice xa31 (readP p1).name.length xc32), (.slice xa33 (readP p1).key.length xc34), (.bool (readP p1).wide), (.slice xa35 (readP p1).last.length xc36)]), (.tuple #[(.agg #[(.int .i64 A.start), (.slice xa72 A.reads.length xc73), (.slice xa74 A.writes.length xc75)]), (.int .i64 0)]), (.agg #[(.int .i64 A.start), (.slice xa72 A.reads.length xc73), (.slice xa74 A.writes.length xc75)]), (.int .i64 0), (u86 35), (u86 36), (u86 37), (u86 38), (u86 39), (u86 40), (u86 41), (u86 42), (u86 43), (u86 44), (u86 45), (u86 46), (u86 47), (u86 48), (u86 49), (u86 50), (u86 51), (u86 52), (u86 53), (u86 54), (u86 55), (u86 56), (u86 57), (u86 58), (u86 59), (u86 60), (u86 61), (u86 62), (u86 63), (u86 64), (u86 65), (u86 66), (u86 67), (u86 68), (u86 69), (u86 70), (u86 71), (u86 72), (u86 73), (u86 74), (u86 75), undef, undef, undef, undef, undef, undef, undef, undef, undef, undef, undef, undef, undef, undef, undef, undef, undef, undef, undef, undef, undef, undef, undef, undef, undef, undef, undef, undef, undef, undef], []⟩ ∧ St W (whole W) w87 F67 [⟨n78, [(.int .i64 A.start), (.slice xa72 A.reads.length xc73), (.slice xa74 A.writes.length xc75)], 75⟩, ⟨n59, [(.int .i64 A.start), (.slice xa53 A.reads.length xc54), (.slice xa55 A.writes.length xc56)], 75⟩, ⟨n40, [(.slice xa31 (readP p1).name.length xc32), (.slice xa33 (readP p1).key.length xc34), (.bool (readP p1).wide), (.slice xa35 (readP p1).last.length xc36)], 83⟩, ⟨n19, [(.int .i64 (txO [] l0).start), (.slice xa13 (txO [] l0).reads.length xc14), (.slice xa15 (txO [] l0).writes.length xc16)], 75⟩, ⟨n2, [(.slice a10 p1.name.length c10), (.slice a11 p1.key.length c11), (.slice a12 p1.value.length c12), (.bool p1.gone)], 30⟩] [] ∧ (k ≤ (txO [] l0).reads.length) ∧ (h = (((txO [] l0).reads.take k).any (fun q => decide (q = (readP p1)))))) _ ⟨0, false, _, rfl, rfl, rfl, S82, (by omega), rfl⟩ ?_
 rintro m88 a89 w90 ⟨k, h, u86, rfl, -, rfl, S91, hk, hh⟩ K93 hK93
 refine wp_seq_k (fun K94 hK94 => ?_)
 refine wp_seq_k (fun K95 hK95 => region_wl ?_)
 refine do_ rfl (.int .i64 ((k : Nat) : Int)) (ex_move _) ?_
 simp only [pS, pN, pA, pC, pZ]
 refine do_ rfl (.pointer (some ⟨n19, 1, none⟩)) (ex_field (q := ⟨n19, 1, none⟩) rfl (fa_75_1 _ _)) ?_
 simp only [pS, pN, pA, pC, pZ]
 refine do_ rfl (.slice xa13 (txO [] l0).reads.length xc14) (ex_load rfl (load1 (nagg_73 _) (St.cell S91 (i := 3) rfl rfl))) ?_
 simp only [pS, pN, pA, pC, pZ]
 refine do_ rfl (.int .i64 (((txO [] l0).reads.length : Nat) : Int)) (ex_len Try.underlying73 rfl) ?_
 simp only [pS, pN, pA, pC, pZ]
 by_cases hc39 : k < (txO [] l0).reads.length
 ·refine do_ rfl (.bool true) (ex_lss (m := ((k : Nat) : Int)) (n := (((txO [] l0).reads.length : Nat) : Int)) (b := true) rfl rfl (decide_eq_true (by omega))) ?_
  simp only [pS, pN, pA, pC, pZ]
  refine wl_nil (hK95 _ _ ?_)
  refine wp_cond_true rfl ?_
  refine wp_skip ?_
  refine hK94 _ _ ?_
  refine wp_seq_k (fun K96 hK96 => ?_)
  refine wp_block ?_
  refine wp_seq_k (fun K97 hK97 => ?_)
  obtain ⟨p, hp⟩ : ∃ p, (txO [] l0).reads[k]? = some p := ⟨(txO [] l0).reads[k], List.getElem?_eq_getElem hc39⟩
  obtain ⟨b98, o99, ha100, xa102, xc103, xa106, xc107, xa111, xc112, c101, c105, c109, c110, r104, r108, r113⟩ := Rds.get (r17.mono ((le28.trans le49).trans le68)) hp
  refine region_wl ?_
  refine do_ rfl (.pointer (some ⟨n19, 1, none⟩)) (ex_field (q := ⟨n19, 1, none⟩) rfl (fa_75_1 _ _)) ?_
  simp only [pS, pN, pA, pC, pZ]
  refine do_ rfl (.slice xa13 (txO [] l0).reads.length xc14) (ex_load rfl (load1 (nagg_73 _) (St.cell S91 (i := 3) rfl rfl))) ?_
  simp only [pS, pN, pA, pC, pZ]
  refine do_ rfl (.int .i64 ((k : Nat) : Int)) (ex_move _) ?_
  simp only [pS, pN, pA, pC, pZ]
  refine do_ rfl (.pointer (some ⟨b98, o99 + k * 4, none⟩)) (ex_at (i := k) (sz := 4) Try.underlying73 (sizeof_83 _) rfl ha100 rfl (by omega) rfl) ?_
  simp only [pS, pN, pA, pC, pZ]
  refine do_ rfl (.agg #[(.slice xa102 p.name.length xc103), (.slice xa106 p.key.length xc107), (.bool p.wide), (.slice xa111 p.last.length xc112)]) (ex_load rfl (loadN (cs := [(.slice xa102 p.name.length xc103), (.slice xa106 p.key.length xc107), (.bool p.wide), (.slice xa111 p.last.length xc112)]) Try.underlying83 rfl (size_83) (range4 (St.fz S91 c101) (St.fz S91 c105) (St.fz S91 c109) (St.fz S91 c110)))) ?_
  simp only [pS, pN, pA, pC, pZ]
  refine stNew S91 (v := fun n => .pointer (some ⟨n, 0, none⟩)) rfl (ex_alloc (zero_83 _)) (fun n114 w115 S116 => ?_)
  simp only [pS, pN, pA, pC, pZ]
  have S116 : St W (whole W) w115 F67 [⟨n114, [(.slice none 0 0), (.slice none 0 0), (.bool false), (.slice none 0 0)], 83⟩, ⟨n78, [(.int .i64 A.start), (.slice xa72 A.reads.length xc73), (.slice xa74 A.writes.length xc75)], 75⟩, ⟨n59, [(.int .i64 A.start), (.slice xa53 A.reads.length xc54), (.slice xa55 A.writes.length xc56)], 75⟩, ⟨n40, [(.slice xa31 (readP p1).name.length xc32), (.slice xa33 (readP p1).key.length xc34), (.bool (readP p1).wide), (.slice xa35 (readP p1).last.length xc36)], 83⟩, ⟨n19, [(.int .i64 (txO [] l0).start), (.slice xa13 (txO [] l0).reads.length xc14), (.slice xa15 (txO [] l0).writes.length xc16)], 75⟩, ⟨n2, [(.slice a10 p1.name.length c10), (.slice a11 p1.key.length c11), (.slice a12 p1.value.length c12), (.bool p1.gone)], 30⟩] [] := S116
  refine stStore (i := 0) (v := (.agg #[(.slice xa102 p.name.length xc103), (.slice xa106 p.key.length xc107), (.bool p.wide), (.slice xa111 p.last.length xc112)])) S116 rfl rfl rfl rfl (size_83) (allc4 rfl rfl rfl rfl) (Nat.le_of_ble_eq_true rfl) (fun w117 S118 => ?_)
  simp only [pS, pN, pA, pC, pZ]
  have S118 : St W (whole W) w117 F67 [⟨n114, [(.slice xa102 p.name.length xc103), (.slice xa106 p.key.length xc107), (.bool p.wide), (.slice xa111 p.last.length xc112)], 83⟩, ⟨n78, [(.int .i64 A.start), (.slice xa72 A.reads.length xc73), (.slice xa74 A.writes.length xc75)], 75⟩, ⟨n59, [(.int .i64 A.start), (.slice xa53 A.reads.length xc54), (.slice xa55 A.writes.length xc56)], 75⟩, ⟨n40, [(.slice xa31 (readP p1).name.length xc32), (.slice xa33 (readP p1).key.length xc34), (.bool (readP p1).wide), (.slice xa35 (readP p1).last.length xc36)], 83⟩, ⟨n19, [(.int .i64 (txO [] l0).start), (.slice xa13 (txO [] l0).reads.length xc14), (.slice xa15 (txO [] l0).writes.length xc16)], 75⟩, ⟨n2, [(.slice a10 p1.name.length c10), (.slice a11 p1.key.length c11), (.slice a12 p1.value.length c12), (.bool p1.gone)], 30⟩] [] := S118
  refine wl_nil (hK97 _ _ ?_)
  cases h with
  | true =>
   refine region_wl ?_
   refine do_ rfl (.bool true) (ex_move _) ?_
   simp only [pS, pN, pA, pC, pZ]
   refine do_ rfl (.bool true) (ex_move _) ?_
   simp only [pS, pN, pA, pC, pZ]
   refine doN (wanted_no rfl rfl rfl (c := true) rfl (by decide)) ?_
   simp only [pS, pN, pA, pC, pZ]
   refine doN (wanted_no rfl rfl rfl (c := true) rfl (by decide)) ?_
   simp only [pS, pN, pA, pC, pZ]
   refine doN (wanted_no rfl rfl rfl (c := true) rfl (by decide)) ?_
   simp only [pS, pN, pA, pC, pZ]
   refine doN (wanted_no rfl rfl rfl (c := true) rfl (by decide)) ?_
   simp only [pS, pN, pA, pC, pZ]
   refine doN (wanted_no rfl rfl rfl (c := true) rfl (by decide)) ?_
   simp only [pS, pN, pA, pC, pZ]
   refine doN (wanted_no rfl rfl rfl (c := true) rfl (by decide)) ?_
   simp only [pS, pN, pA, pC, pZ]
   refine doN (wanted_un rfl rfl rfl rfl) ?_
   simp only [pS, pN, pA, pC, pZ]
   refine doN (wanted_un rfl rfl rfl rfl) ?_
   simp only [pS, pN, pA, pC, pZ]
   refine doN (wanted_un rfl rfl rfl rfl) ?_
   simp only [pS, pN, pA, pC, pZ]
   refine doN (wanted_un rfl rfl rfl rfl) ?_
   simp only [pS, pN, pA, pC, pZ]
   refine doN (wanted_un rfl rfl rfl rfl) ?_
   simp only [pS, pN, pA, pC, pZ]
   refine doN (wanted_no rfl rfl rfl (c := true) rfl (by decide)) ?_
   simp only [pS, pN, pA, pC, pZ]
   refine doN (wanted_no rfl rfl rfl (c := true) rfl (by decide)) ?_
   simp only [pS, pN, pA, pC, pZ]
   refine doN (wanted_un rfl rfl rfl rfl) ?_
   simp only [pS, pN, pA, pC, pZ]
   refine doN (wanted_un rfl rfl rfl rfl) ?_
   simp only [pS, pN, pA, pC, pZ]
   refine doN (wanted_un rfl rfl rfl rfl) ?_
   simp only [pS, pN, pA, pC, pZ]
   refine doN (wanted_un rfl rfl rfl rfl) ?_
   simp only [pS, pN, pA, pC, pZ]
   refine doN (wanted_un rfl rfl rfl rfl) ?_
   simp only [pS, pN, pA, pC, pZ]
   refine doN (wanted_no rfl rfl rfl (c := true) rfl (by decide)) ?_
   simp only [pS, pN, pA, pC, pZ]
   refine doN (wanted_no rfl rfl rfl (c := true) rfl (by decide)) ?_
   simp only [pS, pN, pA, pC, pZ]
   refine doN (wanted_un rfl rfl rfl rfl) ?_
   simp only [pS, pN, pA, pC, pZ]
   refine doN (wanted_un rfl rfl rfl rfl) ?_
   simp only [pS, pN, pA, pC, pZ]
   refine doN (wanted_un rfl rfl rfl rfl) ?_
   simp only [pS, pN, pA, pC, pZ]
   refine doN (wanted_un rfl rfl rfl rfl) ?_
   simp only [pS, pN, pA, pC, pZ]
   refine doN (wanted_un rfl rfl rfl rfl) ?_
   simp only [pS, pN, pA, pC, pZ]
   refine doN (wanted_no rfl rfl rfl (c := true) rfl (by decide)) ?_
   simp only [pS, pN, pA, pC, pZ]
   refine do_ rfl (.bool true) (ex_pick (b := true) rfl) ?_
   simp only [pS, pN, pA, pC, pZ]
   refine do_ rfl (.bool true) (ex_assign _) ?_
   simp only [pS, pN, pA, pC, pZ]
   refine wl_nil (hK96 _ _ ?_)
   refine region_wl ?_
   refine do_ rfl (.int .i64 ((k : Nat) : Int)) (ex_move _) ?_
   simp only [pS, pN, pA, pC, pZ]
   refine do_ rfl (.int .i64 (((k + 1) : Nat) : Int)) (ex_add (m := ((k : Nat) : Int)) (n := (1 : Int)) (r := (((k + 1) : Nat) : Int)) rfl rfl (by omega) (by omega) (by omega)) ?_
   simp only [pS, pN, pA, pC, pZ]
   refine do_ rfl (.int .i64 (((k + 1) : Nat) : Int)) (ex_assign _) ?_
   simp only [pS, pN, pA, pC, pZ]
   refine wl_nil ?_
   have S118 := St.drop S118 (L' := [⟨n78, [(.int .i64 A.start), (.slice xa72 A.reads.length xc73), (.slice xa74 A.writes.length xc75)], 75⟩, ⟨n59, [(.int .i64 A.start), (.slice xa53 A.reads.length xc54), (.slice xa55 A.writes.length xc56)], 75⟩, ⟨n40, [(.slice xa31 (readP p1).name.length xc32), (.slice xa33 (readP p1).key.length xc34), (.bool (readP p1).wide), (.slice xa35 (readP p1).last.length xc36)], 83⟩, ⟨n19, [(.int .i64 (txO [] l0).start), (.slice xa13 (txO [] l0).reads.length xc14), (.slice xa15 (txO [] l0).writes.length xc16)], 75⟩, ⟨n2, [(.slice a10 p1.name.length c10), (.slice a11 p1.key.length c11), (.slice a12 p1.value.length c12), (.bool p1.gone)], 30⟩]) (.cons _ (List.Sublist.refl _))
   exact hK93 _ _ _ (by omega) ⟨(k + 1), true, _, rfl, rfl, rfl, S118, (by omega), (by rw [any_step hp, ← hh]; rfl)⟩
  | false =>
   by_cases e0 : p.wide = (readP p1).wide
   ·by_cases e1 : p.name = (readP p1).name
    ·by_cases e2 : p.key = (readP p1).key
     ·by_cases e3 : p.last = (readP p1).last
      ·refine region_wl ?_
       refine do_ rfl (.bool false) (ex_move _) ?_
       simp only [pS, pN, pA, pC, pZ]
       refine do_ rfl (.bool false) (ex_move _) ?_
       simp only [pS, pN, pA, pC, pZ]
       refine do_ rfl (.pointer (some ⟨n114, 2, none⟩)) (ex_field (q := ⟨n114, 2, none⟩) rfl (fa_83_2 _ _)) ?_
       simp only [pS, pN, pA, pC, pZ]
       refine do_ rfl (.bool p.wide) (ex_load rfl (load1 (nagg_4 _) (St.cell S118 (i := 0) rfl rfl))) ?_
       simp only [pS, pN, pA, pC, pZ]
       refine do_ rfl (.pointer (some ⟨n40, 2, none⟩)) (ex_field (q := ⟨n40, 2, none⟩) rfl (fa_83_2 _ _)) ?_
       simp only [pS, pN, pA, pC, pZ]
       refine do_ rfl (.bool (readP p1).wide) (ex_load rfl (load1 (nagg_4 _) (St.cell S118 (i := 3) rfl rfl))) ?_
       simp only [pS, pN, pA, pC, pZ]
       refine do_ rfl (.bool true) (ex_eqlB Try.underlying4 rfl rfl (beq_iff_eq.2 e0)) ?_
       simp only [pS, pN, pA, pC, pZ]
       refine do_ rfl (.bool true) (ex_move _) ?_
       simp only [pS, pN, pA, pC, pZ]
       refine do_ rfl (.pointer (some ⟨n114, 0, none⟩)) (ex_field (q := ⟨n114, 0, none⟩) rfl (fa_83_0 _ _)) ?_
       simp only [pS, pN, pA, pC, pZ]
       refine do_ rfl (.slice xa102 p.name.length xc103) (ex_load rfl (load1 (nagg_25 _) (St.cell S118 (i := 0) rfl rfl))) ?_
       simp only [pS, pN, pA, pC, pZ]
       refine do_ rfl (.pointer (some ⟨n40, 0, none⟩)) (ex_field (q := ⟨n40, 0, none⟩) rfl (fa_83_0 _ _)) ?_
       simp only [pS, pN, pA, pC, pZ]
       refine do_ rfl (.slice xa31 (readP p1).name.length xc32) (ex_load rfl (load1 (nagg_25 _) (St.cell S118 (i := 3) rfl rfl))) ?_
       simp only [pS, pN, pA, pC, pZ]
       refine stTells (v := (.bool true)) S118 rfl (ex_fn (vs := #[(.slice xa102 p.name.length xc103), (.slice xa31 (readP p1).name.length xc32)]) (map2 rfl rfl) rfl (ent_31 _ _)) (tells_bool (tells_same (same_spec _ _ _ _ p.name ((readP p1).name) (S118).sat r104 (r37.mono (le49.trans le68)))) (beq_iff_eq.2 (e1))) (fun w119 S120 => ?_)
       simp only [pS, pN, pA, pC, pZ]
       refine do_ rfl (.bool true) (ex_pick (b := true) rfl) ?_
       simp only [pS, pN, pA, pC, pZ]
       refine do_ rfl (.bool true) (ex_move _) ?_
       simp only [pS, pN, pA, pC, pZ]
       refine do_ rfl (.pointer (some ⟨n114, 1, none⟩)) (ex_field (q := ⟨n114, 1, none⟩) rfl (fa_83_1 _ _)) ?_
       simp only [pS, pN, pA, pC, pZ]
       refine do_ rfl (.slice xa106 p.key.length xc107) (ex_load rfl (load1 (nagg_25 _) (St.cell S120 (i := 0) rfl rfl))) ?_
       simp only [pS, pN, pA, pC, pZ]
       refine do_ rfl (.pointer (some ⟨n40, 1, none⟩)) (ex_field (q := ⟨n40, 1, none⟩) rfl (fa_83_1 _ _)) ?_
       simp only [pS, pN, pA, pC, pZ]
       refine do_ rfl (.slice xa33 (readP p1).key.length xc34) (ex_load rfl (load1 (nagg_25 _) (St.cell S120 (i := 3) rfl rfl))) ?_
       simp only [pS, pN, pA, pC, pZ]
       refine stTells (v := (.bool true)) S120 rfl (ex_fn (vs := #[(.slice xa106 p.key.length xc107), (.slice xa33 (readP p1).key.length xc34)]) (map2 rfl rfl) rfl (ent_31 _ _)) (tells_bool (tells_same (same_spec _ _ _ _ p.key ((readP p1).key) (S120).sat r108 (r38.mono (le49.trans le68)))) (beq_iff_eq.2 (e2))) (fun w121 S122 => ?_)
       simp only [pS, pN, pA, pC, pZ]
       refine do_ rfl (.bool true) (ex_pick (b := true) rfl) ?_
       simp only [pS, pN, pA, pC, pZ]
       refine do_ rfl (.bool true) (ex_move _) ?_
       simp only [pS, pN, pA, pC, pZ]
       refine do_ rfl (.pointer (some ⟨n114, 3, none⟩)) (ex_field (q := ⟨n114, 3, none⟩) rfl (fa_83_3 _ _)) ?_
       simp only [pS, pN, pA, pC, pZ]
       refine do_ rfl (.slice xa111 p.last.length xc112) (ex_load rfl (load1 (nagg_25 _) (St.cell S122 (i := 0) rfl rfl))) ?_
       simp only [pS, pN, pA, pC, pZ]
       refine do_ rfl (.pointer (some ⟨n40, 3, none⟩)) (ex_field (q := ⟨n40, 3, none⟩) rfl (fa_83_3 _ _)) ?_
       simp only [pS, pN, pA, pC, pZ]
       refine do_ rfl (.slice xa35 (readP p1).last.length xc36) (ex_load rfl (load1 (nagg_25 _) (St.cell S122 (i := 3) rfl rfl))) ?_
       simp only [pS, pN, pA, pC, pZ]
       refine stTells (v := (.bool true)) S122 rfl (ex_fn (vs := #[(.slice xa111 p.last.length xc112), (.slice xa35 (readP p1).last.length xc36)]) (map2 rfl rfl) rfl (ent_31 _ _)) (tells_bool (tells_same (same_spec _ _ _ _ p.last ((readP p1).last) (S122).sat r113 (r39.mono (le49.trans le68)))) (beq_iff_eq.2 (e3))) (fun w123 S124 => ?_)
       simp only [pS, pN, pA, pC, pZ]
       refine do_ rfl (.bool true) (ex_pick (b := true) rfl) ?_
       simp only [pS, pN, pA, pC, pZ]
       refine do_ rfl (.bool true) (ex_pick (b := false) rfl) ?_
       simp only [pS, pN, pA, pC, pZ]
       refine do_ rfl (.bool true) (ex_assign _) ?_
       simp only [pS, pN, pA, pC, pZ]
       refine wl_nil (hK96 _ _ ?_)
       refine region_wl ?_
       refine do_ rfl (.int .i64 ((k : Nat) : Int)) (ex_move _) ?_
       simp only [pS, pN, pA, pC, pZ]
       refine do_ rfl (.int .i64 (((k + 1) : Nat) : Int)) (ex_add (m := ((k : Nat) : Int)) (n := (1 : Int)) (r := (((k + 1) : Nat) : Int)) rfl rfl (by omega) (by omega) (by omega)) ?_
       simp only [pS, pN, pA, pC, pZ]
       refine do_ rfl (.int .i64 (((k + 1) : Nat) : Int)) (ex_assign _) ?_
       simp only [pS, pN, pA, pC, pZ]
       refine wl_nil ?_
       have S124 := St.drop S124 (L' := [⟨n78, [(.int .i64 A.start), (.slice xa72 A.reads.length xc73), (.slice xa74 A.writes.length xc75)], 75⟩, ⟨n59, [(.int .i64 A.start), (.slice xa53 A.reads.length xc54), (.slice xa55 A.writes.length xc56)], 75⟩, ⟨n40, [(.slice xa31 (readP p1).name.length xc32), (.slice xa33 (readP p1).key.length xc34), (.bool (readP p1).wide), (.slice xa35 (readP p1).last.length xc36)], 83⟩, ⟨n19, [(.int .i64 (txO [] l0).start), (.slice xa13 (txO [] l0).reads.length xc14), (.slice xa15 (txO [] l0).writes.length xc16)], 75⟩, ⟨n2, [(.slice a10 p1.name.length c10), (.slice a11 p1.key.length c11), (.slice a12 p1.value.length c12), (.bool p1.gone)], 30⟩]) (.cons _ (List.Sublist.refl _))
       exact hK93 _ _ _ (by omega) ⟨(k + 1), true, _, rfl, rfl, rfl, S124, (by omega), (by rw [any_step hp, ← hh]; rw [decide_eq_true (rd_ext e0 e1 e2 e3)]; rfl)⟩
      ·refine region_wl ?_
       refine do_ rfl (.bool false) (ex_move _) ?_
       simp only [pS, pN, pA, pC, pZ]
       refine do_ rfl (.bool false) (ex_move _) ?_
       simp only [pS, pN, pA, pC, pZ]
       refine do_ rfl (.pointer (some ⟨n114, 2, none⟩)) (ex_field (q := ⟨n114, 2, none⟩) rfl (fa_83_2 _ _)) ?_
       simp only [pS, pN, pA, pC, pZ]
       refine do_ rfl (.bool p.wide) (ex_load rfl (load1 (nagg_4 _) (St.cell S118 (i := 0) rfl rfl))) ?_
       simp only [pS, pN, pA, pC, pZ]
       refine do_ rfl (.pointer (some ⟨n40, 2, none⟩)) (ex_field (q := ⟨n40, 2, none⟩) rfl (fa_83_2 _ _)) ?_
       simp only [pS, pN, pA, pC, pZ]
       refine do_ rfl (.bool (readP p1).wide) (ex_load rfl (load1 (nagg_4 _) (St.cell S118 (i := 3) rfl rfl))) ?_
       simp only [pS, pN, pA, pC, pZ]
       refine do_ rfl (.bool true) (ex_eqlB Try.underlying4 rfl rfl (beq_iff_eq.2 e0)) ?_
       simp only [pS, pN, pA, pC, pZ]
       refine do_ rfl (.bool true) (ex_move _) ?_
       simp only [pS, pN, pA, pC, pZ]
       refine do_ rfl (.pointer (some ⟨n114, 0, none⟩)) (ex_field (q := ⟨n114, 0, none⟩) rfl (fa_83_0 _ _)) ?_
       simp only [pS, pN, pA, pC, pZ]
       refine do_ rfl (.slice xa102 p.name.length xc103) (ex_load rfl (load1 (nagg_25 _) (St.cell S118 (i := 0) rfl rfl))) ?_
       simp only [pS, pN, pA, pC, pZ]
       refine do_ rfl (.pointer (some ⟨n40, 0, none⟩)) (ex_field (q := ⟨n40, 0, none⟩) rfl (fa_83_0 _ _)) ?_
       simp only [pS, pN, pA, pC, pZ]
       refine do_ rfl (.slice xa31 (readP p1).name.length xc32) (ex_load rfl (load1 (nagg_25 _) (St.cell S118 (i := 3) rfl rfl))) ?_
       simp only [pS, pN, pA, pC, pZ]
       refine stTells (v := (.bool true)) S118 rfl (ex_fn (vs := #[(.slice xa102 p.name.length xc103), (.slice xa31 (readP p1).name.length xc32)]) (map2 rfl rfl) rfl (ent_31 _ _)) (tells_bool (tells_same (same_spec _ _ _ _ p.name ((readP p1).name) (S118).sat r104 (r37.mono (le49.trans le68)))) (beq_iff_eq.2 (e1))) (fun w125 S126 => ?_)
       simp only [pS, pN, pA, pC, pZ]
       refine do_ rfl (.bool true) (ex_pick (b := true) rfl) ?_
       simp only [pS, pN, pA, pC, pZ]
       refine do_ rfl (.bool true) (ex_move _) ?_
       simp only [pS, pN, pA, pC, pZ]
       refine do_ rfl (.pointer (some ⟨n114, 1, none⟩)) (ex_field (q := ⟨n114, 1, none⟩) rfl (fa_83_1 _ _)) ?_
       simp only [pS, pN, pA, pC, pZ]
       refine do_ rfl (.slice xa106 p.key.length xc107) (ex_load rfl (load1 (nagg_25 _) (St.cell S126 (i := 0) rfl rfl))) ?_
       simp only [pS, pN, pA, pC, pZ]
       refine do_ rfl (.pointer (some ⟨n40, 1, none⟩)) (ex_field (q := ⟨n40, 1, none⟩) rfl (fa_83_1 _ _)) ?_
       simp only [pS, pN, pA, pC, pZ]
       refine do_ rfl (.slice xa33 (readP p1).key.length xc34) (ex_load rfl (load1 (nagg_25 _) (St.cell S126 (i := 3) rfl rfl))) ?_
       simp only [pS, pN, pA, pC, pZ]
       refine stTells (v := (.bool true)) S126 rfl (ex_fn (vs := #[(.slice xa106 p.key.length xc107), (.slice xa33 (readP p1).key.length xc34)]) (map2 rfl rfl) rfl (ent_31 _ _)) (tells_bool (tells_same (same_spec _ _ _ _ p.key ((readP p1).key) (S126).sat r108 (r38.mono (le49.trans le68)))) (beq_iff_eq.2 (e2))) (fun w127 S128 => ?_)
       simp only [pS, pN, pA, pC, pZ]
       refine do_ rfl (.bool true) (ex_pick (b := true) rfl) ?_
       simp only [pS, pN, pA, pC, pZ]
       refine do_ rfl (.bool true) (ex_move _) ?_
       simp only [pS, pN, pA, pC, pZ]
       refine do_ rfl (.pointer (some ⟨n114, 3, none⟩)) (ex_field (q := ⟨n114, 3, none⟩) rfl (fa_83_3 _ _)) ?_
       simp only [pS, pN, pA, pC, pZ]
       refine do_ rfl (.slice xa111 p.last.length xc112) (ex_load rfl (load1 (nagg_25 _) (St.cell S128 (i := 0) rfl rfl))) ?_
       simp only [pS, pN, pA, pC, pZ]
       refine do_ rfl (.pointer (some ⟨n40, 3, none⟩)) (ex_field (q := ⟨n40, 3, none⟩) rfl (fa_83_3 _ _)) ?_
       simp only [pS, pN, pA, pC, pZ]
       refine do_ rfl (.slice xa35 (readP p1).last.length xc36) (ex_load rfl (load1 (nagg_25 _) (St.cell S128 (i := 3) rfl rfl))) ?_
       simp only [pS, pN, pA, pC, pZ]
       refine stTells (v := (.bool false)) S128 rfl (ex_fn (vs := #[(.slice xa111 p.last.length xc112), (.slice xa35 (readP p1).last.length xc36)]) (map2 rfl rfl) rfl (ent_31 _ _)) (tells_bool (tells_same (same_spec _ _ _ _ p.last ((readP p1).last) (S128).sat r113 (r39.mono (le49.trans le68)))) (beq_eq_false_iff_ne.2 (e3))) (fun w129 S130 => ?_)
       simp only [pS, pN, pA, pC, pZ]
       refine do_ rfl (.bool false) (ex_pick (b := true) rfl) ?_
       simp only [pS, pN, pA, pC, pZ]
       refine do_ rfl (.bool false) (ex_pick (b := false) rfl) ?_
       simp only [pS, pN, pA, pC, pZ]
       refine do_ rfl (.bool false) (ex_assign _) ?_
       simp only [pS, pN, pA, pC, pZ]
       refine wl_nil (hK96 _ _ ?_)
       refine region_wl ?_
       refine do_ rfl (.int .i64 ((k : Nat) : Int)) (ex_move _) ?_
       simp only [pS, pN, pA, pC, pZ]
       refine do_ rfl (.int .i64 (((k + 1) : Nat) : Int)) (ex_add (m := ((k : Nat) : Int)) (n := (1 : Int)) (r := (((k + 1) : Nat) : Int)) rfl rfl (by omega) (by omega) (by omega)) ?_
       simp only [pS, pN, pA, pC, pZ]
       refine do_ rfl (.int .i64 (((k + 1) : Nat) : Int)) (ex_assign _) ?_
       simp only [pS, pN, pA, pC, pZ]
       refine wl_nil ?_
       have S130 := St.drop S130 (L' := [⟨n78, [(.int .i64 A.start), (.slice xa72 A.reads.length xc73), (.slice xa74 A.writes.length xc75)], 75⟩, ⟨n59, [(.int .i64 A.start), (.slice xa53 A.reads.length xc54), (.slice xa55 A.writes.length xc56)], 75⟩, ⟨n40, [(.slice xa31 (readP p1).name.length xc32), (.slice xa33 (readP p1).key.length xc34), (.bool (readP p1).wide), (.slice xa35 (readP p1).last.length xc36)], 83⟩, ⟨n19, [(.int .i64 (txO [] l0).start), (.slice xa13 (txO [] l0).reads.length xc14), (.slice xa15 (txO [] l0).writes.length xc16)], 75⟩, ⟨n2, [(.slice a10 p1.name.length c10), (.slice a11 p1.key.length c11), (.slice a12 p1.value.length c12), (.bool p1.gone)], 30⟩]) (.cons _ (List.Sublist.refl _))
       exact hK93 _ _ _ (by omega) ⟨(k + 1), false, _, rfl, rfl, rfl, S130, (by omega), (by rw [any_step hp, ← hh]; rw [decide_eq_false (fun e => e3 (by rw [e]))]; rfl)⟩
     ·refine region_wl ?_
      refine do_ rfl (.bool false) (ex_move _) ?_
      simp only [pS, pN, pA, pC, pZ]
      refine do_ rfl (.bool false) (ex_move _) ?_
      simp only [pS, pN, pA, pC, pZ]
      refine do_ rfl (.pointer (some ⟨n114, 2, none⟩)) (ex_field (q := ⟨n114, 2, none⟩) rfl (fa_83_2 _ _)) ?_
      simp only [pS, pN, pA, pC, pZ]
      refine do_ rfl (.bool p.wide) (ex_load rfl (load1 (nagg_4 _) (St.cell S118 (i := 0) rfl rfl))) ?_
      simp only [pS, pN, pA, pC, pZ]
      refine do_ rfl (.pointer (some ⟨n40, 2, none⟩)) (ex_field (q := ⟨n40, 2, none⟩) rfl (fa_83_2 _ _)) ?_
      simp only [pS, pN, pA, pC, pZ]
      refine do_ rfl (.bool (readP p1).wide) (ex_load rfl (load1 (nagg_4 _) (St.cell S118 (i := 3) rfl rfl))) ?_
      simp only [pS, pN, pA, pC, pZ]
      refine do_ rfl (.bool true) (ex_eqlB Try.underlying4 rfl rfl (beq_iff_eq.2 e0)) ?_
      simp only [pS, pN, pA, pC, pZ]
      refine do_ rfl (.bool true) (ex_move _) ?_
      simp only [pS, pN, pA, pC, pZ]
      refine do_ rfl (.pointer (some ⟨n114, 0, none⟩)) (ex_field (q := ⟨n114, 0, none⟩) rfl (fa_83_0 _ _)) ?_
      simp only [pS, pN, pA, pC, pZ]
      refine do_ rfl (.slice xa102 p.name.length xc103) (ex_load rfl (load1 (nagg_25 _) (St.cell S118 (i := 0) rfl rfl))) ?_
      simp only [pS, pN, pA, pC, pZ]
      refine do_ rfl (.pointer (some ⟨n40, 0, none⟩)) (ex_field (q := ⟨n40, 0, none⟩) rfl (fa_83_0 _ _)) ?_
      simp only [pS, pN, pA, pC, pZ]
      refine do_ rfl (.slice xa31 (readP p1).name.length xc32) (ex_load rfl (load1 (nagg_25 _) (St.cell S118 (i := 3) rfl rfl))) ?_
      simp only [pS, pN, pA, pC, pZ]
      refine stTells (v := (.bool true)) S118 rfl (ex_fn (vs := #[(.slice xa102 p.name.length xc103), (.slice xa31 (readP p1).name.length xc32)]) (map2 rfl rfl) rfl (ent_31 _ _)) (tells_bool (tells_same (same_spec _ _ _ _ p.name ((readP p1).name) (S118).sat r104 (r37.mono (le49.trans le68)))) (beq_iff_eq.2 (e1))) (fun w131 S132 => ?_)
      simp only [pS, pN, pA, pC, pZ]
      refine do_ rfl (.bool true) (ex_pick (b := true) rfl) ?_
      simp only [pS, pN, pA, pC, pZ]
      refine do_ rfl (.bool true) (ex_move _) ?_
      simp only [pS, pN, pA, pC, pZ]
      refine do_ rfl (.pointer (some ⟨n114, 1, none⟩)) (ex_field (q := ⟨n114, 1, none⟩) rfl (fa_83_1 _ _)) ?_
      simp only [pS, pN, pA, pC, pZ]
      refine do_ rfl (.slice xa106 p.key.length xc107) (ex_load rfl (load1 (nagg_25 _) (St.cell S132 (i := 0) rfl rfl))) ?_
      simp only [pS, pN, pA, pC, pZ]
      refine do_ rfl (.pointer (some ⟨n40, 1, none⟩)) (ex_field (q := ⟨n40, 1, none⟩) rfl (fa_83_1 _ _)) ?_
      simp only [pS, pN, pA, pC, pZ]
      refine do_ rfl (.slice xa33 (readP p1).key.length xc34) (ex_load rfl (load1 (nagg_25 _) (St.cell S132 (i := 3) rfl rfl))) ?_
      simp only [pS, pN, pA, pC, pZ]
      refine stTells (v := (.bool false)) S132 rfl (ex_fn (vs := #[(.slice xa106 p.key.length xc107), (.slice xa33 (readP p1).key.length xc34)]) (map2 rfl rfl) rfl (ent_31 _ _)) (tells_bool (tells_same (same_spec _ _ _ _ p.key ((readP p1).key) (S132).sat r108 (r38.mono (le49.trans le68)))) (beq_eq_false_iff_ne.2 (e2))) (fun w133 S134 => ?_)
      simp only [pS, pN, pA, pC, pZ]
      refine do_ rfl (.bool false) (ex_pick (b := true) rfl) ?_
      simp only [pS, pN, pA, pC, pZ]
      refine do_ rfl (.bool false) (ex_move _) ?_
      simp only [pS, pN, pA, pC, pZ]
      refine doN (wanted_no rfl rfl rfl (c := false) rfl (by decide)) ?_
      simp only [pS, pN, pA, pC, pZ]
      refine doN (wanted_no rfl rfl rfl (c := false) rfl (by decide)) ?_
      simp only [pS, pN, pA, pC, pZ]
      refine doN (wanted_no rfl rfl rfl (c := false) rfl (by decide)) ?_
      simp only [pS, pN, pA, pC, pZ]
      refine doN (wanted_no rfl rfl rfl (c := false) rfl (by decide)) ?_
      simp only [pS, pN, pA, pC, pZ]
      refine doN (wanted_no rfl rfl rfl (c := false) rfl (by decide)) ?_
      simp only [pS, pN, pA, pC, pZ]
      refine do_ rfl (.bool false) (ex_pick (b := false) rfl) ?_
      simp only [pS, pN, pA, pC, pZ]
      refine do_ rfl (.bool false) (ex_pick (b := false) rfl) ?_
      simp only [pS, pN, pA, pC, pZ]
      refine do_ rfl (.bool false) (ex_assign _) ?_
      simp only [pS, pN, pA, pC, pZ]
      refine wl_nil (hK96 _ _ ?_)
      refine region_wl ?_
      refine do_ rfl (.int .i64 ((k : Nat) : Int)) (ex_move _) ?_
      simp only [pS, pN, pA, pC, pZ]
      refine do_ rfl (.int .i64 (((k + 1) : Nat) : Int)) (ex_add (m := ((k : Nat) : Int)) (n := (1 : Int)) (r := (((k + 1) : Nat) : Int)) rfl rfl (by omega) (by omega) (by omega)) ?_
      simp only [pS, pN, pA, pC, pZ]
      refine do_ rfl (.int .i64 (((k + 1) : Nat) : Int)) (ex_assign _) ?_
      simp only [pS, pN, pA, pC, pZ]
      refine wl_nil ?_
      have S134 := St.drop S134 (L' := [⟨n78, [(.int .i64 A.start), (.slice xa72 A.reads.length xc73), (.slice xa74 A.writes.length xc75)], 75⟩, ⟨n59, [(.int .i64 A.start), (.slice xa53 A.reads.length xc54), (.slice xa55 A.writes.length xc56)], 75⟩, ⟨n40, [(.slice xa31 (readP p1).name.length xc32), (.slice xa33 (readP p1).key.length xc34), (.bool (readP p1).wide), (.slice xa35 (readP p1).last.length xc36)], 83⟩, ⟨n19, [(.int .i64 (txO [] l0).start), (.slice xa13 (txO [] l0).reads.length xc14), (.slice xa15 (txO [] l0).writes.length xc16)], 75⟩, ⟨n2, [(.slice a10 p1.name.length c10), (.slice a11 p1.key.length c11), (.slice a12 p1.value.length c12), (.bool p1.gone)], 30⟩]) (.cons _ (List.Sublist.refl _))
      exact hK93 _ _ _ (by omega) ⟨(k + 1), false, _, rfl, rfl, rfl, S134, (by omega), (by rw [any_step hp, ← hh]; rw [decide_eq_false (fun e => e2 (by rw [e]))]; rfl)⟩
    ·refine region_wl ?_
     refine do_ rfl (.bool false) (ex_move _) ?_
     simp only [pS, pN, pA, pC, pZ]
     refine do_ rfl (.bool false) (ex_move _) ?_
     simp only [pS, pN, pA, pC, pZ]
     refine do_ rfl (.pointer (some ⟨n114, 2, none⟩)) (ex_field (q := ⟨n114, 2, none⟩) rfl (fa_83_2 _ _)) ?_
     simp only [pS, pN, pA, pC, pZ]
     refine do_ rfl (.bool p.wide) (ex_load rfl (load1 (nagg_4 _) (St.cell S118 (i := 0) rfl rfl))) ?_
     simp only [pS, pN, pA, pC, pZ]
     refine do_ rfl (.pointer (some ⟨n40, 2, none⟩)) (ex_field (q := ⟨n40, 2, none⟩) rfl (fa_83_2 _ _)) ?_
     simp only [pS, pN, pA, pC, pZ]
     refine do_ rfl (.bool (readP p1).wide) (ex_load rfl (load1 (nagg_4 _) (St.cell S118 (i := 3) rfl rfl))) ?_
     simp only [pS, pN, pA, pC, pZ]
     refine do_ rfl (.bool true) (ex_eqlB Try.underlying4 rfl rfl (beq_iff_eq.2 e0)) ?_
     simp only [pS, pN, pA, pC, pZ]
     refine do_ rfl (.bool true) (ex_move _) ?_
     simp only [pS, pN, pA, pC, pZ]
     refine do_ rfl (.pointer (some ⟨n114, 0, none⟩)) (ex_field (q := ⟨n114, 0, none⟩) rfl (fa_83_0 _ _)) ?_
     simp only [pS, pN, pA, pC, pZ]
     refine do_ rfl (.slice xa102 p.name.length xc103) (ex_load rfl (load1 (nagg_25 _) (St.cell S118 (i := 0) rfl rfl))) ?_
     simp only [pS, pN, pA, pC, pZ]
     refine do_ rfl (.pointer (some ⟨n40, 0, none⟩)) (ex_field (q := ⟨n40, 0, none⟩) rfl (fa_83_0 _ _)) ?_
     simp only [pS, pN, pA, pC, pZ]
     refine do_ rfl (.slice xa31 (readP p1).name.length xc32) (ex_load rfl (load1 (nagg_25 _) (St.cell S118 (i := 3) rfl rfl))) ?_
     simp only [pS, pN, pA, pC, pZ]
     refine stTells (v := (.bool false)) S118 rfl (ex_fn (vs := #[(.slice xa102 p.name.length xc103), (.slice xa31 (readP p1).name.length xc32)]) (map2 rfl rfl) rfl (ent_31 _ _)) (tells_bool (tells_same (same_spec _ _ _ _ p.name ((readP p1).name) (S118).sat r104 (r37.mono (le49.trans le68)))) (beq_eq_false_iff_ne.2 (e1))) (fun w135 S136 => ?_)
     simp only [pS, pN, pA, pC, pZ]
     refine do_ rfl (.bool false) (ex_pick (b := true) rfl) ?_
     simp only [pS, pN, pA, pC, pZ]
     refine do_ rfl (.bool false) (ex_move _) ?_
     simp only [pS, pN, pA, pC, pZ]
     refine doN (wanted_no rfl rfl rfl (c := false) rfl (by decide)) ?_
     simp only [pS, pN, pA, pC, pZ]
     refine doN (wanted_no rfl rfl rfl (c := false) rfl (by decide)) ?_
     simp only [pS, pN, pA, pC, pZ]
     refine doN (wanted_no rfl rfl rfl (c := false) rfl (by decide)) ?_
     simp only [pS, pN, pA, pC, pZ]
     refine doN (wanted_no rfl rfl rfl (c := false) rfl (by decide)) ?_
     simp only [pS, pN, pA, pC, pZ]
     refine doN (wanted_no rfl rfl rfl (c := false) rfl (by decide)) ?_
     simp only [pS, pN, pA, pC, pZ]
     refine do_ rfl (.bool false) (ex_pick (b := false) rfl) ?_
     simp only [pS, pN, pA, pC, pZ]
     refine do_ rfl (.bool false) (ex_move _) ?_
     simp only [pS, pN, pA, pC, pZ]
     refine doN (wanted_no rfl rfl rfl (c := false) rfl (by decide)) ?_
     simp only [pS, pN, pA, pC, pZ]
     refine doN (wanted_no rfl rfl rfl (c := false) rfl (by decide)) ?_
     simp only [pS, pN, pA, pC, pZ]
     refine doN (wanted_no rfl rfl rfl (c := false) rfl (by decide)) ?_
     simp only [pS, pN, pA, pC, pZ]
     refine doN (wanted_no rfl rfl rfl (c := false) rfl (by decide)) ?_
     simp only [pS, pN, pA, pC, pZ]
     refine doN (wanted_no rfl rfl rfl (c := false) rfl (by decide)) ?_
     simp only [pS, pN, pA, pC, pZ]
     refine do_ rfl (.bool false) (ex_pick (b := false) rfl) ?_
     simp only [pS, pN, pA, pC, pZ]
     refine do_ rfl (.bool false) (ex_pick (b := false) rfl) ?_
     simp only [pS, pN, pA, pC, pZ]
     refine do_ rfl (.bool false) (ex_assign _) ?_
     simp only [pS, pN, pA, pC, pZ]
     refine wl_nil (hK96 _ _ ?_)
     refine region_wl ?_
     refine do_ rfl (.int .i64 ((k : Nat) : Int)) (ex_move _) ?_
     simp only [pS, pN, pA, pC, pZ]
     refine do_ rfl (.int .i64 (((k + 1) : Nat) : Int)) (ex_add (m := ((k : Nat) : Int)) (n := (1 : Int)) (r := (((k + 1) : Nat) : Int)) rfl rfl (by omega) (by omega) (by omega)) ?_
     simp only [pS, pN, pA, pC, pZ]
     refine do_ rfl (.int .i64 (((k + 1) : Nat) : Int)) (ex_assign _) ?_
     simp only [pS, pN, pA, pC, pZ]
     refine wl_nil ?_
     have S136 := St.drop S136 (L' := [⟨n78, [(.int .i64 A.start), (.slice xa72 A.reads.length xc73), (.slice xa74 A.writes.length xc75)], 75⟩, ⟨n59, [(.int .i64 A.start), (.slice xa53 A.reads.length xc54), (.slice xa55 A.writes.length xc56)], 75⟩, ⟨n40, [(.slice xa31 (readP p1).name.length xc32), (.slice xa33 (readP p1).key.length xc34), (.bool (readP p1).wide), (.slice xa35 (readP p1).last.length xc36)], 83⟩, ⟨n19, [(.int .i64 (txO [] l0).start), (.slice xa13 (txO [] l0).reads.length xc14), (.slice xa15 (txO [] l0).writes.length xc16)], 75⟩, ⟨n2, [(.slice a10 p1.name.length c10), (.slice a11 p1.key.length c11), (.slice a12 p1.value.length c12), (.bool p1.gone)], 30⟩]) (.cons _ (List.Sublist.refl _))
     exact hK93 _ _ _ (by omega) ⟨(k + 1), false, _, rfl, rfl, rfl, S136, (by omega), (by rw [any_step hp, ← hh]; rw [decide_eq_false (fun e => e1 (by rw [e]))]; rfl)⟩
   ·refine region_wl ?_
    refine do_ rfl (.bool false) (ex_move _) ?_
    simp only [pS, pN, pA, pC, pZ]
    refine do_ rfl (.bool false) (ex_move _) ?_
    simp only [pS, pN, pA, pC, pZ]
    refine do_ rfl (.pointer (some ⟨n114, 2, none⟩)) (ex_field (q := ⟨n114, 2, none⟩) rfl (fa_83_2 _ _)) ?_
    simp only [pS, pN, pA, pC, pZ]
    refine do_ rfl (.bool p.wide) (ex_load rfl (load1 (nagg_4 _) (St.cell S118 (i := 0) rfl rfl))) ?_
    simp only [pS, pN, pA, pC, pZ]
    refine do_ rfl (.pointer (some ⟨n40, 2, none⟩)) (ex_field (q := ⟨n40, 2, none⟩) rfl (fa_83_2 _ _)) ?_
    simp only [pS, pN, pA, pC, pZ]
    refine do_ rfl (.bool (readP p1).wide) (ex_load rfl (load1 (nagg_4 _) (St.cell S118 (i := 3) rfl rfl))) ?_
    simp only [pS, pN, pA, pC, pZ]
    refine do_ rfl (.bool false) (ex_eqlB Try.underlying4 rfl rfl (beq_eq_false_iff_ne.2 e0)) ?_
    simp only [pS, pN, pA, pC, pZ]
    refine do_ rfl (.bool false) (ex_move _) ?_
    simp only [pS, pN, pA, pC, pZ]
    refine doN (wanted_no rfl rfl rfl (c := false) rfl (by decide)) ?_
    simp only [pS, pN, pA, pC, pZ]
    refine doN (wanted_no rfl rfl rfl (c := false) rfl (by decide)) ?_
    simp only [pS, pN, pA, pC, pZ]
    refine doN (wanted_no rfl rfl rfl (c := false) rfl (by decide)) ?_
    simp only [pS, pN, pA, pC, pZ]
    refine doN (wanted_no rfl rfl rfl (c := false) rfl (by decide)) ?_
    simp only [pS, pN, pA, pC, pZ]
    refine doN (wanted_no rfl rfl rfl (c := false) rfl (by decide)) ?_
    simp only [pS, pN, pA, pC, pZ]
    refine do_ rfl (.bool false) (ex_pick (b := false) rfl) ?_
    simp only [pS, pN, pA, pC, pZ]
    refine do_ rfl (.bool false) (ex_move _) ?_
    simp only [pS, pN, pA, pC, pZ]
    refine doN (wanted_no rfl rfl rfl (c := false) rfl (by decide)) ?_
    simp only [pS, pN, pA, pC, pZ]
    refine doN (wanted_no rfl rfl rfl (c := false) rfl (by decide)) ?_
    simp only [pS, pN, pA, pC, pZ]
    refine doN (wanted_no rfl rfl rfl (c := false) rfl (by decide)) ?_
    simp only [pS, pN, pA, pC, pZ]
    refine doN (wanted_no rfl rfl rfl (c := false) rfl (by decide)) ?_
    simp only [pS, pN, pA, pC, pZ]
    refine doN (wanted_no rfl rfl rfl (c := false) rfl (by decide)) ?_
    simp only [pS, pN, pA, pC, pZ]
    refine do_ rfl (.bool false) (ex_pick (b := false) rfl) ?_
    simp only [pS, pN, pA, pC, pZ]
    refine do_ rfl (.bool false) (ex_move _) ?_
    simp only [pS, pN, pA, pC, pZ]
    refine doN (wanted_no rfl rfl rfl (c := false) rfl (by decide)) ?_
    simp only [pS, pN, pA, pC, pZ]
    refine doN (wanted_no rfl rfl rfl (c := false) rfl (by decide)) ?_
    simp only [pS, pN, pA, pC, pZ]
    refine doN (wanted_no rfl rfl rfl (c := false) rfl (by decide)) ?_
    simp only [pS, pN, pA, pC, pZ]
    refine doN (wanted_no rfl rfl rfl (c := false) rfl (by decide)) ?_
    simp only [pS, pN, pA, pC, pZ]
    refine doN (wanted_no rfl rfl rfl (c := false) rfl (by decide)) ?_
    simp only [pS, pN, pA, pC, pZ]
    refine do_ rfl (.bool false) (ex_pick (b := false) rfl) ?_
    simp only [pS, pN, pA, pC, pZ]
    refine do_ rfl (.bool false) (ex_pick (b := false) rfl) ?_
    simp only [pS, pN, pA, pC, pZ]
    refine do_ rfl (.bool false) (ex_assign _) ?_
    simp only [pS, pN, pA, pC, pZ]
    refine wl_nil (hK96 _ _ ?_)
    refine region_wl ?_
    refine do_ rfl (.int .i64 ((k : Nat) : Int)) (ex_move _) ?_
    simp only [pS, pN, pA, pC, pZ]
    refine do_ rfl (.int .i64 (((k + 1) : Nat) : Int)) (ex_add (m := ((k : Nat) : Int)) (n := (1 : Int)) (r := (((k + 1) : Nat) : Int)) rfl rfl (by omega) (by omega) (by omega)) ?_
    simp only [pS, pN, pA, pC, pZ]
    refine do_ rfl (.int .i64 (((k + 1) : Nat) : Int)) (ex_assign _) ?_
    simp only [pS, pN, pA, pC, pZ]
    refine wl_nil ?_
    have S118 := St.drop S118 (L' := [⟨n78, [(.int .i64 A.start), (.slice xa72 A.reads.length xc73), (.slice xa74 A.writes.length xc75)], 75⟩, ⟨n59, [(.int .i64 A.start), (.slice xa53 A.reads.length xc54), (.slice xa55 A.writes.length xc56)], 75⟩, ⟨n40, [(.slice xa31 (readP p1).name.length xc32), (.slice xa33 (readP p1).key.length xc34), (.bool (readP p1).wide), (.slice xa35 (readP p1).last.length xc36)], 83⟩, ⟨n19, [(.int .i64 (txO [] l0).start), (.slice xa13 (txO [] l0).reads.length xc14), (.slice xa15 (txO [] l0).writes.length xc16)], 75⟩, ⟨n2, [(.slice a10 p1.name.length c10), (.slice a11 p1.key.length c11), (.slice a12 p1.value.length c12), (.bool p1.gone)], 30⟩]) (.cons _ (List.Sublist.refl _))
    exact hK93 _ _ _ (by omega) ⟨(k + 1), false, _, rfl, rfl, rfl, S118, (by omega), (by rw [any_step hp, ← hh]; rw [decide_eq_false (fun e => e0 (by rw [e]))]; rfl)⟩
 ·refine do_ rfl (.bool false) (ex_lss (m := ((k : Nat) : Int)) (n := (((txO [] l0).reads.length : Nat) : Int)) (b := false) rfl rfl (decide_eq_false (by omega))) ?_
  simp only [pS, pN, pA, pC, pZ]
  refine wl_nil (hK95 _ _ ?_)
  refine wp_cond_false rfl ?_
  refine wp_exit ?_
  refine hK84 _ _ ?_
  refine wp_seq_k (fun K137 hK137 => region_wl ?_)
  refine do_ rfl (.pointer (some ⟨n19, 1, none⟩)) (ex_field (q := ⟨n19, 1, none⟩) rfl (fa_75_1 _ _)) ?_
  simp only [pS, pN, pA, pC, pZ]
  refine do_ rfl (.slice xa13 (txO [] l0).reads.length xc14) (ex_load rfl (load1 (nagg_73 _) (St.cell S91 (i := 3) rfl rfl))) ?_
  simp only [pS, pN, pA, pC, pZ]
  refine do_ rfl (.int .i64 (((txO [] l0).reads.length : Nat) : Int)) (ex_len Try.underlying73 rfl) ?_
  simp only [pS, pN, pA, pC, pZ]
  refine do_ rfl (.int .i64 (((txO [] l0).reads.length : Nat) : Int)) (ex_assign _) ?_
  simp only [pS, pN, pA, pC, pZ]
  refine wl_nil (hK137 _ _ ?_)
  refine wp_seq_k (fun K138 hK138 => ?_)
  refine wp_seq_k (fun K139 hK139 => ?_)
  have hend : (txO [] l0).reads.take k = (txO [] l0).reads := List.take_of_length_le (by omega)
  rw [hend, any_mem] at hh
  cases h with
  | true =>
   rw [if_pos (of_decide_eq_true hh.symm)] at hAl
   refine region_wl ?_
   refine do_ rfl (.bool true) (ex_move _) ?_
   simp only [pS, pN, pA, pC, pZ]
   refine do_ rfl (.bool false) (ex_not (b := true) rfl rfl) ?_
   simp only [pS, pN, pA, pC, pZ]
   refine wl_nil (hK139 _ _ ?_)
   refine wp_cond_false rfl ?_
   refine wp_skip ?_
   refine hK138 _ _ ?_
   refine wp_seq_k (fun K140 hK140 => region_wl ?_)
   refine do_ rfl (.bool true) (ex_move _) ?_
   simp only [pS, pN, pA, pC, pZ]
   refine do_ rfl (.bool true) (ex_move _) ?_
   simp only [pS, pN, pA, pC, pZ]
   refine do_ rfl (.int .i64 0) (ex_move _) ?_
   simp only [pS, pN, pA, pC, pZ]
   refine do_ rfl (.bool true) (ex_eql (b := true) rfl rfl (by decide)) ?_
   simp only [pS, pN, pA, pC, pZ]
   refine do_ rfl (.bool true) (ex_pick (b := true) rfl) ?_
   simp only [pS, pN, pA, pC, pZ]
   refine do_ rfl (.bool true) (ex_move _) ?_
   simp only [pS, pN, pA, pC, pZ]
   refine do_ rfl (.int .i64 0) (ex_move _) ?_
   simp only [pS, pN, pA, pC, pZ]
   refine do_ rfl (.bool true) (ex_eql (b := true) rfl rfl (by decide)) ?_
   simp only [pS, pN, pA, pC, pZ]
   refine do_ rfl (.bool true) (ex_pick (b := true) rfl) ?_
   simp only [pS, pN, pA, pC, pZ]
   refine do_ rfl (.bool true) (ex_move _) ?_
   simp only [pS, pN, pA, pC, pZ]
   refine do_ rfl (.pointer (some ⟨n59, 1, none⟩)) (ex_field (q := ⟨n59, 1, none⟩) rfl (fa_75_1 _ _)) ?_
   simp only [pS, pN, pA, pC, pZ]
   refine do_ rfl (.slice xa53 A.reads.length xc54) (ex_load rfl (load1 (nagg_73 _) (St.cell S91 (i := 1) rfl rfl))) ?_
   simp only [pS, pN, pA, pC, pZ]
   refine do_ rfl (.int .i64 ((A.reads.length : Nat) : Int)) (ex_len Try.underlying73 rfl) ?_
   simp only [pS, pN, pA, pC, pZ]
   refine do_ rfl (.int .i64 (((txO [] l0).reads.length : Nat) : Int)) (ex_move _) ?_
   simp only [pS, pN, pA, pC, pZ]
   refine do_ rfl (.bool true) (ex_eql (m := ((A.reads.length : Nat) : Int)) (n := (((txO [] l0).reads.length : Nat) : Int)) (b := true) rfl rfl (beq_iff_eq.2 (by omega))) ?_
   simp only [pS, pN, pA, pC, pZ]
   refine do_ rfl (.bool true) (ex_pick (b := true) rfl) ?_
   simp only [pS, pN, pA, pC, pZ]
   refine do_ rfl (.bool true) (ex_move _) ?_
   simp only [pS, pN, pA, pC, pZ]
   refine do_ rfl (.pointer (some ⟨n78, 1, none⟩)) (ex_field (q := ⟨n78, 1, none⟩) rfl (fa_75_1 _ _)) ?_
   simp only [pS, pN, pA, pC, pZ]
   refine do_ rfl (.slice xa72 A.reads.length xc73) (ex_load rfl (load1 (nagg_73 _) (St.cell S91 (i := 0) rfl rfl))) ?_
   simp only [pS, pN, pA, pC, pZ]
   refine do_ rfl (.int .i64 ((A.reads.length : Nat) : Int)) (ex_len Try.underlying73 rfl) ?_
   simp only [pS, pN, pA, pC, pZ]
   refine do_ rfl (.int .i64 (((txO [] l0).reads.length : Nat) : Int)) (ex_move _) ?_
   simp only [pS, pN, pA, pC, pZ]
   refine do_ rfl (.bool true) (ex_eql (m := ((A.reads.length : Nat) : Int)) (n := (((txO [] l0).reads.length : Nat) : Int)) (b := true) rfl rfl (beq_iff_eq.2 (by omega))) ?_
   simp only [pS, pN, pA, pC, pZ]
   refine do_ rfl (.bool true) (ex_pick (b := true) rfl) ?_
   simp only [pS, pN, pA, pC, pZ]
   refine do_ rfl (.bool true) (ex_assign _) ?_
   simp only [pS, pN, pA, pC, pZ]
   refine wl_nil (hK140 _ _ ?_)
   refine wp_ret ?_
   (try simp only [Exit.then, Exit.inBlock, ↓reduceIte, Nat.reduceEqDiff])
   refine bodyPost_ret (v := (.bool true)) ?_ rfl ?_
   ·exact res_t rfl rfl
   ·exact ⟨rfl, S91.gr.below⟩
  | false =>
   rw [if_neg (of_decide_eq_false hh.symm)] at hAl
   refine region_wl ?_
   refine do_ rfl (.bool false) (ex_move _) ?_
   simp only [pS, pN, pA, pC, pZ]
   refine do_ rfl (.bool true) (ex_not (b := false) rfl rfl) ?_
   simp only [pS, pN, pA, pC, pZ]
   refine wl_nil (hK139 _ _ ?_)
   refine wp_cond_true rfl ?_
   refine region_wl ?_
   refine do_ rfl (.int .i64 (((txO [] l0).reads.length : Nat) : Int)) (ex_move _) ?_
   simp only [pS, pN, pA, pC, pZ]
   refine do_ rfl (.int .i64 ((((txO [] l0).reads.length + 1) : Nat) : Int)) (ex_add (m := (((txO [] l0).reads.length : Nat) : Int)) (n := (1 : Int)) (r := ((((txO [] l0).reads.length + 1) : Nat) : Int)) rfl rfl (by omega) (by omega) (by omega)) ?_
   simp only [pS, pN, pA, pC, pZ]
   refine do_ rfl (.int .i64 ((((txO [] l0).reads.length + 1) : Nat) : Int)) (ex_assign _) ?_
   simp only [pS, pN, pA, pC, pZ]
   refine wl_nil (hK138 _ _ ?_)
   refine wp_seq_k (fun K141 hK141 => region_wl ?_)
   refine do_ rfl (.bool true) (ex_move _) ?_
   simp only [pS, pN, pA, pC, pZ]
   refine do_ rfl (.bool true) (ex_move _) ?_
   simp only [pS, pN, pA, pC, pZ]
   refine do_ rfl (.int .i64 0) (ex_move _) ?_
   simp only [pS, pN, pA, pC, pZ]
   refine do_ rfl (.bool true) (ex_eql (b := true) rfl rfl (by decide)) ?_
   simp only [pS, pN, pA, pC, pZ]
   refine do_ rfl (.bool true) (ex_pick (b := true) rfl) ?_
   simp only [pS, pN, pA, pC, pZ]
   refine do_ rfl (.bool true) (ex_move _) ?_
   simp only [pS, pN, pA, pC, pZ]
   refine do_ rfl (.int .i64 0) (ex_move _) ?_
   simp only [pS, pN, pA, pC, pZ]
   refine do_ rfl (.bool true) (ex_eql (b := true) rfl rfl (by decide)) ?_
   simp only [pS, pN, pA, pC, pZ]
   refine do_ rfl (.bool true) (ex_pick (b := true) rfl) ?_
   simp only [pS, pN, pA, pC, pZ]
   refine do_ rfl (.bool true) (ex_move _) ?_
   simp only [pS, pN, pA, pC, pZ]
   refine do_ rfl (.pointer (some ⟨n59, 1, none⟩)) (ex_field (q := ⟨n59, 1, none⟩) rfl (fa_75_1 _ _)) ?_
   simp only [pS, pN, pA, pC, pZ]
   refine do_ rfl (.slice xa53 A.reads.length xc54) (ex_load rfl (load1 (nagg_73 _) (St.cell S91 (i := 1) rfl rfl))) ?_
   simp only [pS, pN, pA, pC, pZ]
   refine do_ rfl (.int .i64 ((A.reads.length : Nat) : Int)) (ex_len Try.underlying73 rfl) ?_
   simp only [pS, pN, pA, pC, pZ]
   refine do_ rfl (.int .i64 ((((txO [] l0).reads.length + 1) : Nat) : Int)) (ex_move _) ?_
   simp only [pS, pN, pA, pC, pZ]
   refine do_ rfl (.bool true) (ex_eql (m := ((A.reads.length : Nat) : Int)) (n := ((((txO [] l0).reads.length + 1) : Nat) : Int)) (b := true) rfl rfl (beq_iff_eq.2 (by omega))) ?_
   simp only [pS, pN, pA, pC, pZ]
   refine do_ rfl (.bool true) (ex_pick (b := true) rfl) ?_
   simp only [pS, pN, pA, pC, pZ]
   refine do_ rfl (.bool true) (ex_move _) ?_
   simp only [pS, pN, pA, pC, pZ]
   refine do_ rfl (.pointer (some ⟨n78, 1, none⟩)) (ex_field (q := ⟨n78, 1, none⟩) rfl (fa_75_1 _ _)) ?_
   simp only [pS, pN, pA, pC, pZ]
   refine do_ rfl (.slice xa72 A.reads.length xc73) (ex_load rfl (load1 (nagg_73 _) (St.cell S91 (i := 0) rfl rfl))) ?_
   simp only [pS, pN, pA, pC, pZ]
   refine do_ rfl (.int .i64 ((A.reads.length : Nat) : Int)) (ex_len Try.underlying73 rfl) ?_
   simp only [pS, pN, pA, pC, pZ]
   refine do_ rfl (.int .i64 ((((txO [] l0).reads.length + 1) : Nat) : Int)) (ex_move _) ?_
   simp only [pS, pN, pA, pC, pZ]
   refine do_ rfl (.bool true) (ex_eql (m := ((A.reads.length : Nat) : Int)) (n := ((((txO [] l0).reads.length + 1) : Nat) : Int)) (b := true) rfl rfl (beq_iff_eq.2 (by omega))) ?_
   simp only [pS, pN, pA, pC, pZ]
   refine do_ rfl (.bool true) (ex_pick (b := true) rfl) ?_
   simp only [pS, pN, pA, pC, pZ]
   refine do_ rfl (.bool true) (ex_assign _) ?_
   simp only [pS, pN, pA, pC, pZ]
   refine wl_nil (hK141 _ _ ?_)
   refine wp_ret ?_
   (try simp only [Exit.then, Exit.inBlock, ↓reduceIte, Nat.reduceEqDiff])
   refine bodyPost_ret (v := (.bool true)) ?_ rfl ?_
   ·exact res_t rfl rfl
   ·exact ⟨rfl, S91.gr.below⟩
end Go.Proofs.Ytcpngkkconalhaa
