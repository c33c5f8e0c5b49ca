/- The walk of TxnTwice -/
import Derived.Test.YtcpngkkconalhaaBU13
import Derived.Test.YtcpngkkconalhaaBU12
namespace Go.Proofs.Ytcpngkkconalhaa
open Go.RowKit
set_option maxRecDepth 100000
set_option linter.unusedVariables false
set_option linter.unusedSimpArgs false
theorem wrsAt_twice {W : List Wr} {x : Wr} (hok : ∀ w ∈ W, wrE w = 0) (hd : W.Pairwise fun a b => samePl a b = false) (hx : x ∈ W) : ∀ n k, n + k = W.length + 1 → k ≤ W.length → wrsAt (W ++ [x]) n k = 3
  | 0, k, h, hk => by omega
  | n + 1, k, h, hk => by
    rcases Nat.lt_or_eq_of_le hk with hk | rfl
    · have hp : (W ++ [x])[k]? = some W[k] := by rw [List.getElem?_append_left hk, List.getElem?_eq_getElem hk]
      have ha : ((W ++ [x]).take k).any (fun q => samePl q W[k]) = false := by
        rw [List.take_append_of_le_length (by omega)]
        exact any_take.2 fun j q hj hq => by
          obtain ⟨hj', rfl⟩ := List.getElem?_eq_some_iff.1 hq
          have := List.pairwise_iff_getElem.1 hd j k hj' hk hj
          exact this
      simp only [wrsAt, hp]
      rw [if_neg (by rw [hok _ (List.getElem_mem hk)]; simp), if_neg (by rw [ha]; simp)]
      exact wrsAt_twice hok hd hx n (k + 1) (by omega) (by omega)
    · have hp : (W ++ [x])[W.length]? = some x := by simp
      have ha : ((W ++ [x]).take W.length).any (fun q => samePl q x) = true := by
        rw [List.take_append_of_le_length (by omega), List.take_length]
        exact List.any_eq_true.2 ⟨x, hx, by simp [samePl]⟩
      simp only [wrsAt, hp]
      rw [if_neg (by rw [hok _ hx]; simp), if_pos ha]
theorem rdsAt_twice {W : List Rd} {x : Rd} (hok : ∀ w ∈ W, rdE w = 0) (hd : W.Pairwise fun a b => a ≠ b) (hx : x ∈ W) : ∀ n k, n + k = W.length + 1 → k ≤ W.length → rdsAt (W ++ [x]) n k = 3
  | 0, k, h, hk => by omega
  | n + 1, k, h, hk => by
    rcases Nat.lt_or_eq_of_le hk with hk | rfl
    · have hp : (W ++ [x])[k]? = some W[k] := by rw [List.getElem?_append_left hk, List.getElem?_eq_getElem hk]
      have ha : ((W ++ [x]).take k).any (fun q => decide (q = W[k])) = false := by
        rw [List.take_append_of_le_length (by omega)]
        exact any_take.2 fun j q hj hq => by
          obtain ⟨hj', rfl⟩ := List.getElem?_eq_some_iff.1 hq
          have := List.pairwise_iff_getElem.1 hd j k hj' hk hj
          exact decide_eq_false this
      simp only [rdsAt, hp]
      rw [if_neg (by rw [hok _ (List.getElem_mem hk)]; simp), if_neg (by rw [ha]; simp)]
      exact rdsAt_twice hok hd hx n (k + 1) (by omega) (by omega)
    · have hp : (W ++ [x])[W.length]? = some x := by simp
      have ha : ((W ++ [x]).take W.length).any (fun q => decide (q = x)) = true := by
        rw [List.take_append_of_le_length (by omega), List.take_length]
        exact List.any_eq_true.2 ⟨x, hx, by simp⟩
      simp only [rdsAt, hp]
      rw [if_neg (by rw [hok _ hx]; simp), if_pos ha]
theorem tx_twiceW {t : Tx} (h : TxOk t) {x : Wr} (hx : x ∈ t.writes) (hl : t.writes.length < 10) : txE ⟨t.start, t.reads, t.writes ++ [x]⟩ = 3 := by
  have h0 := txE_ok.2 h
  have hs := h.start; have hr := h.nr
  unfold txE at h0 ⊢
  rw [if_neg (by omega), if_neg (by omega)] at h0
  have hrd : rdsAt t.reads t.reads.length 0 = 0 := by
    by_cases hz : rdsAt t.reads t.reads.length 0 = 0
    · exact hz
    · rw [if_pos hz] at h0; exact absurd h0 hz
  rw [if_neg (by simp only; omega), if_neg (by simp; omega), if_neg (by simpa using hrd)]
  simp only [List.length_append, List.length_singleton]
  exact wrsAt_twice (fun w hw => wrE_ok.2 (h.writes w hw)) h.wdiff hx _ 0 (by omega) (Nat.zero_le _)
theorem tx_twiceR {t : Tx} (h : TxOk t) {x : Rd} (hx : x ∈ t.reads) (hl : t.reads.length < 20) : txE ⟨t.start, t.reads ++ [x], t.writes⟩ = 3 := by
  have hs := h.start; have hw := h.nw
  have hr : rdsAt (t.reads ++ [x]) (t.reads ++ [x]).length 0 = 3 := by
    simp only [List.length_append, List.length_singleton]
    exact rdsAt_twice (fun w hw => rdE_ok.2 (h.reads w hw)) h.rdiff hx _ 0 (by omega) (Nat.zero_le _)
  unfold txE
  rw [if_neg (by simp only; omega), if_neg (by simp; omega), if_pos (by simp only [hr]; decide)]
  exact hr
theorem txnCheckIs_spec (F : Fz) (w : World) (v : Value) (t : Tx) {e : Int} (hs : Sat w F) (hv : TxV F v t) (hbw : ∀ r ∈ t.writes, r.name.length ≤ 100000 ∧ r.key.length ≤ 100000 ∧ r.value.length ≤ 100000) (h : txE t = e) :
    Calls Try.prog 51 #[v] w (Tells w (.int .i64 e)) := by
  subst h; exact txnCheck_spec F w v t hs hv hbw
theorem lookBadIs_spec (F : Fz) (w : World) (u v y z : Value) (l : Forest) (t : Tx) (n k : By) (hs : Sat w F) (hl : Tns F u l) (hv : TxV F v t) (hn : Bs F y n) (hk : Bs F z k) (hbw : ∀ r ∈ t.writes, r.name.length ≤ 100000 ∧ r.key.length ≤ 100000 ∧ r.value.length ≤ 100000) (h : bothE l t = 3) :
    Calls Try.prog 48 #[u, v, y, z] w (Gives w F (LookR none false 3)) := by
  have := lookBad_spec F w u v y z l t n k hs hl hv hn hk hbw (by rw [h]; decide)
  rwa [h] at this
theorem clashBad_spec (F : Fz) (w : World) (v u : Value) (t : Tx) (cs : List Cm) (hs : Sat w F) (hv : TxV F v t) (hl : Cms F u cs) (hcs : ∀ c ∈ cs, c.writes.length ≤ 100000) (hbw : ∀ r ∈ t.writes, r.name.length ≤ 100000 ∧ r.key.length ≤ 100000 ∧ r.value.length ≤ 100000) (h : txE t = 3) :
    Calls Try.prog 47 #[v, u] w (Tells w (.tuple #[.bool false, .int .i64 3])) := by
  have := clash_spec F w v u t cs hs hv hl hcs hbw
  unfold clashE at this
  rw [h, if_pos (by decide)] at this
  exact this
theorem bothNil {t : Tx} : bothE [] t = txE t := by unfold bothE; rw [if_neg (by decide)]
set_option maxHeartbeats 8000000 in
theorem txnTwice_walk (W : World) (v0 : Value) (l0 : List Pl) (z0 : Pls (whole W) v0 l0) (v1 : Value) (l1 : List Pl) (z1 : Pls (whole W) v1 l1) (x2 : Int) (b2 : -9223372036854775808 ≤ x2) (b2' : x2 ≤ 9223372036854775807) :
    Calls Try.prog 17 #[v0, v1, .int .i64 x2] W (Tells W (.bool true)) := by
 obtain ⟨a0, c0, rfl, q0, q0'⟩ := Sl.shape z0
 obtain ⟨a1, c1, rfl, q1, q1'⟩ := Sl.shape z1
 obtain ⟨i27, hi27, hz27, hs27, hb27⟩ := info_parts info_27
 obtain ⟨i83, hi83, hz83, hs83, hb83⟩ := info_parts info_83
 have S := St.start (Sat.whole W)
 go_enter Try.func17, Try.ntmps17
 refine wp_seq_k (fun K101 hK101 => region_wl ?_)
 refine do_ rfl (.bool false) (ex_assign _) ?_
 simp only [pS, pN, pA, pC, pZ]
 refine wl_nil (hK101 _ _ ?_)
 refine wp_seq_k (fun K102 hK102 => region_wl ?_)
 refine do_ rfl (.slice a0 l0.length c0) (ex_move _) ?_
 simp only [pS, pN, pA, pC, pZ]
 refine do_ rfl (.slice a1 l1.length c1) (ex_move _) ?_
 simp only [pS, pN, pA, pC, pZ]
 refine stGives S rfl (ex_fn (vs := #[(.slice a0 l0.length c0), (.slice a1 l1.length c1)]) (map2 rfl rfl) rfl (ent_41 _ _)) (txnOf_spec _ _ _ _ l0 l1 (S).sat z0 z1) ?_
 intro v108 w103 F105 S104 le106 R107
 obtain ⟨_, rfl, R109⟩ := R107
 obtain ⟨xa110, xc111, xa112, xc113, rfl, r114, r115⟩ := R109
 simp only [pS, pN, pA, pC, pZ]
 refine do_ rfl (.tuple #[(.agg #[(.int .i64 (txO l0 l1).start), (.slice xa110 (txO l0 l1).reads.length xc111), (.slice xa112 (txO l0 l1).writes.length xc113)]), (.bool true)]) (ex_move _) ?_
 simp only [pS, pN, pA, pC, pZ]
 refine do_ rfl (.agg #[(.int .i64 (txO l0 l1).start), (.slice xa110 (txO l0 l1).reads.length xc111), (.slice xa112 (txO l0 l1).writes.length xc113)]) (ex_extract rfl rfl) ?_
 simp only [pS, pN, pA, pC, pZ]
 refine do_ rfl (.bool true) (ex_extract rfl rfl) ?_
 simp only [pS, pN, pA, pC, pZ]
 refine stNew S104 (v := fun n => .pointer (some ⟨n, 0, none⟩)) rfl (ex_alloc (zero_75 _)) (fun n116 w117 S118 => ?_)
 simp only [pS, pN, pA, pC, pZ]
 have S118 : St W (whole W) w117 F105 [⟨n116, [(.int .i64 0), (.slice none 0 0), (.slice none 0 0)], 75⟩] [] := S118
 refine stStore (i := 0) (v := (.agg #[(.int .i64 (txO l0 l1).start), (.slice xa110 (txO l0 l1).reads.length xc111), (.slice xa112 (txO l0 l1).writes.length xc113)])) S118 rfl rfl rfl rfl (size_75) (allc3 rfl rfl rfl) (Nat.le_of_ble_eq_true rfl) (fun w119 S120 => ?_)
 simp only [pS, pN, pA, pC, pZ]
 have S120 : St W (whole W) w119 F105 [⟨n116, [(.int .i64 (txO l0 l1).start), (.slice xa110 (txO l0 l1).reads.length xc111), (.slice xa112 (txO l0 l1).writes.length xc113)], 75⟩] [] := S120
 refine do_ rfl (.bool true) (ex_assign _) ?_
 simp only [pS, pN, pA, pC, pZ]
 refine wl_nil (hK102 _ _ ?_)
 refine wp_seq_k (fun K121 hK121 => ?_)
 refine wp_seq_k (fun K122 hK122 => ?_)
 have hT := txO_ok l0 l1
 refine region_wl ?_
 refine do_ rfl (.bool true) (ex_move _) ?_
 simp only [pS, pN, pA, pC, pZ]
 refine do_ rfl (.bool false) (ex_not (b := true) rfl rfl) ?_
 simp only [pS, pN, pA, pC, pZ]
 refine do_ rfl (.bool false) (ex_move _) ?_
 simp only [pS, pN, pA, pC, pZ]
 refine do_ rfl (.pointer (some ⟨n116, 2, none⟩)) (ex_field (q := ⟨n116, 2, none⟩) rfl (fa_75_2 _ _)) ?_
 simp only [pS, pN, pA, pC, pZ]
 refine do_ rfl (.slice xa112 (txO l0 l1).writes.length xc113) (ex_load rfl (load1 (nagg_44 _) (St.cell S120 (i := 0) rfl rfl))) ?_
 simp only [pS, pN, pA, pC, pZ]
 refine do_ rfl (.int .i64 (((txO l0 l1).writes.length : Nat) : Int)) (ex_len Try.underlying44 rfl) ?_
 simp only [pS, pN, pA, pC, pZ]
 by_cases hc28 : (txO l0 l1).writes.length = 0
 ·refine do_ rfl (.bool true) (ex_eql (m := (((txO l0 l1).writes.length : Nat) : Int)) (n := (0 : Int)) (b := true) rfl rfl (beq_iff_eq.2 (by omega))) ?_
  simp only [pS, pN, pA, pC, pZ]
  refine do_ rfl (.bool true) (ex_pick (b := false) rfl) ?_
  simp only [pS, pN, pA, pC, pZ]
  refine do_ rfl (.bool true) (ex_move _) ?_
  simp only [pS, pN, pA, pC, pZ]
  refine doN (wanted_no rfl rfl rfl (c := true) rfl (by decide)) ?_
  simp only [pS, pN, pA, pC, pZ]
  refine doN (wanted_no rfl rfl rfl (c := true) rfl (by decide)) ?_
  simp only [pS, pN, pA, pC, pZ]
  refine doN (wanted_no rfl rfl rfl (c := true) rfl (by decide)) ?_
  simp only [pS, pN, pA, pC, pZ]
  refine doN (wanted_no rfl rfl rfl (c := true) rfl (by decide)) ?_
  simp only [pS, pN, pA, pC, pZ]
  refine do_ rfl (.bool true) (ex_pick (b := true) rfl) ?_
  simp only [pS, pN, pA, pC, pZ]
  refine wl_nil (hK122 _ _ ?_)
  refine wp_cond_true rfl ?_
  refine wp_seq_k (fun K123 hK123 => region_wl ?_)
  refine do_ rfl (.bool true) (ex_move _) ?_
  simp only [pS, pN, pA, pC, pZ]
  refine do_ rfl (.bool true) (ex_move _) ?_
  simp only [pS, pN, pA, pC, pZ]
  refine do_ rfl (.agg #[(.int .i64 (-1)), (.slice none 0 0), (.slice none 0 0)]) (ex_build (ps := #[(0, (.int .i64 (-1)))]) (bmap1 rfl) (by kernel_rfl)) ?_
  simp only [pS, pN, pA, pC, pZ]
  refine stTells (v := (.int .i64 2)) S120 rfl (ex_fn (vs := #[(.agg #[(.int .i64 (-1)), (.slice none 0 0), (.slice none 0 0)])]) (map1 rfl) rfl (ent_51 _ _)) (txnCheckIs_spec _ _ _ (⟨-1, [], []⟩ : Tx) (S120).sat ⟨none, 0, none, 0, rfl, Sl.nil _ _ _, Sl.nil _ _ _⟩ (by simp) rfl) (fun w124 S125 => ?_)
  simp only [pS, pN, pA, pC, pZ]
  refine do_ rfl (.bool true) (ex_eql (b := true) rfl rfl (by decide)) ?_
  simp only [pS, pN, pA, pC, pZ]
  refine do_ rfl (.bool true) (ex_pick (b := true) rfl) ?_
  simp only [pS, pN, pA, pC, pZ]
  refine do_ rfl (.bool true) (ex_assign _) ?_
  simp only [pS, pN, pA, pC, pZ]
  refine wl_nil (hK123 _ _ ?_)
  refine wp_ret ?_
  (try simp only [Exit.then, Exit.inBlock, ↓reduceIte, Nat.reduceEqDiff])
  refine bodyPost_ret (v := (.bool true)) ?_ rfl ?_
  ·exact res_t rfl rfl
  ·exact ⟨rfl, S125.gr.below⟩
 ·refine do_ rfl (.bool false) (ex_eql (m := (((txO l0 l1).writes.length : Nat) : Int)) (n := (0 : Int)) (b := false) rfl rfl (beq_eq_false_iff_ne.2 (by omega))) ?_
  simp only [pS, pN, pA, pC, pZ]
  refine do_ rfl (.bool false) (ex_pick (b := false) rfl) ?_
  simp only [pS, pN, pA, pC, pZ]
  refine do_ rfl (.bool false) (ex_move _) ?_
  simp only [pS, pN, pA, pC, pZ]
  refine do_ rfl (.pointer (some ⟨n116, 1, none⟩)) (ex_field (q := ⟨n116, 1, none⟩) rfl (fa_75_1 _ _)) ?_
  simp only [pS, pN, pA, pC, pZ]
  refine do_ rfl (.slice xa110 (txO l0 l1).reads.length xc111) (ex_load rfl (load1 (nagg_73 _) (St.cell S120 (i := 0) rfl rfl))) ?_
  simp only [pS, pN, pA, pC, pZ]
  refine do_ rfl (.int .i64 (((txO l0 l1).reads.length : Nat) : Int)) (ex_len Try.underlying73 rfl) ?_
  simp only [pS, pN, pA, pC, pZ]
  by_cases hc34 : (txO l0 l1).reads.length = 0
  ·refine do_ rfl (.bool true) (ex_eql (m := (((txO l0 l1).reads.length : Nat) : Int)) (n := (0 : Int)) (b := true) rfl rfl (beq_iff_eq.2 (by omega))) ?_
   simp only [pS, pN, pA, pC, pZ]
   refine do_ rfl (.bool true) (ex_pick (b := false) rfl) ?_
   simp only [pS, pN, pA, pC, pZ]
   refine wl_nil (hK122 _ _ ?_)
   refine wp_cond_true rfl ?_
   refine wp_seq_k (fun K126 hK126 => region_wl ?_)
   refine do_ rfl (.bool true) (ex_move _) ?_
   simp only [pS, pN, pA, pC, pZ]
   refine do_ rfl (.bool true) (ex_move _) ?_
   simp only [pS, pN, pA, pC, pZ]
   refine do_ rfl (.agg #[(.int .i64 (-1)), (.slice none 0 0), (.slice none 0 0)]) (ex_build (ps := #[(0, (.int .i64 (-1)))]) (bmap1 rfl) (by kernel_rfl)) ?_
   simp only [pS, pN, pA, pC, pZ]
   refine stTells (v := (.int .i64 2)) S120 rfl (ex_fn (vs := #[(.agg #[(.int .i64 (-1)), (.slice none 0 0), (.slice none 0 0)])]) (map1 rfl) rfl (ent_51 _ _)) (txnCheckIs_spec _ _ _ (⟨-1, [], []⟩ : Tx) (S120).sat ⟨none, 0, none, 0, rfl, Sl.nil _ _ _, Sl.nil _ _ _⟩ (by simp) rfl) (fun w127 S128 => ?_)
   simp only [pS, pN, pA, pC, pZ]
   refine do_ rfl (.bool true) (ex_eql (b := true) rfl rfl (by decide)) ?_
   simp only [pS, pN, pA, pC, pZ]
   refine do_ rfl (.bool true) (ex_pick (b := true) rfl) ?_
   simp only [pS, pN, pA, pC, pZ]
   refine do_ rfl (.bool true) (ex_assign _) ?_
   simp only [pS, pN, pA, pC, pZ]
   refine wl_nil (hK126 _ _ ?_)
   refine wp_ret ?_
   (try simp only [Exit.then, Exit.inBlock, ↓reduceIte, Nat.reduceEqDiff])
   refine bodyPost_ret (v := (.bool true)) ?_ rfl ?_
   ·exact res_t rfl rfl
   ·exact ⟨rfl, S128.gr.below⟩
  ·refine do_ rfl (.bool false) (ex_eql (m := (((txO l0 l1).reads.length : Nat) : Int)) (n := (0 : Int)) (b := false) rfl rfl (beq_eq_false_iff_ne.2 (by omega))) ?_
   simp only [pS, pN, pA, pC, pZ]
   refine do_ rfl (.bool false) (ex_pick (b := false) rfl) ?_
   simp only [pS, pN, pA, pC, pZ]
   refine wl_nil (hK122 _ _ ?_)
   refine wp_cond_false rfl ?_
   refine wp_skip ?_
   refine hK121 _ _ ?_
   refine wp_seq_k (fun K129 hK129 => region_wl ?_)
   refine do_ rfl (.agg #[(.int .i64 (txO l0 l1).start), (.slice xa110 (txO l0 l1).reads.length xc111), (.slice xa112 (txO l0 l1).writes.length xc113)]) (ex_load rfl (loadN (cs := [(.int .i64 (txO l0 l1).start), (.slice xa110 (txO l0 l1).reads.length xc111), (.slice xa112 (txO l0 l1).writes.length xc113)]) Try.underlying75 rfl (size_75) (St.range S120 (i := 0) rfl 0 [(.int .i64 (txO l0 l1).start), (.slice xa110 (txO l0 l1).reads.length xc111), (.slice xa112 (txO l0 l1).writes.length xc113)] (sub_range 0 rfl)))) ?_
   simp only [pS, pN, pA, pC, pZ]
   refine stNew S120 (v := fun n => .pointer (some ⟨n, 0, none⟩)) rfl (ex_alloc (zero_75 _)) (fun n130 w131 S132 => ?_)
   simp only [pS, pN, pA, pC, pZ]
   have S132 : St W (whole W) w131 F105 [⟨n130, [(.int .i64 0), (.slice none 0 0), (.slice none 0 0)], 75⟩, ⟨n116, [(.int .i64 (txO l0 l1).start), (.slice xa110 (txO l0 l1).reads.length xc111), (.slice xa112 (txO l0 l1).writes.length xc113)], 75⟩] [] := S132
   refine stStore (i := 0) (v := (.agg #[(.int .i64 (txO l0 l1).start), (.slice xa110 (txO l0 l1).reads.length xc111), (.slice xa112 (txO l0 l1).writes.length xc113)])) S132 rfl rfl rfl rfl (size_75) (allc3 rfl rfl rfl) (Nat.le_of_ble_eq_true rfl) (fun w133 S134 => ?_)
   simp only [pS, pN, pA, pC, pZ]
   have S134 : St W (whole W) w133 F105 [⟨n130, [(.int .i64 (txO l0 l1).start), (.slice xa110 (txO l0 l1).reads.length xc111), (.slice xa112 (txO l0 l1).writes.length xc113)], 75⟩, ⟨n116, [(.int .i64 (txO l0 l1).start), (.slice xa110 (txO l0 l1).reads.length xc111), (.slice xa112 (txO l0 l1).writes.length xc113)], 75⟩] [] := S134
   refine wl_nil (hK129 _ _ ?_)
   refine wp_seq_k (fun K135 hK135 => ?_)
   obtain ⟨kn0, kn1⟩ := pick_bd x2 (((txO l0 l1).writes.length : Nat) : Int) (by omega)
   obtain ⟨kn, hkn⟩ : ∃ k : Nat, pick x2 (((txO l0 l1).writes.length : Nat) : Int) = (k : Int) := ⟨(pick x2 (((txO l0 l1).writes.length : Nat) : Int)).toNat, (Int.toNat_of_nonneg kn0).symm⟩
   obtain ⟨pw, hpw⟩ : ∃ p, (txO l0 l1).writes[kn]? = some p := ⟨(txO l0 l1).writes[kn]'(by omega), List.getElem?_eq_getElem (by omega)⟩
   obtain ⟨kr0, kr1⟩ := pick_bd x2 (((txO l0 l1).reads.length : Nat) : Int) (by omega)
   obtain ⟨kr, hkr⟩ : ∃ k : Nat, pick x2 (((txO l0 l1).reads.length : Nat) : Int) = (k : Int) := ⟨(pick x2 (((txO l0 l1).reads.length : Nat) : Int)).toNat, (Int.toNat_of_nonneg kr0).symm⟩
   obtain ⟨pr, hpr⟩ : ∃ p, (txO l0 l1).reads[kr]? = some p := ⟨(txO l0 l1).reads[kr]'(by omega), List.getElem?_eq_getElem (by omega)⟩
   obtain ⟨b136, o137, ha138, xa140, xc141, xa144, xc145, xa149, xc150, c139, c143, c147, c148, r142, r146, r151⟩ := Wrs.get r115 hpw
   obtain ⟨b152, o153, ha154, xa156, xc157, xa160, xc161, xa165, xc166, c155, c159, c163, c164, r158, r162, r167⟩ := Rds.get r114 hpr
   have hA := tx_twiceW hT.1 (List.mem_of_getElem? hpw) (by omega)
   have hB := tx_twiceR hT.1 (List.mem_of_getElem? hpr) (by omega)
   obtain ⟨S168, le169, hc170⟩ := St.freezeBlk S134 (i := 1) rfl
   generalize addF F105 w133 n116 = F171 at *
   have S168 : St W (whole W) w133 F171 [⟨n130, [(.int .i64 (txO l0 l1).start), (.slice xa110 (txO l0 l1).reads.length xc111), (.slice xa112 (txO l0 l1).writes.length xc113)], 75⟩] [] := S168
   refine region_hl S168 (by kernel_rfl) (fun w173 S172 => ?_)
   refine hl_take 0 rfl (by kernel_rfl) (v := (.pointer (some ⟨n116, 2, none⟩))) (fun _ _ _ h => h) S172.sat rfl (fun w174 hs175 => ex_field (q := ⟨n116, 2, none⟩) rfl (fa_75_2 _ _)) ?_
   simp only [pS, pN, pA, pC, pZ]
   refine hl_take 1 rfl (by kernel_rfl) (v := (.slice xa112 (txO l0 l1).writes.length xc113)) (fun _ _ _ h => h) S172.sat rfl (fun w176 hs177 => ex_load rfl (load1 (nagg_44 _) (St.fz (St.start hs177) (hc170 2 _ rfl)))) ?_
   simp only [pS, pN, pA, pC, pZ]
   refine hl_take 3 rfl (by kernel_rfl) (v := (.pointer (some ⟨n116, 2, none⟩))) (fun _ _ _ h => h) S172.sat rfl (fun w178 hs179 => ex_field (q := ⟨n116, 2, none⟩) rfl (fa_75_2 _ _)) ?_
   simp only [pS, pN, pA, pC, pZ]
   refine hl_take 4 rfl (by kernel_rfl) (v := (.slice xa112 (txO l0 l1).writes.length xc113)) (fun _ _ _ h => h) S172.sat rfl (fun w180 hs181 => ex_load rfl (load1 (nagg_44 _) (St.fz (St.start hs181) (hc170 2 _ rfl)))) ?_
   simp only [pS, pN, pA, pC, pZ]
   refine hl_take 5 rfl (by kernel_rfl) (v := (.int .i64 x2)) (fun _ _ _ h => h) S172.sat rfl (fun w182 hs183 => ex_move _) ?_
   simp only [pS, pN, pA, pC, pZ]
   refine hl_take 6 rfl (by kernel_rfl) (v := (.pointer (some ⟨n116, 2, none⟩))) (fun _ _ _ h => h) S172.sat rfl (fun w184 hs185 => ex_field (q := ⟨n116, 2, none⟩) rfl (fa_75_2 _ _)) ?_
   simp only [pS, pN, pA, pC, pZ]
   refine hl_take 7 rfl (by kernel_rfl) (v := (.slice xa112 (txO l0 l1).writes.length xc113)) (fun _ _ _ h => h) S172.sat rfl (fun w186 hs187 => ex_load rfl (load1 (nagg_44 _) (St.fz (St.start hs187) (hc170 2 _ rfl)))) ?_
   simp only [pS, pN, pA, pC, pZ]
   refine hl_take 8 rfl (by kernel_rfl) (v := (.int .i64 (((txO l0 l1).writes.length : Nat) : Int))) (fun _ _ _ h => h) S172.sat rfl (fun w188 hs189 => ex_len Try.underlying44 rfl) ?_
   simp only [pS, pN, pA, pC, pZ]
   refine hl_next 2 (by kernel_rfl) rfl ?_
   have S190 := St.addNil S172 4 WrC WrC.mono 27 W.heap.size
   refine stAppendS (r := 0) (u := (.slice xa112 (txO l0 l1).writes.length xc113)) S190 rfl i27 (.agg #[(.slice none 0 0), (.slice none 0 0), (.bool false), (.slice none 0 0)]) 80 Try.underlying44 hi27 hz27 hs27 hb27 rfl (by decide) rfl rfl rfl (Sl.toW (r115.mono le169) (S190).sat) (fun F cs p h => WrC.oneCell h) (Nat.le_refl _) S190.gr.below.size (by unfold maxLen; simp only [List.length_nil]; omega) (by simp only [List.length_nil]; omega) ?_
   intro v191 w192 S193 hn194
   simp only [pS, pN, pA, pC, pZ]
   have S193 : St W (whole W) w192 F171 [⟨n130, [(.int .i64 (txO l0 l1).start), (.slice xa110 (txO l0 l1).reads.length xc111), (.slice xa112 (txO l0 l1).writes.length xc113)], 75⟩] [ownP 4 WrC WrC.mono 27 W.heap.size v191 ([] ++ (txO l0 l1).writes)] := S193
   rw [List.nil_append] at S193
   refine wl_nil (hl_back S193.sat ?_)
   refine hl_next 9 (by kernel_rfl) rfl ?_
   refine stTells (v := (.int .i64 ((kn : Nat) : Int))) S193 rfl (ex_fn (vs := #[(.int .i64 x2), (.int .i64 (((txO l0 l1).writes.length : Nat) : Int))]) (map2 rfl rfl) rfl (ent_25 _ _)) (hkn ▸ tells_same (picked_spec x2 (((txO l0 l1).writes.length : Nat) : Int) _ b2 b2' (by omega) (by omega))) (fun w195 S196 => ?_)
   simp only [pS, pN, pA, pC, pZ]
   refine wl_nil (hl_back S196.sat ?_)
   refine hl_take 10 rfl (by kernel_rfl) (v := (.pointer (some ⟨b136, o137 + kn * 4, none⟩))) (fun _ _ _ h => h) S196.sat rfl (fun w197 hs198 => ex_at (i := kn) (sz := 4) Try.underlying44 (sizeof_27 _) rfl ha138 rfl (by omega) rfl) ?_
   simp only [pS, pN, pA, pC, pZ]
   refine hl_take 11 rfl (by kernel_rfl) (v := (.agg #[(.slice xa140 pw.name.length xc141), (.slice xa144 pw.key.length xc145), (.bool pw.gone), (.slice xa149 pw.value.length xc150)])) (fun _ _ _ h => h) S196.sat rfl (fun w199 hs200 => ex_load rfl (loadN (cs := [(.slice xa140 pw.name.length xc141), (.slice xa144 pw.key.length xc145), (.bool pw.gone), (.slice xa149 pw.value.length xc150)]) Try.underlying27 rfl (size_27) (range4 (St.fz (St.start hs200) (Le.cell le169 c139)) (St.fz (St.start hs200) (Le.cell le169 c143)) (St.fz (St.start hs200) (Le.cell le169 c147)) (St.fz (St.start hs200) (Le.cell le169 c148))))) ?_
   simp only [pS, pN, pA, pC, pZ]
   refine hl_next 12 (by kernel_rfl) rfl ?_
   refine stNew S196 (v := fun n => .slice (some ⟨n, 0, none⟩) 1 1) rfl (ex_lit (ps := #[(0, (.agg #[(.slice xa140 pw.name.length xc141), (.slice xa144 pw.key.length xc145), (.bool pw.gone), (.slice xa149 pw.value.length xc150)]))]) (cells := #[(.slice xa140 pw.name.length xc141), (.slice xa144 pw.key.length xc145), (.bool pw.gone), (.slice xa149 pw.value.length xc150)]) (E := 27) (bmap1 rfl) (fun w => by kernel_rfl)) (fun n201 w202 S203 => ?_)
   simp only [pS, pN, pA, pC, pZ]
   have S203 : St W (whole W) w202 F171 [⟨n201, [(.slice xa140 pw.name.length xc141), (.slice xa144 pw.key.length xc145), (.bool pw.gone), (.slice xa149 pw.value.length xc150)], 27⟩, ⟨n130, [(.int .i64 (txO l0 l1).start), (.slice xa110 (txO l0 l1).reads.length xc111), (.slice xa112 (txO l0 l1).writes.length xc113)], 75⟩] [ownP 4 WrC WrC.mono 27 W.heap.size v191 ((txO l0 l1).writes)] := S203
   refine wl_nil (hl_back S203.sat ?_)
   refine hl_next 13 (by kernel_rfl) rfl ?_
   refine stPush (i := 0) (r := 0) (p := pw) (cs := [(.slice xa140 pw.name.length xc141), (.slice xa144 pw.key.length xc145), (.bool pw.gone), (.slice xa149 pw.value.length xc150)]) S203 rfl i27 (.agg #[(.slice none 0 0), (.slice none 0 0), (.bool false), (.slice none 0 0)]) 80 Try.underlying44 hi27 hz27 hs27 hb27 rfl (by decide) rfl rfl rfl rfl rfl (WrC.oneCell (p := pw) ⟨_, _, _, _, rfl, (r142.mono le169), (r146.mono le169), rfl, (r151.mono le169)⟩) (⟨_, _, _, _, rfl, (r142.mono le169), (r146.mono le169), rfl, (r151.mono le169)⟩) (Nat.le_refl _) S203.gr.below.size (by unfold maxLen; omega) (by omega) ?_
   intro v204 w205 S206 hn207
   simp only [pS, pN, pA, pC, pZ]
   have S206 := St.drop S206 (L' := [⟨n130, [(.int .i64 (txO l0 l1).start), (.slice xa110 (txO l0 l1).reads.length xc111), (.slice xa112 (txO l0 l1).writes.length xc113)], 75⟩]) (.cons _ (List.Sublist.refl _))
   have S206 : St W (whole W) w205 F171 [⟨n130, [(.int .i64 (txO l0 l1).start), (.slice xa110 (txO l0 l1).reads.length xc111), (.slice xa112 (txO l0 l1).writes.length xc113)], 75⟩] [ownP 4 WrC WrC.mono 27 W.heap.size v204 ((txO l0 l1).writes ++ [pw])] := S206
   obtain ⟨a208, cap209, rfl, h210, h211⟩ := (S206.own (i := 0) rfl).shape
   unfold maxLen at h211
   refine wl_nil (hl_back S206.sat ?_)
   refine hl_take 14 rfl (by kernel_rfl) (v := (.pointer (some ⟨n130, 2, none⟩))) (fun _ _ _ h => h) S206.sat rfl (fun w212 hs213 => ex_field (q := ⟨n130, 2, none⟩) rfl (fa_75_2 _ _)) ?_
   simp only [pS, pN, pA, pC, pZ]
   refine hl_next 15 (by kernel_rfl) rfl ?_
   refine stStore (i := 0) (v := (.slice a208 ((txO l0 l1).writes ++ [pw]).length cap209)) S206 rfl rfl rfl rfl (size_44) (allc1 rfl) (Nat.le_of_ble_eq_true rfl) (fun w214 S215 => ?_)
   simp only [pS, pN, pA, pC, pZ]
   have S215 : St W (whole W) w214 F171 [⟨n130, [(.int .i64 (txO l0 l1).start), (.slice xa110 (txO l0 l1).reads.length xc111), (.slice a208 ((txO l0 l1).writes ++ [pw]).length cap209)], 75⟩] [ownP 4 WrC WrC.mono 27 W.heap.size (.slice a208 ((txO l0 l1).writes ++ [pw]).length cap209) ((txO l0 l1).writes ++ [pw])] := S215
   refine wl_nil (hl_back S215.sat ?_)
   refine hl_done (by kernel_rfl) ?_
   refine hK135 _ _ ?_
   refine wp_seq_k (fun K216 hK216 => region_wl ?_)
   refine do_ rfl (.agg #[(.int .i64 (txO l0 l1).start), (.slice xa110 (txO l0 l1).reads.length xc111), (.slice xa112 (txO l0 l1).writes.length xc113)]) (ex_load rfl (loadN (cs := [(.int .i64 (txO l0 l1).start), (.slice xa110 (txO l0 l1).reads.length xc111), (.slice xa112 (txO l0 l1).writes.length xc113)]) Try.underlying75 rfl (size_75) (range3 (St.fz S215 (hc170 0 _ rfl)) (St.fz S215 (hc170 1 _ rfl)) (St.fz S215 (hc170 2 _ rfl))))) ?_
   simp only [pS, pN, pA, pC, pZ]
   refine stNew S215 (v := fun n => .pointer (some ⟨n, 0, none⟩)) rfl (ex_alloc (zero_75 _)) (fun n217 w218 S219 => ?_)
   simp only [pS, pN, pA, pC, pZ]
   have S219 : St W (whole W) w218 F171 [⟨n217, [(.int .i64 0), (.slice none 0 0), (.slice none 0 0)], 75⟩, ⟨n130, [(.int .i64 (txO l0 l1).start), (.slice xa110 (txO l0 l1).reads.length xc111), (.slice a208 ((txO l0 l1).writes ++ [pw]).length cap209)], 75⟩] [ownP 4 WrC WrC.mono 27 W.heap.size (.slice a208 ((txO l0 l1).writes ++ [pw]).length cap209) ((txO l0 l1).writes ++ [pw])] := S219
   refine stStore (i := 0) (v := (.agg #[(.int .i64 (txO l0 l1).start), (.slice xa110 (txO l0 l1).reads.length xc111), (.slice xa112 (txO l0 l1).writes.length xc113)])) S219 rfl rfl rfl rfl (size_75) (allc3 rfl rfl rfl) (Nat.le_of_ble_eq_true rfl) (fun w220 S221 => ?_)
   simp only [pS, pN, pA, pC, pZ]
   have S221 : St W (whole W) w220 F171 [⟨n217, [(.int .i64 (txO l0 l1).start), (.slice xa110 (txO l0 l1).reads.length xc111), (.slice xa112 (txO l0 l1).writes.length xc113)], 75⟩, ⟨n130, [(.int .i64 (txO l0 l1).start), (.slice xa110 (txO l0 l1).reads.length xc111), (.slice a208 ((txO l0 l1).writes ++ [pw]).length cap209)], 75⟩] [ownP 4 WrC WrC.mono 27 W.heap.size (.slice a208 ((txO l0 l1).writes ++ [pw]).length cap209) ((txO l0 l1).writes ++ [pw])] := S221
   refine wl_nil (hK216 _ _ ?_)
   refine wp_seq_k (fun K222 hK222 => ?_)
   refine region_hl S221 (by kernel_rfl) (fun w224 S223 => ?_)
   refine hl_take 0 rfl (by kernel_rfl) (v := (.pointer (some ⟨n116, 1, none⟩))) (fun _ _ _ h => h) S223.sat rfl (fun w225 hs226 => ex_field (q := ⟨n116, 1, none⟩) rfl (fa_75_1 _ _)) ?_
   simp only [pS, pN, pA, pC, pZ]
   refine hl_take 1 rfl (by kernel_rfl) (v := (.slice xa110 (txO l0 l1).reads.length xc111)) (fun _ _ _ h => h) S223.sat rfl (fun w227 hs228 => ex_load rfl (load1 (nagg_73 _) (St.fz (St.start hs228) (hc170 1 _ rfl)))) ?_
   simp only [pS, pN, pA, pC, pZ]
   refine hl_take 3 rfl (by kernel_rfl) (v := (.pointer (some ⟨n116, 1, none⟩))) (fun _ _ _ h => h) S223.sat rfl (fun w229 hs230 => ex_field (q := ⟨n116, 1, none⟩) rfl (fa_75_1 _ _)) ?_
   simp only [pS, pN, pA, pC, pZ]
   refine hl_take 4 rfl (by kernel_rfl) (v := (.slice xa110 (txO l0 l1).reads.length xc111)) (fun _ _ _ h => h) S223.sat rfl (fun w231 hs232 => ex_load rfl (load1 (nagg_73 _) (St.fz (St.start hs232) (hc170 1 _ rfl)))) ?_
   simp only [pS, pN, pA, pC, pZ]
   refine hl_take 5 rfl (by kernel_rfl) (v := (.int .i64 x2)) (fun _ _ _ h => h) S223.sat rfl (fun w233 hs234 => ex_move _) ?_
   simp only [pS, pN, pA, pC, pZ]
   refine hl_take 6 rfl (by kernel_rfl) (v := (.pointer (some ⟨n116, 1, none⟩))) (fun _ _ _ h => h) S223.sat rfl (fun w235 hs236 => ex_field (q := ⟨n116, 1, none⟩) rfl (fa_75_1 _ _)) ?_
   simp only [pS, pN, pA, pC, pZ]
   refine hl_take 7 rfl (by kernel_rfl) (v := (.slice xa110 (txO l0 l1).reads.length xc111)) (fun _ _ _ h => h) S223.sat rfl (fun w237 hs238 => ex_load rfl (load1 (nagg_73 _) (St.fz (St.start hs238) (hc170 1 _ rfl)))) ?_
   simp only [pS, pN, pA, pC, pZ]
   refine hl_take 8 rfl (by kernel_rfl) (v := (.int .i64 (((txO l0 l1).reads.length : Nat) : Int))) (fun _ _ _ h => h) S223.sat rfl (fun w239 hs240 => ex_len Try.underlying73 rfl) ?_
   simp only [pS, pN, pA, pC, pZ]
   refine hl_next 2 (by kernel_rfl) rfl ?_
   have S241 := St.addNil S223 4 RdC RdC.mono 83 W.heap.size
   refine stAppendS (r := 0) (u := (.slice xa110 (txO l0 l1).reads.length xc111)) S241 rfl i83 (.agg #[(.slice none 0 0), (.slice none 0 0), (.bool false), (.slice none 0 0)]) 80 Try.underlying73 hi83 hz83 hs83 hb83 rfl (by decide) rfl rfl rfl (Sl.toW (r114.mono le169) (S241).sat) (fun F cs p h => RdC.oneCell h) (Nat.le_refl _) S241.gr.below.size (by unfold maxLen; simp only [List.length_nil]; omega) (by simp only [List.length_nil]; omega) ?_
   intro v242 w243 S244 hn245
   simp only [pS, pN, pA, pC, pZ]
   have S244 : St W (whole W) w243 F171 [⟨n217, [(.int .i64 (txO l0 l1).start), (.slice xa110 (txO l0 l1).reads.length xc111), (.slice xa112 (txO l0 l1).writes.length xc113)], 75⟩, ⟨n130, [(.int .i64 (txO l0 l1).start), (.slice xa110 (txO l0 l1).reads.length xc111), (.slice a208 ((txO l0 l1).writes ++ [pw]).length cap209)], 75⟩] [ownP 4 RdC RdC.mono 83 W.heap.size v242 ([] ++ (txO l0 l1).reads), ownP 4 WrC WrC.mono 27 W.heap.size (.slice a208 ((txO l0 l1).writes ++ [pw]).length cap209) ((txO l0 l1).writes ++ [pw])] := S244
   rw [List.nil_append] at S244
   refine wl_nil (hl_back S244.sat ?_)
   refine hl_next 9 (by kernel_rfl) rfl ?_
   refine stTells (v := (.int .i64 ((kr : Nat) : Int))) S244 rfl (ex_fn (vs := #[(.int .i64 x2), (.int .i64 (((txO l0 l1).reads.length : Nat) : Int))]) (map2 rfl rfl) rfl (ent_25 _ _)) (hkr ▸ tells_same (picked_spec x2 (((txO l0 l1).reads.length : Nat) : Int) _ b2 b2' (by omega) (by omega))) (fun w246 S247 => ?_)
   simp only [pS, pN, pA, pC, pZ]
   refine wl_nil (hl_back S247.sat ?_)
   refine hl_take 10 rfl (by kernel_rfl) (v := (.pointer (some ⟨b152, o153 + kr * 4, none⟩))) (fun _ _ _ h => h) S247.sat rfl (fun w248 hs249 => ex_at (i := kr) (sz := 4) Try.underlying73 (sizeof_83 _) rfl ha154 rfl (by omega) rfl) ?_
   simp only [pS, pN, pA, pC, pZ]
   refine hl_take 11 rfl (by kernel_rfl) (v := (.agg #[(.slice xa156 pr.name.length xc157), (.slice xa160 pr.key.length xc161), (.bool pr.wide), (.slice xa165 pr.last.length xc166)])) (fun _ _ _ h => h) S247.sat rfl (fun w250 hs251 => ex_load rfl (loadN (cs := [(.slice xa156 pr.name.length xc157), (.slice xa160 pr.key.length xc161), (.bool pr.wide), (.slice xa165 pr.last.length xc166)]) Try.underlying83 rfl (size_83) (range4 (St.fz (St.start hs251) (Le.cell le169 c155)) (St.fz (St.start hs251) (Le.cell le169 c159)) (St.fz (St.start hs251) (Le.cell le169 c163)) (St.fz (St.start hs251) (Le.cell le169 c164))))) ?_
   simp only [pS, pN, pA, pC, pZ]
   refine hl_next 12 (by kernel_rfl) rfl ?_
   refine stNew S247 (v := fun n => .slice (some ⟨n, 0, none⟩) 1 1) rfl (ex_lit (ps := #[(0, (.agg #[(.slice xa156 pr.name.length xc157), (.slice xa160 pr.key.length xc161), (.bool pr.wide), (.slice xa165 pr.last.length xc166)]))]) (cells := #[(.slice xa156 pr.name.length xc157), (.slice xa160 pr.key.length xc161), (.bool pr.wide), (.slice xa165 pr.last.length xc166)]) (E := 83) (bmap1 rfl) (fun w => by kernel_rfl)) (fun n252 w253 S254 => ?_)
   simp only [pS, pN, pA, pC, pZ]
   have S254 : St W (whole W) w253 F171 [⟨n252, [(.slice xa156 pr.name.length xc157), (.slice xa160 pr.key.length xc161), (.bool pr.wide), (.slice xa165 pr.last.length xc166)], 83⟩, ⟨n217, [(.int .i64 (txO l0 l1).start), (.slice xa110 (txO l0 l1).reads.length xc111), (.slice xa112 (txO l0 l1).writes.length xc113)], 75⟩, ⟨n130, [(.int .i64 (txO l0 l1).start), (.slice xa110 (txO l0 l1).reads.length xc111), (.slice a208 ((txO l0 l1).writes ++ [pw]).length cap209)], 75⟩] [ownP 4 RdC RdC.mono 83 W.heap.size v242 ((txO l0 l1).reads), ownP 4 WrC WrC.mono 27 W.heap.size (.slice a208 ((txO l0 l1).writes ++ [pw]).length cap209) ((txO l0 l1).writes ++ [pw])] := S254
   refine wl_nil (hl_back S254.sat ?_)
   refine hl_next 13 (by kernel_rfl) rfl ?_
   refine stPush (i := 0) (r := 0) (p := pr) (cs := [(.slice xa156 pr.name.length xc157), (.slice xa160 pr.key.length xc161), (.bool pr.wide), (.slice xa165 pr.last.length xc166)]) S254 rfl i83 (.agg #[(.slice none 0 0), (.slice none 0 0), (.bool false), (.slice none 0 0)]) 80 Try.underlying73 hi83 hz83 hs83 hb83 rfl (by decide) rfl rfl rfl rfl rfl (RdC.oneCell (p := pr) ⟨_, _, _, _, rfl, (r158.mono le169), (r162.mono le169), rfl, (r167.mono le169)⟩) (⟨_, _, _, _, rfl, (r158.mono le169), (r162.mono le169), rfl, (r167.mono le169)⟩) (Nat.le_refl _) S254.gr.below.size (by unfold maxLen; omega) (by omega) ?_
   intro v255 w256 S257 hn258
   simp only [pS, pN, pA, pC, pZ]
   have S257 := St.drop S257 (L' := [⟨n217, [(.int .i64 (txO l0 l1).start), (.slice xa110 (txO l0 l1).reads.length xc111), (.slice xa112 (txO l0 l1).writes.length xc113)], 75⟩, ⟨n130, [(.int .i64 (txO l0 l1).start), (.slice xa110 (txO l0 l1).reads.length xc111), (.slice a208 ((txO l0 l1).writes ++ [pw]).length cap209)], 75⟩]) (.cons _ (List.Sublist.refl _))
   have S257 : St W (whole W) w256 F171 [⟨n217, [(.int .i64 (txO l0 l1).start), (.slice xa110 (txO l0 l1).reads.length xc111), (.slice xa112 (txO l0 l1).writes.length xc113)], 75⟩, ⟨n130, [(.int .i64 (txO l0 l1).start), (.slice xa110 (txO l0 l1).reads.length xc111), (.slice a208 ((txO l0 l1).writes ++ [pw]).length cap209)], 75⟩] [ownP 4 RdC RdC.mono 83 W.heap.size v255 ((txO l0 l1).reads ++ [pr]), ownP 4 WrC WrC.mono 27 W.heap.size (.slice a208 ((txO l0 l1).writes ++ [pw]).length cap209) ((txO l0 l1).writes ++ [pw])] := S257
   obtain ⟨a259, cap260, rfl, h261, h262⟩ := (S257.own (i := 0) rfl).shape
   unfold maxLen at h262
   refine wl_nil (hl_back S257.sat ?_)
   refine hl_take 14 rfl (by kernel_rfl) (v := (.pointer (some ⟨n217, 1, none⟩))) (fun _ _ _ h => h) S257.sat rfl (fun w263 hs264 => ex_field (q := ⟨n217, 1, none⟩) rfl (fa_75_1 _ _)) ?_
   simp only [pS, pN, pA, pC, pZ]
   refine hl_next 15 (by kernel_rfl) rfl ?_
   refine stStore (i := 0) (v := (.slice a259 ((txO l0 l1).reads ++ [pr]).length cap260)) S257 rfl rfl rfl rfl (size_73) (allc1 rfl) (Nat.le_of_ble_eq_true rfl) (fun w265 S266 => ?_)
   simp only [pS, pN, pA, pC, pZ]
   have S266 : St W (whole W) w265 F171 [⟨n217, [(.int .i64 (txO l0 l1).start), (.slice a259 ((txO l0 l1).reads ++ [pr]).length cap260), (.slice xa112 (txO l0 l1).writes.length xc113)], 75⟩, ⟨n130, [(.int .i64 (txO l0 l1).start), (.slice xa110 (txO l0 l1).reads.length xc111), (.slice a208 ((txO l0 l1).writes ++ [pw]).length cap209)], 75⟩] [ownP 4 RdC RdC.mono 83 W.heap.size (.slice a259 ((txO l0 l1).reads ++ [pr]).length cap260) ((txO l0 l1).reads ++ [pr]), ownP 4 WrC WrC.mono 27 W.heap.size (.slice a208 ((txO l0 l1).writes ++ [pw]).length cap209) ((txO l0 l1).writes ++ [pw])] := S266
   refine wl_nil (hl_back S266.sat ?_)
   refine hl_done (by kernel_rfl) ?_
   refine hK222 _ _ ?_
   refine wp_seq_k (fun K267 hK267 => ?_)
   obtain ⟨F268, S269, le270, hv271⟩ := St.freeze S266 (i := 0) rfl (Nat.le_refl _)
   have S269 : St W (whole W) w265 F268 [⟨n217, [(.int .i64 (txO l0 l1).start), (.slice a259 ((txO l0 l1).reads ++ [pr]).length cap260), (.slice xa112 (txO l0 l1).writes.length xc113)], 75⟩, ⟨n130, [(.int .i64 (txO l0 l1).start), (.slice xa110 (txO l0 l1).reads.length xc111), (.slice a208 ((txO l0 l1).writes ++ [pw]).length cap209)], 75⟩] [ownP 4 WrC WrC.mono 27 W.heap.size (.slice a208 ((txO l0 l1).writes ++ [pw]).length cap209) ((txO l0 l1).writes ++ [pw])] := S269
   have hv271 : Rds _ (.slice a259 ((txO l0 l1).reads ++ [pr]).length cap260) ((txO l0 l1).reads ++ [pr]) := hv271
   obtain ⟨F272, S273, le274, hv275⟩ := St.freeze S269 (i := 0) rfl (Nat.le_refl _)
   have S273 : St W (whole W) w265 F272 [⟨n217, [(.int .i64 (txO l0 l1).start), (.slice a259 ((txO l0 l1).reads ++ [pr]).length cap260), (.slice xa112 (txO l0 l1).writes.length xc113)], 75⟩, ⟨n130, [(.int .i64 (txO l0 l1).start), (.slice xa110 (txO l0 l1).reads.length xc111), (.slice a208 ((txO l0 l1).writes ++ [pw]).length cap209)], 75⟩] [] := S273
   have hv275 : Wrs _ (.slice a208 ((txO l0 l1).writes ++ [pw]).length cap209) ((txO l0 l1).writes ++ [pw]) := hv275
   refine region_wl ?_
   refine do_ rfl (.agg #[(.int .i64 (txO l0 l1).start), (.slice xa110 (txO l0 l1).reads.length xc111), (.slice a208 ((txO l0 l1).writes ++ [pw]).length cap209)]) (ex_load rfl (loadN (cs := [(.int .i64 (txO l0 l1).start), (.slice xa110 (txO l0 l1).reads.length xc111), (.slice a208 ((txO l0 l1).writes ++ [pw]).length cap209)]) Try.underlying75 rfl (size_75) (St.range S273 (i := 1) rfl 0 [(.int .i64 (txO l0 l1).start), (.slice xa110 (txO l0 l1).reads.length xc111), (.slice a208 ((txO l0 l1).writes ++ [pw]).length cap209)] (sub_range 0 rfl)))) ?_
   simp only [pS, pN, pA, pC, pZ]
   refine stNew S273 (v := fun n => .slice (some ⟨n, 0, none⟩) 1 1) rfl (ex_lit (ps := #[(0, (.int .u8 1))]) (cells := #[(.int .u8 1)]) (E := 5) (bmap1 rfl) (fun w => by kernel_rfl)) (fun n276 w277 S278 => ?_)
   simp only [pS, pN, pA, pC, pZ]
   have S278 : St W (whole W) w277 F272 [⟨n276, [(.int .u8 1)], 5⟩, ⟨n217, [(.int .i64 (txO l0 l1).start), (.slice a259 ((txO l0 l1).reads ++ [pr]).length cap260), (.slice xa112 (txO l0 l1).writes.length xc113)], 75⟩, ⟨n130, [(.int .i64 (txO l0 l1).start), (.slice xa110 (txO l0 l1).reads.length xc111), (.slice a208 ((txO l0 l1).writes ++ [pw]).length cap209)], 75⟩] [] := S278
   refine stNew S278 (v := fun n => .slice (some ⟨n, 0, none⟩) 1 1) rfl (ex_lit (ps := #[(0, (.int .u8 1))]) (cells := #[(.int .u8 1)]) (E := 5) (bmap1 rfl) (fun w => by kernel_rfl)) (fun n279 w280 S281 => ?_)
   simp only [pS, pN, pA, pC, pZ]
   have S281 : St W (whole W) w280 F272 [⟨n279, [(.int .u8 1)], 5⟩, ⟨n276, [(.int .u8 1)], 5⟩, ⟨n217, [(.int .i64 (txO l0 l1).start), (.slice a259 ((txO l0 l1).reads ++ [pr]).length cap260), (.slice xa112 (txO l0 l1).writes.length xc113)], 75⟩, ⟨n130, [(.int .i64 (txO l0 l1).start), (.slice xa110 (txO l0 l1).reads.length xc111), (.slice a208 ((txO l0 l1).writes ++ [pw]).length cap209)], 75⟩] [] := S281
   obtain ⟨S282, le283, hc284⟩ := St.freezeBlk S281 (i := 1) rfl
   have r286 : Bs _ (.slice (some ⟨n276, 0, none⟩) 1 1) ([1] : By) := bs_of_block (l := ([1] : By)) hc284 (rfl) (by unfold maxLen; simp)
   generalize addF F272 w280 n276 = F285 at *
   have S282 : St W (whole W) w280 F285 [⟨n279, [(.int .u8 1)], 5⟩, ⟨n217, [(.int .i64 (txO l0 l1).start), (.slice a259 ((txO l0 l1).reads ++ [pr]).length cap260), (.slice xa112 (txO l0 l1).writes.length xc113)], 75⟩, ⟨n130, [(.int .i64 (txO l0 l1).start), (.slice xa110 (txO l0 l1).reads.length xc111), (.slice a208 ((txO l0 l1).writes ++ [pw]).length cap209)], 75⟩] [] := S282
   obtain ⟨S287, le288, hc289⟩ := St.freezeBlk S282 (i := 0) rfl
   have r291 : Bs _ (.slice (some ⟨n279, 0, none⟩) 1 1) ([1] : By) := bs_of_block (l := ([1] : By)) hc289 (rfl) (by unfold maxLen; simp)
   generalize addF F285 w280 n279 = F290 at *
   have S287 : St W (whole W) w280 F290 [⟨n217, [(.int .i64 (txO l0 l1).start), (.slice a259 ((txO l0 l1).reads ++ [pr]).length cap260), (.slice xa112 (txO l0 l1).writes.length xc113)], 75⟩, ⟨n130, [(.int .i64 (txO l0 l1).start), (.slice xa110 (txO l0 l1).reads.length xc111), (.slice a208 ((txO l0 l1).writes ++ [pw]).length cap209)], 75⟩] [] := S287
   refine stGives S287 rfl (ex_fn (vs := #[(.slice none 0 0), (.agg #[(.int .i64 (txO l0 l1).start), (.slice xa110 (txO l0 l1).reads.length xc111), (.slice a208 ((txO l0 l1).writes ++ [pw]).length cap209)]), (.slice (some ⟨n276, 0, none⟩) 1 1), (.slice (some ⟨n279, 0, none⟩) 1 1)]) (map4 rfl rfl rfl rfl) rfl (ent_48 _ _)) (lookBadIs_spec _ _ _ _ _ _ [] (⟨(txO l0 l1).start, (txO l0 l1).reads, ((txO l0 l1).writes ++ [pw])⟩ : Tx) ([1] : By) ([1] : By) (S287).sat (Sl.nil _ _ _) ⟨_, _, _, _, rfl, (r114.mono ((((le169.trans le270).trans le274).trans le283).trans le288)), (hv275.mono (le283.trans le288))⟩ (r286.mono le288) r291 (fun r hr => by rcases List.mem_append.1 hr with hr | hr; exact (hT.1.writes r hr).small; rw [List.mem_singleton.1 hr]; exact (hT.1.writes pw (List.mem_of_getElem? hpw)).small) (bothNil.trans hA)) ?_
   intro v297 w292 F294 S293 le295 R296
   obtain ⟨_, rfl, a298, c299, rfl, r300⟩ := R296
   simp only [pS, pN, pA, pC, pZ]
   refine do_ rfl (.tuple #[(.agg #[(.bool false), (.slice a298 ([] : By).length c299)]), (.bool false), (.int .i64 3)]) (ex_move _) ?_
   simp only [pS, pN, pA, pC, pZ]
   refine do_ rfl (.agg #[(.bool false), (.slice a298 ([] : By).length c299)]) (ex_extract rfl rfl) ?_
   simp only [pS, pN, pA, pC, pZ]
   refine do_ rfl (.bool false) (ex_extract rfl rfl) ?_
   simp only [pS, pN, pA, pC, pZ]
   refine do_ rfl (.int .i64 3) (ex_extract rfl rfl) ?_
   simp only [pS, pN, pA, pC, pZ]
   refine stNew S293 (v := fun n => .pointer (some ⟨n, 0, none⟩)) rfl (ex_alloc (zero_38 _)) (fun n301 w302 S303 => ?_)
   simp only [pS, pN, pA, pC, pZ]
   have S303 : St W (whole W) w302 F294 [⟨n301, [(.bool false), (.slice none 0 0)], 38⟩, ⟨n217, [(.int .i64 (txO l0 l1).start), (.slice a259 ((txO l0 l1).reads ++ [pr]).length cap260), (.slice xa112 (txO l0 l1).writes.length xc113)], 75⟩, ⟨n130, [(.int .i64 (txO l0 l1).start), (.slice xa110 (txO l0 l1).reads.length xc111), (.slice a208 ((txO l0 l1).writes ++ [pw]).length cap209)], 75⟩] [] := S303
   refine stStore (i := 0) (v := (.agg #[(.bool false), (.slice a298 ([] : By).length c299)])) S303 rfl rfl rfl rfl (size_38) (allc2 rfl rfl) (Nat.le_of_ble_eq_true rfl) (fun w304 S305 => ?_)
   simp only [pS, pN, pA, pC, pZ]
   have S305 : St W (whole W) w304 F294 [⟨n301, [(.bool false), (.slice a298 ([] : By).length c299)], 38⟩, ⟨n217, [(.int .i64 (txO l0 l1).start), (.slice a259 ((txO l0 l1).reads ++ [pr]).length cap260), (.slice xa112 (txO l0 l1).writes.length xc113)], 75⟩, ⟨n130, [(.int .i64 (txO l0 l1).start), (.slice xa110 (txO l0 l1).reads.length xc111), (.slice a208 ((txO l0 l1).writes ++ [pw]).length cap209)], 75⟩] [] := S305
   refine do_ rfl (.bool false) (ex_assign _) ?_
   simp only [pS, pN, pA, pC, pZ]
   refine do_ rfl (.int .i64 3) (ex_assign _) ?_
   simp only [pS, pN, pA, pC, pZ]
   refine wl_nil (hK267 _ _ ?_)
   refine wp_seq_k (fun K306 hK306 => region_wl ?_)
   refine do_ rfl (.agg #[(.int .i64 (txO l0 l1).start), (.slice a259 ((txO l0 l1).reads ++ [pr]).length cap260), (.slice xa112 (txO l0 l1).writes.length xc113)]) (ex_load rfl (loadN (cs := [(.int .i64 (txO l0 l1).start), (.slice a259 ((txO l0 l1).reads ++ [pr]).length cap260), (.slice xa112 (txO l0 l1).writes.length xc113)]) Try.underlying75 rfl (size_75) (St.range S305 (i := 1) rfl 0 [(.int .i64 (txO l0 l1).start), (.slice a259 ((txO l0 l1).reads ++ [pr]).length cap260), (.slice xa112 (txO l0 l1).writes.length xc113)] (sub_range 0 rfl)))) ?_
   simp only [pS, pN, pA, pC, pZ]
   refine stTells (v := (.tuple #[(.bool false), (.int .i64 3)])) S305 rfl (ex_fn (vs := #[(.agg #[(.int .i64 (txO l0 l1).start), (.slice a259 ((txO l0 l1).reads ++ [pr]).length cap260), (.slice xa112 (txO l0 l1).writes.length xc113)]), (.slice none 0 0)]) (map2 rfl rfl) rfl (ent_47 _ _)) (clashBad_spec _ _ _ _ (⟨(txO l0 l1).start, ((txO l0 l1).reads ++ [pr]), (txO l0 l1).writes⟩ : Tx) [] (S305).sat ⟨_, _, _, _, rfl, (hv271.mono (((le274.trans le283).trans le288).trans le295)), (r115.mono (((((le169.trans le270).trans le274).trans le283).trans le288).trans le295))⟩ (Sl.nil _ _ _) (by simp) (fun r hr => (hT.1.writes r hr).small) hB) (fun w307 S308 => ?_)
   simp only [pS, pN, pA, pC, pZ]
   refine do_ rfl (.tuple #[(.bool false), (.int .i64 3)]) (ex_move _) ?_
   simp only [pS, pN, pA, pC, pZ]
   refine do_ rfl (.bool false) (ex_extract rfl rfl) ?_
   simp only [pS, pN, pA, pC, pZ]
   refine do_ rfl (.int .i64 3) (ex_extract rfl rfl) ?_
   simp only [pS, pN, pA, pC, pZ]
   refine do_ rfl (.bool false) (ex_assign _) ?_
   simp only [pS, pN, pA, pC, pZ]
   refine do_ rfl (.int .i64 3) (ex_assign _) ?_
   simp only [pS, pN, pA, pC, pZ]
   refine wl_nil (hK306 _ _ ?_)
   refine wp_seq_k (fun K309 hK309 => region_wl ?_)
   refine do_ rfl (.agg #[(.int .i64 (txO l0 l1).start), (.slice xa110 (txO l0 l1).reads.length xc111), (.slice a208 ((txO l0 l1).writes ++ [pw]).length cap209)]) (ex_load rfl (loadN (cs := [(.int .i64 (txO l0 l1).start), (.slice xa110 (txO l0 l1).reads.length xc111), (.slice a208 ((txO l0 l1).writes ++ [pw]).length cap209)]) Try.underlying75 rfl (size_75) (St.range S308 (i := 2) rfl 0 [(.int .i64 (txO l0 l1).start), (.slice xa110 (txO l0 l1).reads.length xc111), (.slice a208 ((txO l0 l1).writes ++ [pw]).length cap209)] (sub_range 0 rfl)))) ?_
   simp only [pS, pN, pA, pC, pZ]
   refine stTells (v := (.int .i64 3)) S308 rfl (ex_fn (vs := #[(.agg #[(.int .i64 (txO l0 l1).start), (.slice xa110 (txO l0 l1).reads.length xc111), (.slice a208 ((txO l0 l1).writes ++ [pw]).length cap209)])]) (map1 rfl) rfl (ent_51 _ _)) (txnCheckIs_spec _ _ _ (⟨(txO l0 l1).start, (txO l0 l1).reads, ((txO l0 l1).writes ++ [pw])⟩ : Tx) (S308).sat ⟨_, _, _, _, rfl, (r114.mono (((((le169.trans le270).trans le274).trans le283).trans le288).trans le295)), (hv275.mono ((le283.trans le288).trans le295))⟩ (fun r hr => by rcases List.mem_append.1 hr with hr | hr; exact (hT.1.writes r hr).small; rw [List.mem_singleton.1 hr]; exact (hT.1.writes pw (List.mem_of_getElem? hpw)).small) hA) (fun w310 S311 => ?_)
   simp only [pS, pN, pA, pC, pZ]
   refine do_ rfl (.bool true) (ex_eql (b := true) rfl rfl (by decide)) ?_
   simp only [pS, pN, pA, pC, pZ]
   refine do_ rfl (.bool true) (ex_move _) ?_
   simp only [pS, pN, pA, pC, pZ]
   refine do_ rfl (.agg #[(.int .i64 (txO l0 l1).start), (.slice a259 ((txO l0 l1).reads ++ [pr]).length cap260), (.slice xa112 (txO l0 l1).writes.length xc113)]) (ex_load rfl (loadN (cs := [(.int .i64 (txO l0 l1).start), (.slice a259 ((txO l0 l1).reads ++ [pr]).length cap260), (.slice xa112 (txO l0 l1).writes.length xc113)]) Try.underlying75 rfl (size_75) (St.range S311 (i := 1) rfl 0 [(.int .i64 (txO l0 l1).start), (.slice a259 ((txO l0 l1).reads ++ [pr]).length cap260), (.slice xa112 (txO l0 l1).writes.length xc113)] (sub_range 0 rfl)))) ?_
   simp only [pS, pN, pA, pC, pZ]
   refine stTells (v := (.int .i64 3)) S311 rfl (ex_fn (vs := #[(.agg #[(.int .i64 (txO l0 l1).start), (.slice a259 ((txO l0 l1).reads ++ [pr]).length cap260), (.slice xa112 (txO l0 l1).writes.length xc113)])]) (map1 rfl) rfl (ent_51 _ _)) (txnCheckIs_spec _ _ _ (⟨(txO l0 l1).start, ((txO l0 l1).reads ++ [pr]), (txO l0 l1).writes⟩ : Tx) (S311).sat ⟨_, _, _, _, rfl, (hv271.mono (((le274.trans le283).trans le288).trans le295)), (r115.mono (((((le169.trans le270).trans le274).trans le283).trans le288).trans le295))⟩ (fun r hr => (hT.1.writes r hr).small) hB) (fun w312 S313 => ?_)
   simp only [pS, pN, pA, pC, pZ]
   refine do_ rfl (.bool true) (ex_eql (b := true) rfl rfl (by decide)) ?_
   simp only [pS, pN, pA, pC, pZ]
   refine do_ rfl (.bool true) (ex_pick (b := true) rfl) ?_
   simp only [pS, pN, pA, pC, pZ]
   refine do_ rfl (.bool true) (ex_move _) ?_
   simp only [pS, pN, pA, pC, pZ]
   refine do_ rfl (.int .i64 3) (ex_move _) ?_
   simp only [pS, pN, pA, pC, pZ]
   refine do_ rfl (.bool true) (ex_eql (b := true) rfl rfl (by decide)) ?_
   simp only [pS, pN, pA, pC, pZ]
   refine do_ rfl (.bool true) (ex_pick (b := true) rfl) ?_
   simp only [pS, pN, pA, pC, pZ]
   refine do_ rfl (.bool true) (ex_move _) ?_
   simp only [pS, pN, pA, pC, pZ]
   refine do_ rfl (.int .i64 3) (ex_move _) ?_
   simp only [pS, pN, pA, pC, pZ]
   refine do_ rfl (.bool true) (ex_eql (b := true) rfl rfl (by decide)) ?_
   simp only [pS, pN, pA, pC, pZ]
   refine do_ rfl (.bool true) (ex_pick (b := true) rfl) ?_
   simp only [pS, pN, pA, pC, pZ]
   refine do_ rfl (.bool true) (ex_assign _) ?_
   simp only [pS, pN, pA, pC, pZ]
   refine wl_nil (hK309 _ _ ?_)
   refine wp_ret ?_
   (try simp only [Exit.then, Exit.inBlock, ↓reduceIte, Nat.reduceEqDiff])
   refine bodyPost_ret (v := (.bool true)) ?_ rfl ?_
   ·exact res_t rfl rfl
   ·exact ⟨rfl, S313.gr.below⟩
end Go.Proofs.Ytcpngkkconalhaa
