/- Rules, plain laws and walks: T4b K1 K2 K3 S8 -/
import Derived.Test.YtcanckliggcllaaDoorBY23
namespace Go.Proofs.YtcanckliggcllaaDoor
open Go.RowKit
set_option maxRecDepth 100000
set_option linter.unusedVariables false
set_option linter.unusedSimpArgs false
theorem PrC.one (F : Fz) (cs : List Value) (p : Pr) (h : PrC F cs p) : ∀ u ∈ cs, u.oneCell' = true := h.oneCell
def PrsE (r : List Pr) (e : Int) (F : Fz) (u : Value) : Prop := ∃ x, u = .tuple #[x, .int .i64 e] ∧ Prs F x r
theorem PrsE.mono {F F' : Fz} {u : Value} {r : List Pr} {e : Int} (h : PrsE r e F u) (hl : Le F F') : PrsE r e F' u := by
  obtain ⟨x, rfl, h1⟩ := h; exact ⟨x, rfl, h1.mono hl⟩
def putE (l : List Pr) (p : Pr) : Int := if pairE p ≠ 0 then pairE p else if 60 < (putT l p.1 p.2).length then 11 else 0
def putR (l : List Pr) (p : Pr) : List Pr := if putE l p = 0 then putT l p.1 p.2 else []
theorem hasT_pos {l : List Pr} {k : By} (h : hasT l k = true) : posT l k < l.length := by
  unfold hasT hasBy at h
  rw [List.any_eq_true] at h
  obtain ⟨q, hq, he⟩ := h
  unfold posT posBy
  obtain ⟨i, hi, rfl⟩ := List.mem_iff_getElem.1 hq
  have he' : l[i].1 = k := by simpa using he
  have hpre : (l.takeWhile fun p => Op.bytesLess p.1 k).length ≤ i := by
    rcases Nat.lt_or_ge i (l.takeWhile fun p => Op.bytesLess p.1 k).length with h1 | h1
    · have e : (l.takeWhile fun p => Op.bytesLess p.1 k)[i] = l[i] := (List.takeWhile_prefix _).getElem h1
      have hp := List.all_eq_true.1 (List.all_takeWhile (p := fun p : Pr => Op.bytesLess p.1 k) (l := l)) _ (List.getElem_mem h1)
      rw [e, he', less_irrefl] at hp
      cases hp
    · exact h1
  exact Nat.lt_of_le_of_lt hpre hi
def delE (k : By) : Int := checkN k.length
def delR (l : List Pr) (k : By) : List Pr := if checkN k.length = 0 then delT l k else []
set_option maxHeartbeats 8000000 in
theorem put_spec (F : Fz) (w : World) (v u : Value) (l : List Pr) (p : Pr) (hs : Sat w F) (hv : Prs F v l) (hu : Pr2V F u p) (ok1 : TreeOk 60 l) (hk : p.1.length ≤ 100000) (hx : p.2.length ≤ 100000) :
    Calls Tryd.prog 29 #[v, u] w (Gives w F (PrsE (putR l p) (putE l p))) := by
 have ok := treeE_ok.2 ok1
 have hl60 := ok1.len
 obtain ⟨a, c, rfl, hc1, hc2⟩ := Sl.shape hv
 obtain ⟨x0, y0, x1, y1, rfl, h0, h1⟩ := hu
 unfold maxLen at hc2
 obtain ⟨i38, hi38, hz38, hs38, hb38⟩ := info_parts info_38
 have S := St.start hs
 go_enter Tryd.func29, Tryd.ntmps29
 refine wp_seq_k (fun K1 hK1 => region_wl ?_)
 refine stNew S (v := fun n => .pointer (some ⟨n, 0, none⟩)) rfl (ex_box (v := (.agg #[(.slice x0 p.1.length y0), (.slice x1 p.2.length y1)])) rfl) (fun n2 w3 S4 => ?_)
 simp only [pS, pN, pA, pC, pZ]
 have S4 : St w F w3 F [⟨n2, [(.slice x0 p.1.length y0), (.slice x1 p.2.length y1)], 38⟩] [] := S4
 refine do_ rfl (.slice none 0 0) (ex_assign _) ?_
 simp only [pS, pN, pA, pC, pZ]
 refine do_ rfl (.int .i64 0) (ex_assign _) ?_
 simp only [pS, pN, pA, pC, pZ]
 refine wl_nil (hK1 _ _ ?_)
 refine wp_seq_k (fun K5 hK5 => ?_)
 refine wp_seq_k (fun K6 hK6 => region_wl ?_)
 refine do_ rfl (.slice a l.length c) (ex_move _) ?_
 simp only [pS, pN, pA, pC, pZ]
 refine stTells (v := (.int .i64 (treeE l))) S4 rfl (ex_fn (vs := #[(.slice a l.length c)]) (map1 rfl) rfl (ent_26 _ _)) (treeCheck_spec _ _ _ l (S4).sat hv) (fun w7 S8 => ?_)
 simp only [pS, pN, pA, pC, pZ]
 refine do_ rfl (.int .i64 (treeE l)) (ex_assign _) ?_
 simp only [pS, pN, pA, pC, pZ]
 refine wl_nil (hK6 _ _ ?_)
 refine wp_seq_k (fun K9 hK9 => region_wl ?_)
 refine do_ rfl (.int .i64 (treeE l)) (ex_move _) ?_
 simp only [pS, pN, pA, pC, pZ]
 refine do_ rfl (.bool false) (ex_neq (m := (treeE l)) (n := (0 : Int)) (b := false) rfl rfl (bne_eq_false_iff_eq.2 (ok))) ?_
 simp only [pS, pN, pA, pC, pZ]
 refine wl_nil (hK9 _ _ ?_)
 refine wp_cond_false rfl ?_
 refine wp_skip ?_
 refine hK5 _ _ ?_
 refine wp_seq_k (fun K10 hK10 => ?_)
 refine wp_seq_k (fun K11 hK11 => region_wl ?_)
 refine do_ rfl (.agg #[(.slice x0 p.1.length y0), (.slice x1 p.2.length y1)]) (ex_load rfl (loadN (cs := [(.slice x0 p.1.length y0), (.slice x1 p.2.length y1)]) Tryd.underlying38 rfl (size_38) (St.range S8 (i := 0) rfl 0 [(.slice x0 p.1.length y0), (.slice x1 p.2.length y1)] (sub_range 0 rfl)))) ?_
 simp only [pS, pN, pA, pC, pZ]
 refine stTells (v := (.int .i64 (pairE p))) S8 rfl (ex_fn (vs := #[(.agg #[(.slice x0 p.1.length y0), (.slice x1 p.2.length y1)])]) (map1 rfl) rfl (ent_40 _ _)) (pair_spec _ _ _ p (S8).sat ⟨_, _, _, _, rfl, h0, h1⟩) (fun w12 S13 => ?_)
 simp only [pS, pN, pA, pC, pZ]
 refine do_ rfl (.int .i64 (pairE p)) (ex_assign _) ?_
 simp only [pS, pN, pA, pC, pZ]
 refine wl_nil (hK11 _ _ ?_)
 refine wp_seq_k (fun K14 hK14 => region_wl ?_)
 refine do_ rfl (.int .i64 (pairE p)) (ex_move _) ?_
 simp only [pS, pN, pA, pC, pZ]
 by_cases hc19 : (pairE p) = (0 : Int)
 ·refine do_ rfl (.bool false) (ex_neq (m := (pairE p)) (n := (0 : Int)) (b := false) rfl rfl (bne_eq_false_iff_eq.2 (by omega))) ?_
  simp only [pS, pN, pA, pC, pZ]
  refine wl_nil (hK14 _ _ ?_)
  refine wp_cond_false rfl ?_
  refine wp_skip ?_
  refine hK10 _ _ ?_
  refine wp_seq_k (fun K15 hK15 => region_wl ?_)
  refine do_ rfl (.slice a l.length c) (ex_move _) ?_
  simp only [pS, pN, pA, pC, pZ]
  refine stGivesO PrC.mono S13 rfl (ex_fn (vs := #[(.slice a l.length c)]) (map1 rfl) rfl (ent_44 _ _)) (all_spec _ _ _ l (S13).sat hv (by have := ok1.len; omega) (fun p hp => ok1.small hp)) ?_
  intro v20 w16 F18 S17 le19
  simp only [pS, pN, pA, pC, pZ]
  have S17 : St w F w16 F18 [⟨n2, [(.slice x0 p.1.length y0), (.slice x1 p.2.length y1)], 38⟩] [ownP 2 PrC PrC.mono 38 w.heap.size v20 l] := S17
  refine do_ rfl v20 (ex_assign _) ?_
  simp only [pS, pN, pA, pC, pZ]
  refine wl_nil (hK15 _ _ ?_)
  refine wp_seq_k (fun K21 hK21 => region_wl ?_)
  refine do_ rfl v20 (ex_move _) ?_
  simp only [pS, pN, pA, pC, pZ]
  refine do_ rfl (.pointer (some ⟨n2, 0, none⟩)) (ex_field (q := ⟨n2, 0, none⟩) rfl (fa_38_0 _ _)) ?_
  simp only [pS, pN, pA, pC, pZ]
  refine do_ rfl (.slice x0 p.1.length y0) (ex_load rfl (load1 (nagg_22 _) (St.cell S17 (i := 0) rfl rfl))) ?_
  simp only [pS, pN, pA, pC, pZ]
  obtain ⟨F22, hs23, le24, hsl25⟩ := own_peek S17 (i := 0) rfl
  refine stTells (v := (.tuple #[(.int .i64 (((posT l p.1) : Nat) : Int)), (.bool (hasT l p.1))])) S17 rfl (ex_fn (vs := #[v20, (.slice x0 p.1.length y0)]) (map2 rfl rfl) rfl (ent_45 _ _)) (find_spec _ _ _ _ l p.1 hs23 hsl25 ((h0.mono le19).mono le24) ok1.rise (by have := ok1.len; omega)) (fun w26 S27 => ?_)
  simp only [pS, pN, pA, pC, pZ]
  refine do_ rfl (.tuple #[(.int .i64 (((posT l p.1) : Nat) : Int)), (.bool (hasT l p.1))]) (ex_move _) ?_
  simp only [pS, pN, pA, pC, pZ]
  refine do_ rfl (.int .i64 (((posT l p.1) : Nat) : Int)) (ex_extract rfl rfl) ?_
  simp only [pS, pN, pA, pC, pZ]
  refine do_ rfl (.bool (hasT l p.1)) (ex_extract rfl rfl) ?_
  simp only [pS, pN, pA, pC, pZ]
  refine do_ rfl (.int .i64 (((posT l p.1) : Nat) : Int)) (ex_assign _) ?_
  simp only [pS, pN, pA, pC, pZ]
  refine do_ rfl (.bool (hasT l p.1)) (ex_assign _) ?_
  simp only [pS, pN, pA, pC, pZ]
  refine wl_nil (hK21 _ _ ?_)
  refine wp_seq_k (fun K28 hK28 => ?_)
  refine wp_block ?_
  refine wp_seq_k (fun K29 hK29 => region_wl ?_)
  refine do_ rfl (.bool (hasT l p.1)) (ex_move _) ?_
  simp only [pS, pN, pA, pC, pZ]
  refine do_ rfl (.bool (hasT l p.1)) (ex_assign _) ?_
  simp only [pS, pN, pA, pC, pZ]
  refine wl_nil (hK29 _ _ ?_)
  refine wp_cond_split rfl (fun hc30 => ?_) (fun hc30 => ?_)
  ·have hpos0 := hasT_pos hc30
   obtain ⟨g31, cap32, rfl, h33, h34, _⟩ := (S27.own (i := 0) rfl).form (by omega)
   unfold maxLen at h34
   refine region_wl ?_
   refine do_ rfl (.slice (some ⟨g31, 0, none⟩) l.length cap32) (ex_move _) ?_
   simp only [pS, pN, pA, pC, pZ]
   refine do_ rfl (.int .i64 (((posT l p.1) : Nat) : Int)) (ex_move _) ?_
   simp only [pS, pN, pA, pC, pZ]
   refine do_ rfl (.agg #[(.slice x0 p.1.length y0), (.slice x1 p.2.length y1)]) (ex_load rfl (loadN (cs := [(.slice x0 p.1.length y0), (.slice x1 p.2.length y1)]) Tryd.underlying38 rfl (size_38) (St.range S27 (i := 0) rfl 0 [(.slice x0 p.1.length y0), (.slice x1 p.2.length y1)] (sub_range 0 rfl)))) ?_
   simp only [pS, pN, pA, pC, pZ]
   refine stGives S27 rfl (ex_fn (vs := #[(.agg #[(.slice x0 p.1.length y0), (.slice x1 p.2.length y1)])]) (map1 rfl) rfl (ent_46 _ _)) (own2_spec _ _ _ p (S27).sat ⟨_, _, _, _, rfl, (h0.mono le19), (h1.mono le19)⟩ (by omega) (by omega)) ?_
   intro v41 w36 F38 S37 le39 R40
   obtain ⟨xa42, xc43, xa44, xc45, rfl, r46, r47⟩ := R40
   simp only [pS, pN, pA, pC, pZ]
   have hpos := hasT_pos hc30
   refine do_ rfl (.pointer (some ⟨g31, 0 + (posT l p.1) * 2, none⟩)) (ex_at (i := (posT l p.1)) (sz := 2) Tryd.underlying40 (sizeof_38 _) rfl rfl rfl (hpos) rfl) ?_
   simp only [pS, pN, pA, pC, pZ]
   refine stSetRow (r := 0) (i := (posT l p.1)) (p := p) (u := (.agg #[(.slice xa42 p.1.length xc43), (.slice xa44 p.2.length xc45)])) S37 rfl rfl (by omega) rfl rfl (by omega) (size_38) (allc2 rfl rfl) rfl ⟨_, _, rfl, r46, r47⟩ (Nat.le_refl _) (fun w48 S49 => ?_)
   simp only [pS, pN, pA, pC, pZ]
   have S49 : St w F w48 F38 [⟨n2, [(.slice x0 p.1.length y0), (.slice x1 p.2.length y1)], 38⟩] [ownP 2 PrC PrC.mono 38 w.heap.size (.slice (some ⟨g31, 0, none⟩) l.length cap32) (l.set (posT l p.1) p)] := S49
   refine wl_nil (hK28 _ _ ?_)
   refine wp_seq_k (fun K50 hK50 => region_wl ?_)
   refine do_ rfl (.slice (some ⟨g31, 0, none⟩) l.length cap32) (ex_move _) ?_
   simp only [pS, pN, pA, pC, pZ]
   refine do_ rfl (.slice (some ⟨g31, 0, none⟩) l.length cap32) (ex_assign _) ?_
   simp only [pS, pN, pA, pC, pZ]
   refine do_ rfl (.int .i64 0) (ex_assign _) ?_
   simp only [pS, pN, pA, pC, pZ]
   refine wl_nil (hK50 _ _ ?_)
   refine wp_ret ?_
   (try simp only [Exit.then, Exit.inBlock, ↓reduceIte, Nat.reduceEqDiff])
   refine bodyPost_ret (v := (.tuple #[(.slice (some ⟨g31, 0, none⟩) l.length cap32), (.int .i64 0)])) ?_ rfl ?_
   ·exact res_tt rfl rfl rfl
   ·have hpp : pairE p = 0 := by omega
    have hlen := len_putT l p.1 p.2
    have hl60 := ok1.len
    rw [if_pos hc30] at hlen
    have hput := putT_have (v := p.2) hc30
    have he : putE l p = 0 := by unfold putE; rw [if_neg (by omega), if_neg (by omega)]
    unfold putR
    rw [he, if_pos rfl, hput]
    obtain ⟨F51, S52, le53, hv54⟩ := St.freeze S49 (i := 0) rfl (Nat.le_refl _)
    have S52 : St w F w48 F51 [⟨n2, [(.slice x0 p.1.length y0), (.slice x1 p.2.length y1)], 38⟩] [] := S52
    have hv54 : Prs _ (.slice (some ⟨g31, 0, none⟩) l.length cap32) (l.set (posT l p.1) p) := hv54
    exact ⟨_, _, rfl, S52.gr, _, rfl, hv54⟩
  ·refine wp_seq_k (fun K55 hK55 => region_wl ?_)
   refine do_ rfl (.slice a l.length c) (ex_move _) ?_
   simp only [pS, pN, pA, pC, pZ]
   refine do_ rfl (.int .i64 ((l.length : Nat) : Int)) (ex_len Tryd.underlying40 rfl) ?_
   simp only [pS, pN, pA, pC, pZ]
   by_cases hc46 : l.length = 60
   ·refine do_ rfl (.bool true) (ex_eql (m := ((l.length : Nat) : Int)) (n := (60 : Int)) (b := true) rfl rfl (beq_iff_eq.2 (by omega))) ?_
    simp only [pS, pN, pA, pC, pZ]
    refine do_ rfl (.bool true) (ex_assign _) ?_
    simp only [pS, pN, pA, pC, pZ]
    refine wl_nil (hK55 _ _ ?_)
    refine wp_cond_true rfl ?_
    refine wp_seq_k (fun K56 hK56 => region_wl ?_)
    refine do_ rfl (.slice none 0 0) (ex_assign _) ?_
    simp only [pS, pN, pA, pC, pZ]
    refine do_ rfl (.int .i64 11) (ex_assign _) ?_
    simp only [pS, pN, pA, pC, pZ]
    refine wl_nil (hK56 _ _ ?_)
    refine wp_ret ?_
    (try simp only [Exit.then, Exit.inBlock, ↓reduceIte, Nat.reduceEqDiff])
    refine bodyPost_ret (v := (.tuple #[(.slice none 0 0), (.int .i64 11)])) ?_ rfl ?_
    ·exact res_tt rfl rfl rfl
    ·have hpp : pairE p = 0 := by omega
     have hlen := len_putT l p.1 p.2
     have hl60 := ok1.len
     rw [if_neg (by rw [hc30]; simp)] at hlen
     have he : putE l p = 11 := by unfold putE; rw [if_neg (by omega), if_pos (by omega)]
     unfold putR
     rw [he, if_neg (by decide)]
     exact ⟨_, _, rfl, S27.gr, _, rfl, Sl.nil _ _ _⟩
   ·refine do_ rfl (.bool false) (ex_eql (m := ((l.length : Nat) : Int)) (n := (60 : Int)) (b := false) rfl rfl (beq_eq_false_iff_ne.2 (by omega))) ?_
    simp only [pS, pN, pA, pC, pZ]
    refine do_ rfl (.bool false) (ex_assign _) ?_
    simp only [pS, pN, pA, pC, pZ]
    refine wl_nil (hK55 _ _ ?_)
    refine wp_cond_false rfl ?_
    refine region_wl ?_
    refine do_ rfl v20 (ex_move _) ?_
    simp only [pS, pN, pA, pC, pZ]
    refine do_ rfl (.int .i64 (((posT l p.1) : Nat) : Int)) (ex_move _) ?_
    simp only [pS, pN, pA, pC, pZ]
    refine do_ rfl (.agg #[(.slice x0 p.1.length y0), (.slice x1 p.2.length y1)]) (ex_load rfl (loadN (cs := [(.slice x0 p.1.length y0), (.slice x1 p.2.length y1)]) Tryd.underlying38 rfl (size_38) (St.range S27 (i := 0) rfl 0 [(.slice x0 p.1.length y0), (.slice x1 p.2.length y1)] (sub_range 0 rfl)))) ?_
    simp only [pS, pN, pA, pC, pZ]
    refine stGives S27 rfl (ex_fn (vs := #[(.agg #[(.slice x0 p.1.length y0), (.slice x1 p.2.length y1)])]) (map1 rfl) rfl (ent_46 _ _)) (own2_spec _ _ _ p (S27).sat ⟨_, _, _, _, rfl, (h0.mono le19), (h1.mono le19)⟩ (by omega) (by omega)) ?_
    intro v62 w57 F59 S58 le60 R61
    obtain ⟨xa63, xc64, xa65, xc66, rfl, r67, r68⟩ := R61
    simp only [pS, pN, pA, pC, pZ]
    refine stNew S58 (v := fun n => .slice (some ⟨n, 0, none⟩) 1 1) rfl (ex_lit (ps := #[(0, (.agg #[(.slice xa63 p.1.length xc64), (.slice xa65 p.2.length xc66)]))]) (cells := #[(.slice xa63 p.1.length xc64), (.slice xa65 p.2.length xc66)]) (E := 38) (bmap1 rfl) (fun w => by kernel_rfl)) (fun n69 w70 S71 => ?_)
    simp only [pS, pN, pA, pC, pZ]
    have S71 : St w F w70 F59 [⟨n69, [(.slice xa63 p.1.length xc64), (.slice xa65 p.2.length xc66)], 38⟩, ⟨n2, [(.slice x0 p.1.length y0), (.slice x1 p.2.length y1)], 38⟩] [ownP 2 PrC PrC.mono 38 w.heap.size v20 l] := S71
    refine stOwn (L := [⟨n2, [(.slice x0 p.1.length y0), (.slice x1 p.2.length y1)], 38⟩]) (M := fun v_ => [ownP 2 PrC PrC.mono 38 w.heap.size v_ (l.take (posT l p.1) ++ p :: l.drop (posT l p.1))]) rfl (ex_fn (vs := #[v20, (.int .i64 (((posT l p.1) : Nat) : Int)), (.slice (some ⟨n69, 0, none⟩) 1 1)]) (map3 rfl rfl rfl) rfl (ent_47 _ _)) (insertPair (p := p) PrC.one S71 rfl ⟨_, _, rfl, r67, r68⟩ (by omega) (posBy_le _ _ _)) ?_
    intro v72 w73 S74
    simp only [pS, pN, pA, pC, pZ]
    have S74 : St w F w73 F59 [⟨n2, [(.slice x0 p.1.length y0), (.slice x1 p.2.length y1)], 38⟩] [ownP 2 PrC PrC.mono 38 w.heap.size v72 (l.take (posT l p.1) ++ p :: l.drop (posT l p.1))] := S74
    refine do_ rfl v72 (ex_assign _) ?_
    simp only [pS, pN, pA, pC, pZ]
    refine wl_nil (hK28 _ _ ?_)
    refine wp_seq_k (fun K75 hK75 => region_wl ?_)
    refine do_ rfl v72 (ex_move _) ?_
    simp only [pS, pN, pA, pC, pZ]
    refine do_ rfl v72 (ex_assign _) ?_
    simp only [pS, pN, pA, pC, pZ]
    refine do_ rfl (.int .i64 0) (ex_assign _) ?_
    simp only [pS, pN, pA, pC, pZ]
    refine wl_nil (hK75 _ _ ?_)
    refine wp_ret ?_
    (try simp only [Exit.then, Exit.inBlock, ↓reduceIte, Nat.reduceEqDiff])
    refine bodyPost_ret (v := (.tuple #[v72, (.int .i64 0)])) ?_ rfl ?_
    ·exact res_tt rfl rfl rfl
    ·have hpp : pairE p = 0 := by omega
     have hlen := len_putT l p.1 p.2
     have hl60 := ok1.len
     rw [if_neg (by rw [hc30]; simp)] at hlen
     have hput := putT_new (v := p.2) (by rw [hc30]; simp)
     have he : putE l p = 0 := by unfold putE; rw [if_neg (by omega), if_neg (by omega)]
     unfold putR
     rw [he, if_pos rfl, hput]
     obtain ⟨F76, S77, le78, hv79⟩ := St.freeze S74 (i := 0) rfl (Nat.le_refl _)
     have S77 : St w F w73 F76 [⟨n2, [(.slice x0 p.1.length y0), (.slice x1 p.2.length y1)], 38⟩] [] := S77
     have hv79 : Prs _ v72 (l.take (posT l p.1) ++ p :: l.drop (posT l p.1)) := hv79
     exact ⟨_, _, rfl, S77.gr, _, rfl, hv79⟩
 ·refine do_ rfl (.bool true) (ex_neq (m := (pairE p)) (n := (0 : Int)) (b := true) rfl rfl (bne_iff_ne.2 (by omega))) ?_
  simp only [pS, pN, pA, pC, pZ]
  refine wl_nil (hK14 _ _ ?_)
  refine wp_cond_true rfl ?_
  refine wp_seq_k (fun K80 hK80 => region_wl ?_)
  refine do_ rfl (.int .i64 (pairE p)) (ex_move _) ?_
  simp only [pS, pN, pA, pC, pZ]
  refine do_ rfl (.slice none 0 0) (ex_assign _) ?_
  simp only [pS, pN, pA, pC, pZ]
  refine do_ rfl (.int .i64 (pairE p)) (ex_assign _) ?_
  simp only [pS, pN, pA, pC, pZ]
  refine wl_nil (hK80 _ _ ?_)
  refine wp_ret ?_
  (try simp only [Exit.then, Exit.inBlock, ↓reduceIte, Nat.reduceEqDiff])
  refine bodyPost_ret (v := (.tuple #[(.slice none 0 0), (.int .i64 (pairE p))])) ?_ rfl ?_
  ·exact res_tt rfl rfl rfl
  ·have he : putE l p = pairE p := by unfold putE; rw [if_pos hc19]
   unfold putR
   rw [he, if_neg hc19]
   exact ⟨_, _, rfl, S13.gr, _, rfl, Sl.nil _ _ _⟩
set_option maxHeartbeats 8000000 in
theorem delete_spec (F : Fz) (w : World) (v u : Value) (l : List Pr) (k : By) (hs : Sat w F) (hv : Prs F v l) (hu : Bs F u k) (ok1 : TreeOk 60 l) :
    Calls Tryd.prog 31 #[v, u] w (Gives w F (PrsE (delR l k) (delE k))) := by
 have ok := treeE_ok.2 ok1
 have hl60 := ok1.len
 obtain ⟨a, c, rfl, hc1, hc2⟩ := Sl.shape hv
 obtain ⟨a2, c2, rfl, _⟩ := hu.shape
 unfold maxLen at hc2
 obtain ⟨i38, hi38, hz38, hs38, hb38⟩ := info_parts info_38
 have S := St.start hs
 go_enter Tryd.func31, Tryd.ntmps31
 refine wp_seq_k (fun K1 hK1 => region_wl ?_)
 refine do_ rfl (.slice none 0 0) (ex_assign _) ?_
 simp only [pS, pN, pA, pC, pZ]
 refine do_ rfl (.int .i64 0) (ex_assign _) ?_
 simp only [pS, pN, pA, pC, pZ]
 refine wl_nil (hK1 _ _ ?_)
 refine wp_seq_k (fun K2 hK2 => ?_)
 refine wp_seq_k (fun K3 hK3 => region_wl ?_)
 refine do_ rfl (.slice a l.length c) (ex_move _) ?_
 simp only [pS, pN, pA, pC, pZ]
 refine stTells (v := (.int .i64 (treeE l))) S rfl (ex_fn (vs := #[(.slice a l.length c)]) (map1 rfl) rfl (ent_26 _ _)) (treeCheck_spec _ _ _ l (S).sat hv) (fun w4 S5 => ?_)
 simp only [pS, pN, pA, pC, pZ]
 refine do_ rfl (.int .i64 (treeE l)) (ex_assign _) ?_
 simp only [pS, pN, pA, pC, pZ]
 refine wl_nil (hK3 _ _ ?_)
 refine wp_seq_k (fun K6 hK6 => region_wl ?_)
 refine do_ rfl (.int .i64 (treeE l)) (ex_move _) ?_
 simp only [pS, pN, pA, pC, pZ]
 refine do_ rfl (.bool false) (ex_neq (m := (treeE l)) (n := (0 : Int)) (b := false) rfl rfl (bne_eq_false_iff_eq.2 (ok))) ?_
 simp only [pS, pN, pA, pC, pZ]
 refine wl_nil (hK6 _ _ ?_)
 refine wp_cond_false rfl ?_
 refine wp_skip ?_
 refine hK2 _ _ ?_
 refine wp_seq_k (fun K7 hK7 => ?_)
 refine wp_seq_k (fun K8 hK8 => region_wl ?_)
 refine do_ rfl (.slice a2 k.length c2) (ex_move _) ?_
 simp only [pS, pN, pA, pC, pZ]
 refine stTells (v := (.int .i64 (checkN k.length))) S5 rfl (ex_fn (vs := #[(.slice a2 k.length c2)]) (map1 rfl) rfl (ent_38 _ _)) (tells_same (check_spec _ _ _ k hu)) (fun w9 S10 => ?_)
 simp only [pS, pN, pA, pC, pZ]
 refine do_ rfl (.int .i64 (checkN k.length)) (ex_assign _) ?_
 simp only [pS, pN, pA, pC, pZ]
 refine wl_nil (hK8 _ _ ?_)
 refine wp_seq_k (fun K11 hK11 => region_wl ?_)
 refine do_ rfl (.int .i64 (checkN k.length)) (ex_move _) ?_
 simp only [pS, pN, pA, pC, pZ]
 by_cases hc19 : (checkN k.length) = (0 : Int)
 ·refine do_ rfl (.bool false) (ex_neq (m := (checkN k.length)) (n := (0 : Int)) (b := false) rfl rfl (bne_eq_false_iff_eq.2 (by omega))) ?_
  simp only [pS, pN, pA, pC, pZ]
  refine wl_nil (hK11 _ _ ?_)
  refine wp_cond_false rfl ?_
  refine wp_skip ?_
  refine hK7 _ _ ?_
  refine wp_seq_k (fun K12 hK12 => region_wl ?_)
  refine do_ rfl (.slice a l.length c) (ex_move _) ?_
  simp only [pS, pN, pA, pC, pZ]
  refine stGivesO PrC.mono S10 rfl (ex_fn (vs := #[(.slice a l.length c)]) (map1 rfl) rfl (ent_44 _ _)) (all_spec _ _ _ l (S10).sat hv (by have := ok1.len; omega) (fun p hp => ok1.small hp)) ?_
  intro v17 w13 F15 S14 le16
  simp only [pS, pN, pA, pC, pZ]
  have S14 : St w F w13 F15 [] [ownP 2 PrC PrC.mono 38 w.heap.size v17 l] := S14
  refine do_ rfl v17 (ex_assign _) ?_
  simp only [pS, pN, pA, pC, pZ]
  refine wl_nil (hK12 _ _ ?_)
  refine wp_seq_k (fun K18 hK18 => ?_)
  refine wp_seq_k (fun K19 hK19 => region_wl ?_)
  refine do_ rfl v17 (ex_move _) ?_
  simp only [pS, pN, pA, pC, pZ]
  refine do_ rfl (.slice a2 k.length c2) (ex_move _) ?_
  simp only [pS, pN, pA, pC, pZ]
  obtain ⟨F20, hs21, le22, hsl23⟩ := own_peek S14 (i := 0) rfl
  refine stTells (v := (.tuple #[(.int .i64 (((posT l k) : Nat) : Int)), (.bool (hasT l k))])) S14 rfl (ex_fn (vs := #[v17, (.slice a2 k.length c2)]) (map2 rfl rfl) rfl (ent_45 _ _)) (find_spec _ _ _ _ l k hs21 hsl23 ((hu.mono le16).mono le22) ok1.rise (by have := ok1.len; omega)) (fun w24 S25 => ?_)
  simp only [pS, pN, pA, pC, pZ]
  refine do_ rfl (.tuple #[(.int .i64 (((posT l k) : Nat) : Int)), (.bool (hasT l k))]) (ex_move _) ?_
  simp only [pS, pN, pA, pC, pZ]
  refine do_ rfl (.int .i64 (((posT l k) : Nat) : Int)) (ex_extract rfl rfl) ?_
  simp only [pS, pN, pA, pC, pZ]
  refine do_ rfl (.bool (hasT l k)) (ex_extract rfl rfl) ?_
  simp only [pS, pN, pA, pC, pZ]
  refine do_ rfl (.int .i64 (((posT l k) : Nat) : Int)) (ex_assign _) ?_
  simp only [pS, pN, pA, pC, pZ]
  refine do_ rfl (.bool (hasT l k)) (ex_assign _) ?_
  simp only [pS, pN, pA, pC, pZ]
  refine wl_nil (hK19 _ _ ?_)
  refine wp_seq_k (fun K26 hK26 => region_wl ?_)
  refine do_ rfl (.bool (hasT l k)) (ex_move _) ?_
  simp only [pS, pN, pA, pC, pZ]
  refine wl_nil (hK26 _ _ ?_)
  refine wp_cond_split rfl (fun hc27 => ?_) (fun hc27 => ?_)
  ·have hpos := hasT_pos hc27
   refine region_wl ?_
   refine do_ rfl v17 (ex_move _) ?_
   simp only [pS, pN, pA, pC, pZ]
   refine do_ rfl (.int .i64 (((posT l k) : Nat) : Int)) (ex_move _) ?_
   simp only [pS, pN, pA, pC, pZ]
   refine do_ rfl (.int .i64 (((posT l k) : Nat) : Int)) (ex_move _) ?_
   simp only [pS, pN, pA, pC, pZ]
   refine do_ rfl (.int .i64 ((((posT l k) + 1) : Nat) : Int)) (ex_add (m := (((posT l k) : Nat) : Int)) (n := (1 : Int)) (r := ((((posT l k) + 1) : Nat) : Int)) rfl rfl (by omega) (by omega) (by omega)) ?_
   simp only [pS, pN, pA, pC, pZ]
   refine stOwn (L := []) (M := fun v_ => [ownP 2 PrC PrC.mono 38 w.heap.size v_ (l.take (posT l k) ++ l.drop ((posT l k) + 1))]) rfl (ex_fn (vs := #[v17, (.int .i64 (((posT l k) : Nat) : Int)), (.int .i64 ((((posT l k) + 1) : Nat) : Int))]) (map3 rfl rfl rfl) rfl (ent_48 _ _)) (deletePair PrC.one S25 (by omega) (hpos)) ?_
   intro v28 w29 S30
   simp only [pS, pN, pA, pC, pZ]
   have S30 : St w F w29 F15 [] [ownP 2 PrC PrC.mono 38 w.heap.size v28 (l.take (posT l k) ++ l.drop ((posT l k) + 1))] := S30
   refine do_ rfl v28 (ex_assign _) ?_
   simp only [pS, pN, pA, pC, pZ]
   refine wl_nil (hK18 _ _ ?_)
   refine wp_seq_k (fun K31 hK31 => region_wl ?_)
   refine do_ rfl v28 (ex_move _) ?_
   simp only [pS, pN, pA, pC, pZ]
   refine do_ rfl v28 (ex_assign _) ?_
   simp only [pS, pN, pA, pC, pZ]
   refine do_ rfl (.int .i64 0) (ex_assign _) ?_
   simp only [pS, pN, pA, pC, pZ]
   refine wl_nil (hK31 _ _ ?_)
   refine wp_ret ?_
   (try simp only [Exit.then, Exit.inBlock, ↓reduceIte, Nat.reduceEqDiff])
   refine bodyPost_ret (v := (.tuple #[v28, (.int .i64 0)])) ?_ rfl ?_
   ·exact res_tt rfl rfl rfl
   ·have hcc : checkN k.length = 0 := by omega
    unfold delR delE delT
    rw [hcc, if_pos rfl, if_pos hc27]
    obtain ⟨F32, S33, le34, hv35⟩ := St.freeze S30 (i := 0) rfl (Nat.le_refl _)
    have S33 : St w F w29 F32 [] [] := S33
    have hv35 : Prs _ v28 (l.take (posT l k) ++ l.drop ((posT l k) + 1)) := hv35
    exact ⟨_, _, rfl, S33.gr, _, rfl, hv35⟩
  ·refine wp_skip ?_
   refine hK18 _ _ ?_
   refine wp_seq_k (fun K36 hK36 => region_wl ?_)
   refine do_ rfl v17 (ex_move _) ?_
   simp only [pS, pN, pA, pC, pZ]
   refine do_ rfl v17 (ex_assign _) ?_
   simp only [pS, pN, pA, pC, pZ]
   refine do_ rfl (.int .i64 0) (ex_assign _) ?_
   simp only [pS, pN, pA, pC, pZ]
   refine wl_nil (hK36 _ _ ?_)
   refine wp_ret ?_
   (try simp only [Exit.then, Exit.inBlock, ↓reduceIte, Nat.reduceEqDiff])
   refine bodyPost_ret (v := (.tuple #[v17, (.int .i64 0)])) ?_ rfl ?_
   ·exact res_tt rfl rfl rfl
   ·have hcc : checkN k.length = 0 := by omega
    unfold delR delE delT
    rw [hcc, if_pos rfl, if_neg (by rw [hc27]; simp)]
    obtain ⟨F37, S38, le39, hv40⟩ := St.freeze S25 (i := 0) rfl (Nat.le_refl _)
    have S38 : St w F w24 F37 [] [] := S38
    have hv40 : Prs _ v17 l := hv40
    exact ⟨_, _, rfl, S38.gr, _, rfl, hv40⟩
 ·refine do_ rfl (.bool true) (ex_neq (m := (checkN k.length)) (n := (0 : Int)) (b := true) rfl rfl (bne_iff_ne.2 (by omega))) ?_
  simp only [pS, pN, pA, pC, pZ]
  refine wl_nil (hK11 _ _ ?_)
  refine wp_cond_true rfl ?_
  refine wp_seq_k (fun K41 hK41 => region_wl ?_)
  refine do_ rfl (.int .i64 (checkN k.length)) (ex_move _) ?_
  simp only [pS, pN, pA, pC, pZ]
  refine do_ rfl (.slice none 0 0) (ex_assign _) ?_
  simp only [pS, pN, pA, pC, pZ]
  refine do_ rfl (.int .i64 (checkN k.length)) (ex_assign _) ?_
  simp only [pS, pN, pA, pC, pZ]
  refine wl_nil (hK41 _ _ ?_)
  refine wp_ret ?_
  (try simp only [Exit.then, Exit.inBlock, ↓reduceIte, Nat.reduceEqDiff])
  refine bodyPost_ret (v := (.tuple #[(.slice none 0 0), (.int .i64 (checkN k.length))])) ?_ rfl ?_
  ·exact res_tt rfl rfl rfl
  ·unfold delR delE
   rw [if_neg hc19]
   exact ⟨_, _, rfl, S10.gr, _, rfl, Sl.nil _ _ _⟩
end Go.Proofs.YtcanckliggcllaaDoor
namespace Go.Proofs.YtcanckliggcllaaDoor
open Go.RowKit
set_option maxRecDepth 100000
set_option linter.unusedVariables false
set_option linter.unusedSimpArgs false
end Go.Proofs.YtcanckliggcllaaDoor
namespace Go.Proofs.YtcanckliggcllaaDoor
open Go.RowKit
set_option maxRecDepth 100000
set_option linter.unusedVariables false
set_option linter.unusedSimpArgs false
set_option maxHeartbeats 8000000 in
theorem pairs_spec (F : Fz) (w : World) (v : Value) (l : List Pr) (m : Nat) (hs : Sat w F) (hv : Prs F v l) (hm : m ≤ 100000) :
    Calls Tryd.prog 24 #[v, .int .i64 (m : Nat)] w (GivesO w F 2 PrC 38 (pairsN l m)) := by
 obtain ⟨a, c, rfl, hc1, hc2⟩ := Sl.shape hv
 unfold maxLen at hc2
 obtain ⟨i38, hi38, hz38, hs38, hb38⟩ := info_parts info_38
 have S := St.start hs
 go_enter Tryd.func24, Tryd.ntmps24
 refine wp_seq_k (fun K1 hK1 => region_wl ?_)
 refine do_ rfl (.slice none 0 0) (ex_assign _) ?_
 simp only [pS, pN, pA, pC, pZ]
 refine wl_nil (hK1 _ _ ?_)
 refine wp_seq_k (fun K2 hK2 => region_wl ?_)
 refine do_ rfl (.slice none 0 0) (ex_assign _) ?_
 simp only [pS, pN, pA, pC, pZ]
 refine wl_nil (hK2 _ _ ?_)
 refine wp_seq_k (fun K3 hK3 => ?_)
 refine wp_seq_k (fun K4 hK4 => region_wl ?_)
 refine do_ rfl (.int .i64 0) (ex_assign _) ?_
 simp only [pS, pN, pA, pC, pZ]
 refine wl_nil (hK4 _ _ ?_)
 refine wp_block ?_
 have S5 := St.addNil S 2 PrC PrC.mono 38 w.heap.size
 refine wp_loop_g (fun mm aa w8 => ∃ (i : Nat) (v : Value) (F6 : Fz) (u7 : Nat → Value), mm = l.length - i ∧ aa = ⟨#[(.slice a l.length c), (.int .i64 ((m : Nat) : Int)), undef, undef, (.slice none 0 0), v, (.int .i64 ((i : Nat) : Int)), (u7 7), (u7 8), (u7 9), (u7 10), (u7 11), (u7 12), (u7 13), (u7 14), (u7 15), (u7 16), (u7 17), (u7 18), (u7 19), (u7 20), (u7 21), (u7 22), (u7 23), (u7 24), (u7 25), (u7 26), (u7 27), (u7 28), (u7 29), (u7 30), (u7 31), (u7 32), (u7 33), (u7 34), (u7 35), (u7 36), (u7 37), (u7 38), (u7 39), (u7 40), (u7 41), (u7 42), (u7 43), (u7 44), (u7 45), (u7 46), (u7 47), (u7 48), (u7 49), (u7 50), (u7 51), (u7 52), (u7 53), (u7 54), (u7 55), (u7 56), (u7 57), (u7 58), (u7 59), (u7 60), (u7 61), (u7 62), (u7 63), (u7 64), (u7 65), (u7 66), (u7 67), (u7 68), (u7 69), (u7 70), (u7 71), (u7 72), (u7 73), (u7 74), (u7 75), (u7 76), (u7 77), (u7 78), (u7 79), (u7 80), (u7 81), (u7 82), (u7 83), undef], []⟩ ∧ St w F w8 F6 [] [ownP 2 PrC PrC.mono 38 w.heap.size v (pairsN l i)] ∧ Le F F6 ∧ (i ≤ l.length) ∧ (i ≤ m)) _ ⟨0, (.slice none 0 0), F, (slotF [(.slice a l.length c), (.int .i64 ((m : Nat) : Int)), undef, undef, (.slice none 0 0), (.slice none 0 0), (.int .i64 0), undef, undef, undef, undef, undef, undef, undef, undef, undef, undef, undef, undef, undef, undef, undef, undef, undef, undef, undef, undef, undef, undef, undef, undef, undef, undef, undef, undef, undef, undef, undef, undef, undef, undef, undef, undef, undef, undef, undef, undef, undef, undef, undef, undef, undef, undef, undef, undef, undef, undef, undef, undef, undef, undef, undef, undef, undef, undef, undef, undef, undef, undef, undef, undef, undef, undef, undef, undef, undef, undef, undef, undef, undef, undef, undef, undef, undef, undef]), rfl, rfl, S5, Le.refl _, (by omega), (by omega)⟩ ?_
 rintro m9 a10 w11 ⟨i, v, F6, u7, rfl, rfl, S12, le13, hi, him⟩ K14 hK14
 refine wp_seq_k (fun K15 hK15 => ?_)
 refine wp_seq_k (fun K16 hK16 => region_wl ?_)
 refine do_ rfl (.int .i64 ((i : Nat) : Int)) (ex_move _) ?_
 simp only [pS, pN, pA, pC, pZ]
 refine do_ rfl (.slice a l.length c) (ex_move _) ?_
 simp only [pS, pN, pA, pC, pZ]
 refine do_ rfl (.int .i64 ((l.length : Nat) : Int)) (ex_len Tryd.underlying44 rfl) ?_
 simp only [pS, pN, pA, pC, pZ]
 by_cases hc13 : i < l.length
 ·refine do_ rfl (.bool true) (ex_lss (m := ((i : Nat) : Int)) (n := ((l.length : Nat) : Int)) (b := true) rfl rfl (decide_eq_true (by omega))) ?_
  simp only [pS, pN, pA, pC, pZ]
  refine do_ rfl (.bool true) (ex_move _) ?_
  simp only [pS, pN, pA, pC, pZ]
  refine do_ rfl (.int .i64 ((i : Nat) : Int)) (ex_move _) ?_
  simp only [pS, pN, pA, pC, pZ]
  refine do_ rfl (.int .i64 ((m : Nat) : Int)) (ex_move _) ?_
  simp only [pS, pN, pA, pC, pZ]
  by_cases hc17 : i < m
  ·refine do_ rfl (.bool true) (ex_lss (m := ((i : Nat) : Int)) (n := ((m : Nat) : Int)) (b := true) rfl rfl (decide_eq_true (by omega))) ?_
   simp only [pS, pN, pA, pC, pZ]
   refine do_ rfl (.bool true) (ex_pick (b := true) rfl) ?_
   simp only [pS, pN, pA, pC, pZ]
   refine wl_nil (hK16 _ _ ?_)
   refine wp_cond_true rfl ?_
   refine wp_skip ?_
   refine hK15 _ _ ?_
   refine wp_seq_k (fun K17 hK17 => ?_)
   refine wp_block ?_
   refine wp_seq_k (fun K18 hK18 => ?_)
   obtain ⟨it, hit⟩ : ∃ it, l[i]? = some it := ⟨l[i]'(by omega), List.getElem?_eq_getElem (by omega)⟩
   obtain ⟨b19, o20, ha21, xa23, xc24, xa27, xc28, c22, c26, r25, r29⟩ := Prs.get (hv.mono le13) hit
   obtain ⟨a30, cap31, rfl, h32, h33⟩ := (S12.own (i := 0) rfl).shape
   unfold maxLen at h33
   have hol := pairsN_len l i
   have hor := pairsN_rise l i
   have hnew : pairsN l (i + 1) = putT (pairsN l i) (keyL it.1) (it.2.take 32) := pairsN_succ hit
   refine region_gw F6 14 [(5, .made (fun F' u => Bs F' u (keyL it.1))), (11, .made (fun F' u => Bs F' u (it.2.take 32))), (12, .made (fun F' u => Pr2V F' u ((keyL it.1), (it.2.take 32)))), (13, .rel (NewAt w11 [(.slice none 0 0), (.slice none 0 0)] 38) (NewAt.stable _ _ _))] (by kernel_rfl) (by kernel_rfl) ?_
   simp only [List.take_succ_cons, List.take_zero]
   refine gw_pure rfl rfl (.slice a l.length c) (fun w34 hCw34 => pureAt_of (ex_move _)) ?_
   simp only [pS, pN, pA, pC, pZ]
   refine gw_pure rfl rfl (.int .i64 ((i : Nat) : Int)) (fun w34 hCw34 => pureAt_of (ex_move _)) ?_
   simp only [pS, pN, pA, pC, pZ]
   refine gw_pure rfl rfl (.pointer (some ⟨b19, o20 + i * 2, none⟩)) (fun w34 hCw34 => pureAt_of (ex_at (i := i) (sz := 2) Tryd.underlying44 (sizeof_36 _) rfl ha21 rfl (by omega) rfl)) ?_
   simp only [pS, pN, pA, pC, pZ]
   refine gw_pure rfl rfl (.pointer (some ⟨b19, o20 + i * 2, none⟩)) (fun w34 hCw34 => pureAt_of (ex_field (q := ⟨b19, o20 + i * 2, none⟩) rfl (fa_36_0 _ _))) ?_
   simp only [pS, pN, pA, pC, pZ]
   refine gw_pure rfl rfl (.slice xa23 it.1.length xc24) (fun w34 hCw34 => pureAt_of (ex_load rfl (load1 (nagg_22 _) (St.fz (St.tells S12 hCw34) c22)))) ?_
   simp only [pS, pN, pA, pC, pZ]
   refine gw_rel rfl rfl (fun w34 hCw34 hF => does_call (ex_fn (vs := #[(.slice xa23 it.1.length xc24)]) (map1 rfl) rfl (ent_21 _ _)) (call_made S12.sat hCw34 (key_spec _ _ _ it.1 ((St.tells S12 hCw34)).sat r25))) (fun v35 => ?_)
   simp only [pS, pN, pA, pC, pZ]
   refine gw_pure rfl rfl (.slice a l.length c) (fun w34 hCw34 => pureAt_of (ex_move _)) ?_
   simp only [pS, pN, pA, pC, pZ]
   refine gw_pure rfl rfl (.int .i64 ((i : Nat) : Int)) (fun w34 hCw34 => pureAt_of (ex_move _)) ?_
   simp only [pS, pN, pA, pC, pZ]
   refine gw_pure rfl rfl (.pointer (some ⟨b19, o20 + i * 2, none⟩)) (fun w34 hCw34 => pureAt_of (ex_at (i := i) (sz := 2) Tryd.underlying44 (sizeof_36 _) rfl ha21 rfl (by omega) rfl)) ?_
   simp only [pS, pN, pA, pC, pZ]
   refine gw_pure rfl rfl (.pointer (some ⟨b19, o20 + i * 2 + 1, none⟩)) (fun w34 hCw34 => pureAt_of (ex_field (q := ⟨b19, o20 + i * 2 + 1, none⟩) rfl (fa_36_1 _ _))) ?_
   simp only [pS, pN, pA, pC, pZ]
   refine gw_pure rfl rfl (.slice xa27 it.2.length xc28) (fun w34 hCw34 => pureAt_of (ex_load rfl (load1 (nagg_22 _) (St.fz (St.tells S12 hCw34) c26)))) ?_
   simp only [pS, pN, pA, pC, pZ]
   refine gw_rel rfl rfl (fun w34 hCw34 hF => does_call (ex_fn (vs := #[(.slice xa27 it.2.length xc28), (.int .i64 32)]) (map2 rfl rfl) rfl (ent_18 _ _)) (call_made S12.sat hCw34 (some_spec _ _ _ it.2 32 ((St.tells S12 hCw34)).sat r29 (by omega) (by omega)))) (fun v36 => ?_)
   simp only [pS, pN, pA, pC, pZ]
   refine gw_rel rfl rfl (fun w34 hCw34 hF_ => ?_) (fun v37 => ?_)
   ·obtain ⟨F38, g39, R40⟩ := hF_.get 5 (by kernel_rfl) rfl rfl
    obtain ⟨F43, g44, R45⟩ := hF_.get 11 (by kernel_rfl) rfl rfl
    have hR0 := (R40.mono (both_left F38 F43))
    obtain ⟨xa48, xc49, rfl, _⟩ := hR0.shape
    have hR1 := (R45.mono (both_right g39.sat g44.sat))
    obtain ⟨xa50, xc51, rfl, _⟩ := hR1.shape
    exact does_val (ex_build (bmap2 rfl rfl) (by kernel_rfl)) ⟨(both F38 F43), (g39.both g44), ⟨_, _, _, _, rfl, hR0, hR1⟩⟩ (Below.refl _ _)
   simp only [pS, pN, pA, pC, pZ]
   refine gw_rel rfl rfl (fun w34 hCw34 _ => does_alloc (cs := [(.slice none 0 0), (.slice none 0 0)]) (zero_38 _) rfl hCw34) (fun v52 => ?_)
   simp only [pS, pN, pA, pC, pZ]
   refine gw_nil ?_
   intro w53 hC55 hF56
   obtain ⟨n57, rfl, hn58, hb59⟩ := hF56.getR 13 rfl rfl
   have hnbn57 : ∀ u ∈ [(.slice none 0 0), (.slice none 0 0)], ∀ x, u ≠ bv x := by intro u hu x; simp only [List.mem_cons, List.not_mem_nil, or_false] at hu; rcases hu with rfl | rfl <;> (unfold bv; simp)
   obtain ⟨F60, g61, R62⟩ := hF56.get 12 rfl rfl
   have g63 := g61.dropF S12.sat hn58
   have R64 := Pr2V.dropF g61.sat hb59 hnbn57 R62
   have S54 := St.addBlk (cs := [(.slice none 0 0), (.slice none 0 0)]) S12 g63 hn58 (dropF_at _ _) hb59
   have le66 : Le _ _ := g63.le S12.sat
   have R67 := R64
   generalize (dropF F60 n57) = F65 at *
   obtain ⟨xa68, xc69, xa71, xc72, rfl, r70, r73⟩ := R67
   have r70 : Bs _ (.slice xa68 (keyL it.1).length xc69) (keyL it.1) := r70
   have r73 : Bs _ (.slice xa71 (it.2.take 32).length xc72) (it.2.take 32) := r73
   clear hF56
   simp only [List.drop_succ_cons, List.drop_zero]
   have S54 : St w F w53 F65 [⟨n57, [(.slice none 0 0), (.slice none 0 0)], 38⟩] [ownP 2 PrC PrC.mono 38 w.heap.size (.slice a30 (pairsN l i).length cap31) (pairsN l i)] := S54
   refine stStore (i := 0) (v := (.agg #[(.slice xa68 (keyL it.1).length xc69), (.slice xa71 (it.2.take 32).length xc72)])) S54 rfl rfl rfl rfl (size_38) (allc2 rfl rfl) (Nat.le_of_ble_eq_true rfl) (fun w74 S75 => ?_)
   simp only [pS, pN, pA, pC, pZ]
   have S75 : St w F w74 F65 [⟨n57, [(.slice xa68 (keyL it.1).length xc69), (.slice xa71 (it.2.take 32).length xc72)], 38⟩] [ownP 2 PrC PrC.mono 38 w.heap.size (.slice a30 (pairsN l i).length cap31) (pairsN l i)] := S75
   refine wl_nil (hK18 _ _ ?_)
   refine wp_seq_k (fun K76 hK76 => region_wl ?_)
   refine do_ rfl (.int .i64 0) (ex_assign _) ?_
   simp only [pS, pN, pA, pC, pZ]
   refine wl_nil (hK76 _ _ ?_)
   refine wp_seq_k (fun K77 hK77 => ?_)
   refine wp_block ?_
   refine wp_loop_g (fun mm aa w79 => ∃ (k : Nat) (u78 : Nat → Value), mm = (pairsN l i).length - k ∧ aa = ⟨#[(.slice a l.length c), (.int .i64 ((m : Nat) : Int)), undef, undef, (.slice none 0 0), (.slice a30 (pairsN l i).length cap31), (.int .i64 ((i : Nat) : Int)), (.pointer (some ⟨n57, 0, none⟩)), (.int .i64 ((k : Nat) : Int)), (u7 9), (.int .i64 ((i : Nat) : Int)), (.slice a l.length c), (.int .i64 ((l.length : Nat) : Int)), (.bool true), (.bool true), (.int .i64 ((i : Nat) : Int)), (.int .i64 ((m : Nat) : Int)), (.bool true), (.bool true), (u7 19), (u7 20), (.slice a l.length c), (.int .i64 ((i : Nat) : Int)), (.pointer (some ⟨b19, o20 + i * 2, none⟩)), (.pointer (some ⟨b19, o20 + i * 2, none⟩)), (.slice xa23 it.1.length xc24), v35, (.slice a l.length c), (.int .i64 ((i : Nat) : Int)), (.pointer (some ⟨b19, o20 + i * 2, none⟩)), (.pointer (some ⟨b19, o20 + i * 2 + 1, none⟩)), (.slice xa27 it.2.length xc28), v36, (.agg #[(.slice xa68 (keyL it.1).length xc69), (.slice xa71 (it.2.take 32).length xc72)]), (u78 34), (u78 35), (u78 36), (u78 37), (u78 38), (u78 39), (u78 40), (u78 41), (u78 42), (u78 43), (u78 44), (u78 45), (u78 46), (u78 47), (u78 48), (u78 49), (u78 50), (u78 51), (u7 52), (u7 53), (u7 54), (u7 55), (u7 56), (u7 57), (u7 58), (u7 59), (u7 60), (u7 61), (u7 62), (u7 63), (u7 64), (u7 65), (u7 66), (u7 67), (u7 68), (u7 69), (u7 70), (u7 71), (u7 72), (u7 73), (u7 74), (u7 75), (u7 76), (u7 77), (u7 78), (u7 79), (u7 80), (u7 81), (u7 82), (u7 83), undef], []⟩ ∧ St w F w79 F65 [⟨n57, [(.slice xa68 (keyL it.1).length xc69), (.slice xa71 (it.2.take 32).length xc72)], 38⟩] [ownP 2 PrC PrC.mono 38 w.heap.size (.slice a30 (pairsN l i).length cap31) (pairsN l i)] ∧ (k ≤ posT (pairsN l i) (keyL it.1))) _ ⟨0, (slotF [(.slice a l.length c), (.int .i64 ((m : Nat) : Int)), undef, undef, (.slice none 0 0), (.slice a30 (pairsN l i).length cap31), (.int .i64 ((i : Nat) : Int)), (.pointer (some ⟨n57, 0, none⟩)), (.int .i64 0), (u7 9), (.int .i64 ((i : Nat) : Int)), (.slice a l.length c), (.int .i64 ((l.length : Nat) : Int)), (.bool true), (.bool true), (.int .i64 ((i : Nat) : Int)), (.int .i64 ((m : Nat) : Int)), (.bool true), (.bool true), (u7 19), (u7 20), (.slice a l.length c), (.int .i64 ((i : Nat) : Int)), (.pointer (some ⟨b19, o20 + i * 2, none⟩)), (.pointer (some ⟨b19, o20 + i * 2, none⟩)), (.slice xa23 it.1.length xc24), v35, (.slice a l.length c), (.int .i64 ((i : Nat) : Int)), (.pointer (some ⟨b19, o20 + i * 2, none⟩)), (.pointer (some ⟨b19, o20 + i * 2 + 1, none⟩)), (.slice xa27 it.2.length xc28), v36, (.agg #[(.slice xa68 (keyL it.1).length xc69), (.slice xa71 (it.2.take 32).length xc72)]), (u7 34), (u7 35), (u7 36), (u7 37), (u7 38), (u7 39), (u7 40), (u7 41), (u7 42), (u7 43), (u7 44), (u7 45), (u7 46), (u7 47), (u7 48), (u7 49), (u7 50), (u7 51), (u7 52), (u7 53), (u7 54), (u7 55), (u7 56), (u7 57), (u7 58), (u7 59), (u7 60), (u7 61), (u7 62), (u7 63), (u7 64), (u7 65), (u7 66), (u7 67), (u7 68), (u7 69), (u7 70), (u7 71), (u7 72), (u7 73), (u7 74), (u7 75), (u7 76), (u7 77), (u7 78), (u7 79), (u7 80), (u7 81), (u7 82), (u7 83), undef]), rfl, rfl, S75, (by omega)⟩ ?_
   rintro m80 a81 w82 ⟨k, u78, rfl, rfl, S83, hk⟩ K85 hK85
   refine wp_seq_k (fun K86 hK86 => ?_)
   refine wp_seq_k (fun K87 hK87 => ?_)
   have hpl : posT (pairsN l i) (keyL it.1) ≤ (pairsN l i).length := posBy_le _ _ _
   by_cases hkl : k < (pairsN l i).length
   ·obtain ⟨p, hp⟩ : ∃ p, (pairsN l i)[k]? = some p := ⟨(pairsN l i)[k], List.getElem?_eq_getElem hkl⟩
    obtain ⟨g88, ha89, xa91, xc92, xa95, xc96, c90, c94, r93, r97⟩ := pr_at (S83.own (i := 0) rfl) hp
    by_cases hlt : Lt p.1 (keyL it.1)
    ·refine region_gw F65 14 [] (by kernel_rfl) (by kernel_rfl) ?_
     simp only [List.take_succ_cons, List.take_zero]
     refine gw_pure rfl rfl (.int .i64 ((k : Nat) : Int)) (fun w98 hCw98 => pureAt_of (ex_move _)) ?_
     simp only [pS, pN, pA, pC, pZ]
     refine gw_pure rfl rfl (.slice a30 (pairsN l i).length cap31) (fun w98 hCw98 => pureAt_of (ex_move _)) ?_
     simp only [pS, pN, pA, pC, pZ]
     refine gw_pure rfl rfl (.int .i64 (((pairsN l i).length : Nat) : Int)) (fun w98 hCw98 => pureAt_of (ex_len Tryd.underlying40 rfl)) ?_
     simp only [pS, pN, pA, pC, pZ]
     refine gw_pure rfl rfl (.bool true) (fun w98 hCw98 => pureAt_of (ex_lss (m := ((k : Nat) : Int)) (n := (((pairsN l i).length : Nat) : Int)) (b := true) rfl rfl (decide_eq_true (by omega)))) ?_
     simp only [pS, pN, pA, pC, pZ]
     refine gw_pure rfl rfl (.bool true) (fun w98 hCw98 => pureAt_of (ex_move _)) ?_
     simp only [pS, pN, pA, pC, pZ]
     refine gw_pure rfl rfl (.slice a30 (pairsN l i).length cap31) (fun w98 hCw98 => pureAt_of (ex_move _)) ?_
     simp only [pS, pN, pA, pC, pZ]
     refine gw_pure rfl rfl (.int .i64 ((k : Nat) : Int)) (fun w98 hCw98 => pureAt_of (ex_move _)) ?_
     simp only [pS, pN, pA, pC, pZ]
     refine gw_pure rfl rfl (.pointer (some ⟨g88, 0 + k * 2, none⟩)) (fun w98 hCw98 => pureAt_of (ex_at (i := k) (sz := 2) Tryd.underlying40 (sizeof_38 _) rfl ha89 rfl (by omega) rfl)) ?_
     simp only [pS, pN, pA, pC, pZ]
     refine gw_pure rfl rfl (.pointer (some ⟨g88, 0 + k * 2, none⟩)) (fun w98 hCw98 => pureAt_of (ex_field (q := ⟨g88, 0 + k * 2, none⟩) rfl (fa_38_0 _ _))) ?_
     simp only [pS, pN, pA, pC, pZ]
     refine gw_pure rfl rfl (.slice xa91 p.1.length xc92) (fun w98 hCw98 => pureAt_of (ex_load rfl (load1 (nagg_22 _) (cell_kept hCw98 c90)))) ?_
     simp only [pS, pN, pA, pC, pZ]
     refine gw_pure rfl rfl (.string ⟨p.1.toArray⟩) (fun w98 hCw98 => pureAt_of (ex_convert (v := (.slice xa91 p.1.length xc92)) rfl (run_string Tryd.underlying22 Tryd.underlying5 Tryd.underlying9 ((St.tells S83 hCw98)).sat r93))) ?_
     simp only [pS, pN, pA, pC, pZ]
     refine gw_pure rfl rfl (.pointer (some ⟨n57, 0, none⟩)) (fun w98 hCw98 => pureAt_of (ex_field (q := ⟨n57, 0, none⟩) rfl (fa_38_0 _ _))) ?_
     simp only [pS, pN, pA, pC, pZ]
     refine gw_pure rfl rfl (.slice xa68 (keyL it.1).length xc69) (fun w98 hCw98 => pureAt_of (ex_load rfl (load1 (nagg_22 _) (St.cell (St.tells S83 hCw98) (i := 0) rfl rfl)))) ?_
     simp only [pS, pN, pA, pC, pZ]
     refine gw_pure rfl rfl (.string ⟨(keyL it.1).toArray⟩) (fun w98 hCw98 => pureAt_of (ex_convert (v := (.slice xa68 (keyL it.1).length xc69)) rfl (run_string Tryd.underlying22 Tryd.underlying5 Tryd.underlying9 ((St.tells S83 hCw98)).sat r70))) ?_
     simp only [pS, pN, pA, pC, pZ]
     refine gw_nil ?_
     intro w99 hC101 hF102
     clear hF102
     have S100 := St.tells S83 hC101
     simp only [List.drop_succ_cons, List.drop_zero]
     refine do_ rfl (.bool true) (ex_strop (op := .lss) (l := p.1) (m := (keyL it.1)) (b := true) (by simp) rfl rfl (hlt)) ?_
     simp only [pS, pN, pA, pC, pZ]
     refine do_ rfl (.bool true) (ex_pick (b := true) rfl) ?_
     simp only [pS, pN, pA, pC, pZ]
     refine wl_nil (hK87 _ _ ?_)
     refine wp_cond_true rfl ?_
     refine wp_skip ?_
     refine hK86 _ _ ?_
     refine wp_block ?_
     refine region_wl ?_
     refine do_ rfl (.int .i64 ((k : Nat) : Int)) (ex_move _) ?_
     simp only [pS, pN, pA, pC, pZ]
     refine do_ rfl (.int .i64 (((k + 1) : Nat) : Int)) (ex_add (m := ((k : Nat) : Int)) (n := (1 : Int)) (r := (((k + 1) : Nat) : Int)) rfl rfl (by omega) (by omega) (by omega)) ?_
     simp only [pS, pN, pA, pC, pZ]
     refine do_ rfl (.int .i64 (((k + 1) : Nat) : Int)) (ex_assign _) ?_
     simp only [pS, pN, pA, pC, pZ]
     refine wl_nil ?_
     exact hK85 _ _ _ (by omega) ⟨(k + 1), (slotF [(.slice a l.length c), (.int .i64 ((m : Nat) : Int)), undef, undef, (.slice none 0 0), (.slice a30 (pairsN l i).length cap31), (.int .i64 ((i : Nat) : Int)), (.pointer (some ⟨n57, 0, none⟩)), (.int .i64 (((k + 1) : Nat) : Int)), (u7 9), (.int .i64 ((i : Nat) : Int)), (.slice a l.length c), (.int .i64 ((l.length : Nat) : Int)), (.bool true), (.bool true), (.int .i64 ((i : Nat) : Int)), (.int .i64 ((m : Nat) : Int)), (.bool true), (.bool true), (u7 19), (u7 20), (.slice a l.length c), (.int .i64 ((i : Nat) : Int)), (.pointer (some ⟨b19, o20 + i * 2, none⟩)), (.pointer (some ⟨b19, o20 + i * 2, none⟩)), (.slice xa23 it.1.length xc24), v35, (.slice a l.length c), (.int .i64 ((i : Nat) : Int)), (.pointer (some ⟨b19, o20 + i * 2, none⟩)), (.pointer (some ⟨b19, o20 + i * 2 + 1, none⟩)), (.slice xa27 it.2.length xc28), v36, (.agg #[(.slice xa68 (keyL it.1).length xc69), (.slice xa71 (it.2.take 32).length xc72)]), (.int .i64 ((k : Nat) : Int)), (.slice a30 (pairsN l i).length cap31), (.int .i64 (((pairsN l i).length : Nat) : Int)), (.bool true), (.bool true), (.slice a30 (pairsN l i).length cap31), (.int .i64 ((k : Nat) : Int)), (.pointer (some ⟨g88, 0 + k * 2, none⟩)), (.pointer (some ⟨g88, 0 + k * 2, none⟩)), (.slice xa91 p.1.length xc92), (.string ⟨p.1.toArray⟩), (.pointer (some ⟨n57, 0, none⟩)), (.slice xa68 (keyL it.1).length xc69), (.string ⟨(keyL it.1).toArray⟩), (.bool true), (.bool true), (.int .i64 ((k : Nat) : Int)), (.int .i64 (((k + 1) : Nat) : Int)), (u7 52), (u7 53), (u7 54), (u7 55), (u7 56), (u7 57), (u7 58), (u7 59), (u7 60), (u7 61), (u7 62), (u7 63), (u7 64), (u7 65), (u7 66), (u7 67), (u7 68), (u7 69), (u7 70), (u7 71), (u7 72), (u7 73), (u7 74), (u7 75), (u7 76), (u7 77), (u7 78), (u7 79), (u7 80), (u7 81), (u7 82), (u7 83), undef]), rfl, rfl, S100, (by have := pos_gt hor hp (cmpL_lt.2 hlt); omega)⟩
    ·refine region_gw F65 14 [] (by kernel_rfl) (by kernel_rfl) ?_
     simp only [List.take_succ_cons, List.take_zero]
     refine gw_pure rfl rfl (.int .i64 ((k : Nat) : Int)) (fun w103 hCw103 => pureAt_of (ex_move _)) ?_
     simp only [pS, pN, pA, pC, pZ]
     refine gw_pure rfl rfl (.slice a30 (pairsN l i).length cap31) (fun w103 hCw103 => pureAt_of (ex_move _)) ?_
     simp only [pS, pN, pA, pC, pZ]
     refine gw_pure rfl rfl (.int .i64 (((pairsN l i).length : Nat) : Int)) (fun w103 hCw103 => pureAt_of (ex_len Tryd.underlying40 rfl)) ?_
     simp only [pS, pN, pA, pC, pZ]
     refine gw_pure rfl rfl (.bool true) (fun w103 hCw103 => pureAt_of (ex_lss (m := ((k : Nat) : Int)) (n := (((pairsN l i).length : Nat) : Int)) (b := true) rfl rfl (decide_eq_true (by omega)))) ?_
     simp only [pS, pN, pA, pC, pZ]
     refine gw_pure rfl rfl (.bool true) (fun w103 hCw103 => pureAt_of (ex_move _)) ?_
     simp only [pS, pN, pA, pC, pZ]
     refine gw_pure rfl rfl (.slice a30 (pairsN l i).length cap31) (fun w103 hCw103 => pureAt_of (ex_move _)) ?_
     simp only [pS, pN, pA, pC, pZ]
     refine gw_pure rfl rfl (.int .i64 ((k : Nat) : Int)) (fun w103 hCw103 => pureAt_of (ex_move _)) ?_
     simp only [pS, pN, pA, pC, pZ]
     refine gw_pure rfl rfl (.pointer (some ⟨g88, 0 + k * 2, none⟩)) (fun w103 hCw103 => pureAt_of (ex_at (i := k) (sz := 2) Tryd.underlying40 (sizeof_38 _) rfl ha89 rfl (by omega) rfl)) ?_
     simp only [pS, pN, pA, pC, pZ]
     refine gw_pure rfl rfl (.pointer (some ⟨g88, 0 + k * 2, none⟩)) (fun w103 hCw103 => pureAt_of (ex_field (q := ⟨g88, 0 + k * 2, none⟩) rfl (fa_38_0 _ _))) ?_
     simp only [pS, pN, pA, pC, pZ]
     refine gw_pure rfl rfl (.slice xa91 p.1.length xc92) (fun w103 hCw103 => pureAt_of (ex_load rfl (load1 (nagg_22 _) (cell_kept hCw103 c90)))) ?_
     simp only [pS, pN, pA, pC, pZ]
     refine gw_pure rfl rfl (.string ⟨p.1.toArray⟩) (fun w103 hCw103 => pureAt_of (ex_convert (v := (.slice xa91 p.1.length xc92)) rfl (run_string Tryd.underlying22 Tryd.underlying5 Tryd.underlying9 ((St.tells S83 hCw103)).sat r93))) ?_
     simp only [pS, pN, pA, pC, pZ]
     refine gw_pure rfl rfl (.pointer (some ⟨n57, 0, none⟩)) (fun w103 hCw103 => pureAt_of (ex_field (q := ⟨n57, 0, none⟩) rfl (fa_38_0 _ _))) ?_
     simp only [pS, pN, pA, pC, pZ]
     refine gw_pure rfl rfl (.slice xa68 (keyL it.1).length xc69) (fun w103 hCw103 => pureAt_of (ex_load rfl (load1 (nagg_22 _) (St.cell (St.tells S83 hCw103) (i := 0) rfl rfl)))) ?_
     simp only [pS, pN, pA, pC, pZ]
     refine gw_pure rfl rfl (.string ⟨(keyL it.1).toArray⟩) (fun w103 hCw103 => pureAt_of (ex_convert (v := (.slice xa68 (keyL it.1).length xc69)) rfl (run_string Tryd.underlying22 Tryd.underlying5 Tryd.underlying9 ((St.tells S83 hCw103)).sat r70))) ?_
     simp only [pS, pN, pA, pC, pZ]
     refine gw_nil ?_
     intro w104 hC106 hF107
     clear hF107
     have S105 := St.tells S83 hC106
     simp only [List.drop_succ_cons, List.drop_zero]
     refine do_ rfl (.bool false) (ex_strop (op := .lss) (l := p.1) (m := (keyL it.1)) (b := false) (by simp) rfl rfl (by show Op.bytesLess _ _ = false; simpa using hlt)) ?_
     simp only [pS, pN, pA, pC, pZ]
     refine do_ rfl (.bool false) (ex_pick (b := true) rfl) ?_
     simp only [pS, pN, pA, pC, pZ]
     refine wl_nil (hK87 _ _ ?_)
     refine wp_cond_false rfl ?_
     refine wp_exit ?_
     refine hK77 _ _ ?_
     refine wp_seq_k (fun K108 hK108 => ?_)
     refine wp_seq_k (fun K109 hK109 => ?_)
     have hpos : posT (pairsN l i) (keyL it.1) = k := by first | exact Nat.le_antisymm (pos_le hp (fun h => hlt (cmpL_lt.1 h))) hk | omega
     by_cases hkl2 : k < (pairsN l i).length
     ·obtain ⟨p2, hp2⟩ : ∃ p, (pairsN l i)[k]? = some p := ⟨(pairsN l i)[k], List.getElem?_eq_getElem hkl2⟩
      obtain ⟨g110, ha111, xa113, xc114, xa117, xc118, c112, c116, r115, r119⟩ := pr_at (S105.own (i := 0) rfl) hp2
      by_cases heq : p2.1 = (keyL it.1)
      ·have hhas := has_yes hor (by rw [hpos]; exact hp2) (cmpL_eq.2 heq)
       refine region_gw F65 12 [] (by kernel_rfl) (by kernel_rfl) ?_
       simp only [List.take_succ_cons, List.take_zero]
       refine gw_pure rfl rfl (.int .i64 ((k : Nat) : Int)) (fun w120 hCw120 => pureAt_of (ex_move _)) ?_
       simp only [pS, pN, pA, pC, pZ]
       refine gw_pure rfl rfl (.slice a30 (pairsN l i).length cap31) (fun w120 hCw120 => pureAt_of (ex_move _)) ?_
       simp only [pS, pN, pA, pC, pZ]
       refine gw_pure rfl rfl (.int .i64 (((pairsN l i).length : Nat) : Int)) (fun w120 hCw120 => pureAt_of (ex_len Tryd.underlying40 rfl)) ?_
       simp only [pS, pN, pA, pC, pZ]
       refine gw_pure rfl rfl (.bool true) (fun w120 hCw120 => pureAt_of (ex_lss (m := ((k : Nat) : Int)) (n := (((pairsN l i).length : Nat) : Int)) (b := true) rfl rfl (decide_eq_true (by omega)))) ?_
       simp only [pS, pN, pA, pC, pZ]
       refine gw_pure rfl rfl (.bool true) (fun w120 hCw120 => pureAt_of (ex_move _)) ?_
       simp only [pS, pN, pA, pC, pZ]
       refine gw_pure rfl rfl (.slice a30 (pairsN l i).length cap31) (fun w120 hCw120 => pureAt_of (ex_move _)) ?_
       simp only [pS, pN, pA, pC, pZ]
       refine gw_pure rfl rfl (.int .i64 ((k : Nat) : Int)) (fun w120 hCw120 => pureAt_of (ex_move _)) ?_
       simp only [pS, pN, pA, pC, pZ]
       refine gw_pure rfl rfl (.pointer (some ⟨g110, 0 + k * 2, none⟩)) (fun w120 hCw120 => pureAt_of (ex_at (i := k) (sz := 2) Tryd.underlying40 (sizeof_38 _) rfl ha111 rfl (by omega) rfl)) ?_
       simp only [pS, pN, pA, pC, pZ]
       refine gw_pure rfl rfl (.pointer (some ⟨g110, 0 + k * 2, none⟩)) (fun w120 hCw120 => pureAt_of (ex_field (q := ⟨g110, 0 + k * 2, none⟩) rfl (fa_38_0 _ _))) ?_
       simp only [pS, pN, pA, pC, pZ]
       refine gw_pure rfl rfl (.slice xa113 p2.1.length xc114) (fun w120 hCw120 => pureAt_of (ex_load rfl (load1 (nagg_22 _) (cell_kept hCw120 c112)))) ?_
       simp only [pS, pN, pA, pC, pZ]
       refine gw_pure rfl rfl (.pointer (some ⟨n57, 0, none⟩)) (fun w120 hCw120 => pureAt_of (ex_field (q := ⟨n57, 0, none⟩) rfl (fa_38_0 _ _))) ?_
       simp only [pS, pN, pA, pC, pZ]
       refine gw_pure rfl rfl (.slice xa68 (keyL it.1).length xc69) (fun w120 hCw120 => pureAt_of (ex_load rfl (load1 (nagg_22 _) (St.cell (St.tells S105 hCw120) (i := 0) rfl rfl)))) ?_
       simp only [pS, pN, pA, pC, pZ]
       refine gw_nil ?_
       intro w121 hC123 hF124
       clear hF124
       have S122 := St.tells S105 hC123
       simp only [List.drop_succ_cons, List.drop_zero]
       refine stTells (v := (.bool true)) S122 rfl (ex_fn (vs := #[(.slice xa113 p2.1.length xc114), (.slice xa68 (keyL it.1).length xc69)]) (map2 rfl rfl) rfl (ent_16 _ _)) (tells_bool (tells_same (same_spec _ _ _ _ p2.1 (keyL it.1) (S122).sat r115 r70)) (beq_iff_eq.2 heq)) (fun w125 S126 => ?_)
       simp only [pS, pN, pA, pC, pZ]
       refine do_ rfl (.bool true) (ex_pick (b := true) rfl) ?_
       simp only [pS, pN, pA, pC, pZ]
       refine wl_nil (hK109 _ _ ?_)
       refine wp_cond_true rfl ?_
       refine wp_seq_k (fun K127 hK127 => ?_)
       obtain ⟨g128, rfl⟩ := Own.addr0 (S126.own (i := 0) rfl) (by omega)
       refine region_wl ?_
       refine do_ rfl (.slice (some ⟨g128, 0, none⟩) (pairsN l i).length cap31) (ex_move _) ?_
       simp only [pS, pN, pA, pC, pZ]
       refine do_ rfl (.int .i64 ((k : Nat) : Int)) (ex_move _) ?_
       simp only [pS, pN, pA, pC, pZ]
       refine do_ rfl (.agg #[(.slice xa68 (keyL it.1).length xc69), (.slice xa71 (it.2.take 32).length xc72)]) (ex_load rfl (loadN (cs := [(.slice xa68 (keyL it.1).length xc69), (.slice xa71 (it.2.take 32).length xc72)]) Tryd.underlying38 rfl (size_38) (St.range S126 (i := 0) rfl 0 [(.slice xa68 (keyL it.1).length xc69), (.slice xa71 (it.2.take 32).length xc72)] (sub_range 0 rfl)))) ?_
       simp only [pS, pN, pA, pC, pZ]
       refine do_ rfl (.pointer (some ⟨g128, 0 + k * 2, none⟩)) (ex_at (i := k) (sz := 2) Tryd.underlying40 (sizeof_38 _) rfl rfl rfl (by omega) rfl) ?_
       simp only [pS, pN, pA, pC, pZ]
       refine stSetRow (r := 0) (i := k) (p := (keyL it.1, it.2.take 32)) (u := (.agg #[(.slice xa68 (keyL it.1).length xc69), (.slice xa71 (it.2.take 32).length xc72)])) S126 rfl rfl (by omega) rfl rfl (by omega) (size_38) (allc2 rfl rfl) rfl ⟨_, _, rfl, r70, r73⟩ (Nat.le_refl _) (fun w129 S130 => ?_)
       simp only [pS, pN, pA, pC, pZ]
       have S130 : St w F w129 F65 [⟨n57, [(.slice xa68 (keyL it.1).length xc69), (.slice xa71 (it.2.take 32).length xc72)], 38⟩] [ownP 2 PrC PrC.mono 38 w.heap.size (.slice (some ⟨g128, 0, none⟩) (pairsN l i).length cap31) ((pairsN l i).set k (keyL it.1, it.2.take 32))] := S130
       refine wl_nil (hK127 _ _ ?_)
       refine wp_exit ?_
       refine hK17 _ _ ?_
       rw [putT_have hhas, hpos] at hnew
       refine region_wl ?_
       refine do_ rfl (.int .i64 ((i : Nat) : Int)) (ex_move _) ?_
       simp only [pS, pN, pA, pC, pZ]
       refine do_ rfl (.int .i64 (((i + 1) : Nat) : Int)) (ex_add (m := ((i : Nat) : Int)) (n := (1 : Int)) (r := (((i + 1) : Nat) : Int)) rfl rfl (by omega) (by omega) (by omega)) ?_
       simp only [pS, pN, pA, pC, pZ]
       refine do_ rfl (.int .i64 (((i + 1) : Nat) : Int)) (ex_assign _) ?_
       simp only [pS, pN, pA, pC, pZ]
       refine wl_nil ?_
       have S130 := St.drop S130 (L' := []) (.cons _ (List.Sublist.refl _))
       rw [← hnew] at S130
       exact hK14 _ _ _ (by omega) ⟨(i + 1), (.slice (some ⟨g128, 0, none⟩) (pairsN l i).length cap31), F65, (slotF [(.slice a l.length c), (.int .i64 ((m : Nat) : Int)), undef, undef, (.slice none 0 0), (.slice (some ⟨g128, 0, none⟩) (pairsN l i).length cap31), (.int .i64 (((i + 1) : Nat) : Int)), (.pointer (some ⟨n57, 0, none⟩)), (.int .i64 ((k : Nat) : Int)), (u7 9), (.int .i64 ((i : Nat) : Int)), (.slice a l.length c), (.int .i64 ((l.length : Nat) : Int)), (.bool true), (.bool true), (.int .i64 ((i : Nat) : Int)), (.int .i64 ((m : Nat) : Int)), (.bool true), (.bool true), (.int .i64 ((i : Nat) : Int)), (.int .i64 (((i + 1) : Nat) : Int)), (.slice a l.length c), (.int .i64 ((i : Nat) : Int)), (.pointer (some ⟨b19, o20 + i * 2, none⟩)), (.pointer (some ⟨b19, o20 + i * 2, none⟩)), (.slice xa23 it.1.length xc24), v35, (.slice a l.length c), (.int .i64 ((i : Nat) : Int)), (.pointer (some ⟨b19, o20 + i * 2, none⟩)), (.pointer (some ⟨b19, o20 + i * 2 + 1, none⟩)), (.slice xa27 it.2.length xc28), v36, (.agg #[(.slice xa68 (keyL it.1).length xc69), (.slice xa71 (it.2.take 32).length xc72)]), (.int .i64 ((k : Nat) : Int)), (.slice (some ⟨g128, 0, none⟩) (pairsN l i).length cap31), (.int .i64 (((pairsN l i).length : Nat) : Int)), (.bool true), (.bool true), (.slice (some ⟨g128, 0, none⟩) (pairsN l i).length cap31), (.int .i64 ((k : Nat) : Int)), (.pointer (some ⟨g88, 0 + k * 2, none⟩)), (.pointer (some ⟨g88, 0 + k * 2, none⟩)), (.slice xa91 p.1.length xc92), (.string ⟨p.1.toArray⟩), (.pointer (some ⟨n57, 0, none⟩)), (.slice xa68 (keyL it.1).length xc69), (.string ⟨(keyL it.1).toArray⟩), (.bool false), (.bool false), (u78 50), (u78 51), (.int .i64 ((k : Nat) : Int)), (.slice (some ⟨g128, 0, none⟩) (pairsN l i).length cap31), (.int .i64 (((pairsN l i).length : Nat) : Int)), (.bool true), (.bool true), (.slice (some ⟨g128, 0, none⟩) (pairsN l i).length cap31), (.int .i64 ((k : Nat) : Int)), (.pointer (some ⟨g110, 0 + k * 2, none⟩)), (.pointer (some ⟨g110, 0 + k * 2, none⟩)), (.slice xa113 p2.1.length xc114), (.pointer (some ⟨n57, 0, none⟩)), (.slice xa68 (keyL it.1).length xc69), (.bool true), (.bool true), (.slice (some ⟨g128, 0, none⟩) (pairsN l i).length cap31), (.int .i64 ((k : Nat) : Int)), (.agg #[(.slice xa68 (keyL it.1).length xc69), (.slice xa71 (it.2.take 32).length xc72)]), (.pointer (some ⟨g128, 0 + k * 2, none⟩)), (u7 70), (u7 71), (u7 72), (u7 73), (u7 74), (u7 75), (u7 76), (u7 77), (u7 78), (u7 79), (u7 80), (u7 81), (u7 82), (u7 83), undef]), rfl, rfl, S130, (le13.trans le66), (by omega), (by omega)⟩
      ·have hhas := has_no hor (by rw [hpos]; exact hp2) (fun h => heq (cmpL_eq.1 h))
       refine region_gw F65 12 [] (by kernel_rfl) (by kernel_rfl) ?_
       simp only [List.take_succ_cons, List.take_zero]
       refine gw_pure rfl rfl (.int .i64 ((k : Nat) : Int)) (fun w131 hCw131 => pureAt_of (ex_move _)) ?_
       simp only [pS, pN, pA, pC, pZ]
       refine gw_pure rfl rfl (.slice a30 (pairsN l i).length cap31) (fun w131 hCw131 => pureAt_of (ex_move _)) ?_
       simp only [pS, pN, pA, pC, pZ]
       refine gw_pure rfl rfl (.int .i64 (((pairsN l i).length : Nat) : Int)) (fun w131 hCw131 => pureAt_of (ex_len Tryd.underlying40 rfl)) ?_
       simp only [pS, pN, pA, pC, pZ]
       refine gw_pure rfl rfl (.bool true) (fun w131 hCw131 => pureAt_of (ex_lss (m := ((k : Nat) : Int)) (n := (((pairsN l i).length : Nat) : Int)) (b := true) rfl rfl (decide_eq_true (by omega)))) ?_
       simp only [pS, pN, pA, pC, pZ]
       refine gw_pure rfl rfl (.bool true) (fun w131 hCw131 => pureAt_of (ex_move _)) ?_
       simp only [pS, pN, pA, pC, pZ]
       refine gw_pure rfl rfl (.slice a30 (pairsN l i).length cap31) (fun w131 hCw131 => pureAt_of (ex_move _)) ?_
       simp only [pS, pN, pA, pC, pZ]
       refine gw_pure rfl rfl (.int .i64 ((k : Nat) : Int)) (fun w131 hCw131 => pureAt_of (ex_move _)) ?_
       simp only [pS, pN, pA, pC, pZ]
       refine gw_pure rfl rfl (.pointer (some ⟨g110, 0 + k * 2, none⟩)) (fun w131 hCw131 => pureAt_of (ex_at (i := k) (sz := 2) Tryd.underlying40 (sizeof_38 _) rfl ha111 rfl (by omega) rfl)) ?_
       simp only [pS, pN, pA, pC, pZ]
       refine gw_pure rfl rfl (.pointer (some ⟨g110, 0 + k * 2, none⟩)) (fun w131 hCw131 => pureAt_of (ex_field (q := ⟨g110, 0 + k * 2, none⟩) rfl (fa_38_0 _ _))) ?_
       simp only [pS, pN, pA, pC, pZ]
       refine gw_pure rfl rfl (.slice xa113 p2.1.length xc114) (fun w131 hCw131 => pureAt_of (ex_load rfl (load1 (nagg_22 _) (cell_kept hCw131 c112)))) ?_
       simp only [pS, pN, pA, pC, pZ]
       refine gw_pure rfl rfl (.pointer (some ⟨n57, 0, none⟩)) (fun w131 hCw131 => pureAt_of (ex_field (q := ⟨n57, 0, none⟩) rfl (fa_38_0 _ _))) ?_
       simp only [pS, pN, pA, pC, pZ]
       refine gw_pure rfl rfl (.slice xa68 (keyL it.1).length xc69) (fun w131 hCw131 => pureAt_of (ex_load rfl (load1 (nagg_22 _) (St.cell (St.tells S105 hCw131) (i := 0) rfl rfl)))) ?_
       simp only [pS, pN, pA, pC, pZ]
       refine gw_nil ?_
       intro w132 hC134 hF135
       clear hF135
       have S133 := St.tells S105 hC134
       simp only [List.drop_succ_cons, List.drop_zero]
       refine stTells (v := (.bool false)) S133 rfl (ex_fn (vs := #[(.slice xa113 p2.1.length xc114), (.slice xa68 (keyL it.1).length xc69)]) (map2 rfl rfl) rfl (ent_16 _ _)) (tells_bool (tells_same (same_spec _ _ _ _ p2.1 (keyL it.1) (S133).sat r115 r70)) (beq_eq_false_iff_ne.2 heq)) (fun w136 S137 => ?_)
       simp only [pS, pN, pA, pC, pZ]
       refine do_ rfl (.bool false) (ex_pick (b := true) rfl) ?_
       simp only [pS, pN, pA, pC, pZ]
       refine wl_nil (hK109 _ _ ?_)
       refine wp_cond_false rfl ?_
       refine wp_skip ?_
       refine hK108 _ _ ?_
       refine wp_seq_k (fun K138 hK138 => region_wl ?_)
       refine do_ rfl (.slice none 0 0) (ex_assign _) ?_
       simp only [pS, pN, pA, pC, pZ]
       refine wl_nil (hK138 _ _ ?_)
       refine wp_seq_k (fun K139 hK139 => ?_)
       have S140 := St.addNil S137 2 PrC PrC.mono 38 w.heap.size
       refine region_wl ?_
       refine do_ rfl (.slice none 0 0) (ex_move _) ?_
       simp only [pS, pN, pA, pC, pZ]
       refine do_ rfl (.slice a30 (pairsN l i).length cap31) (ex_move _) ?_
       simp only [pS, pN, pA, pC, pZ]
       refine do_ rfl (.int .i64 ((k : Nat) : Int)) (ex_move _) ?_
       simp only [pS, pN, pA, pC, pZ]
       refine do_ rfl (.slice a30 k cap31) (ex_slice (l := 0) (h := k) (sz := 2) Tryd.underlying40 rfl (sizeof_38 _) (.inl ⟨rfl, rfl⟩) (.inr ⟨_, rfl, rfl⟩) (by omega) (by omega) (slice_zero)) ?_
       simp only [pS, pN, pA, pC, pZ]
       refine stAppendS (r := 0) (u := (.slice a30 k cap31)) S140 rfl i38 (.agg #[(.slice none 0 0), (.slice none 0 0)]) 48 Tryd.underlying40 hi38 hz38 hs38 hb38 rfl (by decide) rfl rfl rfl (((S140.own (i := 1) rfl).toW).takeN (m := k) (by omega)) (fun F cs p h => PrC.one F cs p h) (Nat.le_refl _) S140.gr.below.size (by unfold maxLen; simp only [List.length_append, List.length_take, List.length_drop, List.length_nil, List.length_cons]; omega) (by simp only [List.length_append, List.length_take, List.length_drop, List.length_nil, List.length_cons]; omega) ?_
       intro v141 w142 S143 hn144
       simp only [pS, pN, pA, pC, pZ]
       have S143 : St w F w142 F65 [⟨n57, [(.slice xa68 (keyL it.1).length xc69), (.slice xa71 (it.2.take 32).length xc72)], 38⟩] [ownP 2 PrC PrC.mono 38 w.heap.size v141 ([] ++ ((pairsN l i).take k)), ownP 2 PrC PrC.mono 38 w.heap.size (.slice a30 (pairsN l i).length cap31) (pairsN l i)] := S143
       refine do_ rfl v141 (ex_assign _) ?_
       simp only [pS, pN, pA, pC, pZ]
       refine wl_nil (hK139 _ _ ?_)
       refine wp_seq_k (fun K145 hK145 => region_wl ?_)
       refine do_ rfl v141 (ex_move _) ?_
       simp only [pS, pN, pA, pC, pZ]
       refine do_ rfl (.agg #[(.slice xa68 (keyL it.1).length xc69), (.slice xa71 (it.2.take 32).length xc72)]) (ex_load rfl (loadN (cs := [(.slice xa68 (keyL it.1).length xc69), (.slice xa71 (it.2.take 32).length xc72)]) Tryd.underlying38 rfl (size_38) (St.range S143 (i := 0) rfl 0 [(.slice xa68 (keyL it.1).length xc69), (.slice xa71 (it.2.take 32).length xc72)] (sub_range 0 rfl)))) ?_
       simp only [pS, pN, pA, pC, pZ]
       refine stNew S143 (v := fun n => .slice (some ⟨n, 0, none⟩) 1 1) rfl (ex_lit (ps := #[(0, (.agg #[(.slice xa68 (keyL it.1).length xc69), (.slice xa71 (it.2.take 32).length xc72)]))]) (cells := #[(.slice xa68 (keyL it.1).length xc69), (.slice xa71 (it.2.take 32).length xc72)]) (E := 38) (bmap1 rfl) (fun w => by kernel_rfl)) (fun n146 w147 S148 => ?_)
       simp only [pS, pN, pA, pC, pZ]
       have S148 : St w F w147 F65 [⟨n146, [(.slice xa68 (keyL it.1).length xc69), (.slice xa71 (it.2.take 32).length xc72)], 38⟩, ⟨n57, [(.slice xa68 (keyL it.1).length xc69), (.slice xa71 (it.2.take 32).length xc72)], 38⟩] [ownP 2 PrC PrC.mono 38 w.heap.size v141 ([] ++ ((pairsN l i).take k)), ownP 2 PrC PrC.mono 38 w.heap.size (.slice a30 (pairsN l i).length cap31) (pairsN l i)] := S148
       refine stPush (i := 0) (r := 0) (p := (keyL it.1, it.2.take 32)) (cs := [(.slice xa68 (keyL it.1).length xc69), (.slice xa71 (it.2.take 32).length xc72)]) S148 rfl i38 (.agg #[(.slice none 0 0), (.slice none 0 0)]) 48 Tryd.underlying40 hi38 hz38 hs38 hb38 rfl (by decide) rfl rfl rfl rfl rfl (PrC.oneCell (p := (keyL it.1, it.2.take 32)) ⟨_, _, rfl, r70, r73⟩) (⟨_, _, rfl, r70, r73⟩) (Nat.le_refl _) S148.gr.below.size (by unfold maxLen; simp only [List.length_append, List.length_take, List.length_nil]; omega) (by simp only [List.length_append, List.length_take, List.length_nil]; omega) ?_
       intro v149 w150 S151 hn152
       simp only [pS, pN, pA, pC, pZ]
       have S151 := St.drop S151 (L' := [⟨n57, [(.slice xa68 (keyL it.1).length xc69), (.slice xa71 (it.2.take 32).length xc72)], 38⟩]) (.cons _ (List.Sublist.refl _))
       have S151 : St w F w150 F65 [⟨n57, [(.slice xa68 (keyL it.1).length xc69), (.slice xa71 (it.2.take 32).length xc72)], 38⟩] [ownP 2 PrC PrC.mono 38 w.heap.size v149 (([] ++ ((pairsN l i).take k)) ++ [(keyL it.1, it.2.take 32)]), ownP 2 PrC PrC.mono 38 w.heap.size (.slice a30 (pairsN l i).length cap31) (pairsN l i)] := S151
       refine do_ rfl v149 (ex_assign _) ?_
       simp only [pS, pN, pA, pC, pZ]
       refine wl_nil (hK145 _ _ ?_)
       refine region_wl ?_
       refine do_ rfl v149 (ex_move _) ?_
       simp only [pS, pN, pA, pC, pZ]
       refine do_ rfl (.slice a30 (pairsN l i).length cap31) (ex_move _) ?_
       simp only [pS, pN, pA, pC, pZ]
       refine do_ rfl (.int .i64 ((k : Nat) : Int)) (ex_move _) ?_
       simp only [pS, pN, pA, pC, pZ]
       refine do_ rfl (.slice (if cap31 = k then a30 else a30.map (·.add (k * 2))) ((pairsN l i).length - k) (cap31 - k)) (ex_slice (l := k) (h := (pairsN l i).length) (sz := 2) Tryd.underlying40 rfl (sizeof_38 _) (.inr ⟨_, rfl, rfl⟩) (.inl ⟨rfl, rfl⟩) (by omega) (by omega) (rfl)) ?_
       simp only [pS, pN, pA, pC, pZ]
       refine stAppendS (r := 0) (u := (.slice (if cap31 = k then a30 else a30.map (·.add (k * 2))) ((pairsN l i).length - k) (cap31 - k))) S151 rfl i38 (.agg #[(.slice none 0 0), (.slice none 0 0)]) 48 Tryd.underlying40 hi38 hz38 hs38 hb38 rfl (by decide) rfl rfl rfl (((S151.own (i := 1) rfl).toW).dropN (m := k) (by omega)) (fun F cs p h => PrC.one F cs p h) (Nat.le_refl _) S151.gr.below.size (by unfold maxLen; simp only [List.length_append, List.length_take, List.length_drop, List.length_nil, List.length_cons]; omega) (by simp only [List.length_append, List.length_take, List.length_drop, List.length_nil, List.length_cons]; omega) ?_
       intro v153 w154 S155 hn156
       simp only [pS, pN, pA, pC, pZ]
       have S155 : St w F w154 F65 [⟨n57, [(.slice xa68 (keyL it.1).length xc69), (.slice xa71 (it.2.take 32).length xc72)], 38⟩] [ownP 2 PrC PrC.mono 38 w.heap.size v153 ((([] ++ ((pairsN l i).take k)) ++ [(keyL it.1, it.2.take 32)]) ++ ((pairsN l i).drop k)), ownP 2 PrC PrC.mono 38 w.heap.size (.slice a30 (pairsN l i).length cap31) (pairsN l i)] := S155
       refine do_ rfl v153 (ex_assign _) ?_
       simp only [pS, pN, pA, pC, pZ]
       refine wl_nil (hK17 _ _ ?_)
       have S157 := St.dropRow S155 (M' := [ownP 2 PrC PrC.mono 38 w.heap.size v153 ((([] ++ ((pairsN l i).take k)) ++ [(keyL it.1, it.2.take 32)]) ++ ((pairsN l i).drop k))]) (.cons_cons _ (.cons _ (List.Sublist.refl _)))
       rw [putT_new (by rw [hhas]; simp), hpos] at hnew
       have hl3 : (([] ++ (pairsN l i).take k) ++ [(keyL it.1, it.2.take 32)]) ++ (pairsN l i).drop k = (pairsN l i).take k ++ (keyL it.1, it.2.take 32) :: (pairsN l i).drop k := by simp
       rw [hl3] at S157
       refine region_wl ?_
       refine do_ rfl (.int .i64 ((i : Nat) : Int)) (ex_move _) ?_
       simp only [pS, pN, pA, pC, pZ]
       refine do_ rfl (.int .i64 (((i + 1) : Nat) : Int)) (ex_add (m := ((i : Nat) : Int)) (n := (1 : Int)) (r := (((i + 1) : Nat) : Int)) rfl rfl (by omega) (by omega) (by omega)) ?_
       simp only [pS, pN, pA, pC, pZ]
       refine do_ rfl (.int .i64 (((i + 1) : Nat) : Int)) (ex_assign _) ?_
       simp only [pS, pN, pA, pC, pZ]
       refine wl_nil ?_
       have S157 := St.drop S157 (L' := []) (.cons _ (List.Sublist.refl _))
       rw [← hnew] at S157
       exact hK14 _ _ _ (by omega) ⟨(i + 1), v153, F65, (slotF [(.slice a l.length c), (.int .i64 ((m : Nat) : Int)), undef, undef, (.slice none 0 0), v153, (.int .i64 (((i + 1) : Nat) : Int)), (.pointer (some ⟨n57, 0, none⟩)), (.int .i64 ((k : Nat) : Int)), v149, (.int .i64 ((i : Nat) : Int)), (.slice a l.length c), (.int .i64 ((l.length : Nat) : Int)), (.bool true), (.bool true), (.int .i64 ((i : Nat) : Int)), (.int .i64 ((m : Nat) : Int)), (.bool true), (.bool true), (.int .i64 ((i : Nat) : Int)), (.int .i64 (((i + 1) : Nat) : Int)), (.slice a l.length c), (.int .i64 ((i : Nat) : Int)), (.pointer (some ⟨b19, o20 + i * 2, none⟩)), (.pointer (some ⟨b19, o20 + i * 2, none⟩)), (.slice xa23 it.1.length xc24), v35, (.slice a l.length c), (.int .i64 ((i : Nat) : Int)), (.pointer (some ⟨b19, o20 + i * 2, none⟩)), (.pointer (some ⟨b19, o20 + i * 2 + 1, none⟩)), (.slice xa27 it.2.length xc28), v36, (.agg #[(.slice xa68 (keyL it.1).length xc69), (.slice xa71 (it.2.take 32).length xc72)]), (.int .i64 ((k : Nat) : Int)), (.slice a30 (pairsN l i).length cap31), (.int .i64 (((pairsN l i).length : Nat) : Int)), (.bool true), (.bool true), (.slice a30 (pairsN l i).length cap31), (.int .i64 ((k : Nat) : Int)), (.pointer (some ⟨g88, 0 + k * 2, none⟩)), (.pointer (some ⟨g88, 0 + k * 2, none⟩)), (.slice xa91 p.1.length xc92), (.string ⟨p.1.toArray⟩), (.pointer (some ⟨n57, 0, none⟩)), (.slice xa68 (keyL it.1).length xc69), (.string ⟨(keyL it.1).toArray⟩), (.bool false), (.bool false), (u78 50), (u78 51), (.int .i64 ((k : Nat) : Int)), (.slice a30 (pairsN l i).length cap31), (.int .i64 (((pairsN l i).length : Nat) : Int)), (.bool true), (.bool true), (.slice a30 (pairsN l i).length cap31), (.int .i64 ((k : Nat) : Int)), (.pointer (some ⟨g110, 0 + k * 2, none⟩)), (.pointer (some ⟨g110, 0 + k * 2, none⟩)), (.slice xa113 p2.1.length xc114), (.pointer (some ⟨n57, 0, none⟩)), (.slice xa68 (keyL it.1).length xc69), (.bool false), (.bool false), (u7 66), (u7 67), (u7 68), (u7 69), (.slice none 0 0), (.slice a30 (pairsN l i).length cap31), (.int .i64 ((k : Nat) : Int)), (.slice a30 k cap31), v141, v141, (.agg #[(.slice xa68 (keyL it.1).length xc69), (.slice xa71 (it.2.take 32).length xc72)]), (.slice (some ⟨n146, 0, none⟩) 1 1), v149, v149, (.slice a30 (pairsN l i).length cap31), (.int .i64 ((k : Nat) : Int)), (.slice (if cap31 = k then a30 else a30.map (·.add (k * 2))) ((pairsN l i).length - k) (cap31 - k)), v153, undef]), rfl, rfl, S157, (le13.trans le66), (by omega), (by omega)⟩
     ·have hhas : hasT (pairsN l i) (keyL it.1) = false := has_end hor (by omega)
      refine region_gw F65 12 [] (by kernel_rfl) (by kernel_rfl) ?_
      simp only [List.take_succ_cons, List.take_zero]
      refine gw_pure rfl rfl (.int .i64 ((k : Nat) : Int)) (fun w159 hCw159 => pureAt_of (ex_move _)) ?_
      simp only [pS, pN, pA, pC, pZ]
      refine gw_pure rfl rfl (.slice a30 (pairsN l i).length cap31) (fun w159 hCw159 => pureAt_of (ex_move _)) ?_
      simp only [pS, pN, pA, pC, pZ]
      refine gw_pure rfl rfl (.int .i64 (((pairsN l i).length : Nat) : Int)) (fun w159 hCw159 => pureAt_of (ex_len Tryd.underlying40 rfl)) ?_
      simp only [pS, pN, pA, pC, pZ]
      refine gw_pure rfl rfl (.bool false) (fun w159 hCw159 => pureAt_of (ex_lss (m := ((k : Nat) : Int)) (n := (((pairsN l i).length : Nat) : Int)) (b := false) rfl rfl (decide_eq_false (by omega)))) ?_
      simp only [pS, pN, pA, pC, pZ]
      refine gw_pure rfl rfl (.bool false) (fun w159 hCw159 => pureAt_of (ex_move _)) ?_
      simp only [pS, pN, pA, pC, pZ]
      refine gw_skip (wanted_no rfl rfl rfl (c := false) rfl (by decide)) ?_
      simp only [pS, pN, pA, pC, pZ]
      refine gw_skip (wanted_no rfl rfl rfl (c := false) rfl (by decide)) ?_
      simp only [pS, pN, pA, pC, pZ]
      refine gw_skip (wanted_no rfl rfl rfl (c := false) rfl (by decide)) ?_
      simp only [pS, pN, pA, pC, pZ]
      refine gw_skip (wanted_no rfl rfl rfl (c := false) rfl (by decide)) ?_
      simp only [pS, pN, pA, pC, pZ]
      refine gw_skip (wanted_no rfl rfl rfl (c := false) rfl (by decide)) ?_
      simp only [pS, pN, pA, pC, pZ]
      refine gw_skip (wanted_no rfl rfl rfl (c := false) rfl (by decide)) ?_
      simp only [pS, pN, pA, pC, pZ]
      refine gw_skip (wanted_no rfl rfl rfl (c := false) rfl (by decide)) ?_
      simp only [pS, pN, pA, pC, pZ]
      refine gw_nil ?_
      intro w160 hC162 hF163
      clear hF163
      have S161 := St.tells S105 hC162
      simp only [List.drop_succ_cons, List.drop_zero]
      refine doN (wanted_no rfl rfl rfl (c := false) rfl (by decide)) ?_
      simp only [pS, pN, pA, pC, pZ]
      refine do_ rfl (.bool false) (ex_pick (b := false) rfl) ?_
      simp only [pS, pN, pA, pC, pZ]
      refine wl_nil (hK109 _ _ ?_)
      refine wp_cond_false rfl ?_
      refine wp_skip ?_
      refine hK108 _ _ ?_
      refine wp_seq_k (fun K164 hK164 => region_wl ?_)
      refine do_ rfl (.slice none 0 0) (ex_assign _) ?_
      simp only [pS, pN, pA, pC, pZ]
      refine wl_nil (hK164 _ _ ?_)
      refine wp_seq_k (fun K165 hK165 => ?_)
      have S166 := St.addNil S161 2 PrC PrC.mono 38 w.heap.size
      refine region_wl ?_
      refine do_ rfl (.slice none 0 0) (ex_move _) ?_
      simp only [pS, pN, pA, pC, pZ]
      refine do_ rfl (.slice a30 (pairsN l i).length cap31) (ex_move _) ?_
      simp only [pS, pN, pA, pC, pZ]
      refine do_ rfl (.int .i64 ((k : Nat) : Int)) (ex_move _) ?_
      simp only [pS, pN, pA, pC, pZ]
      refine do_ rfl (.slice a30 k cap31) (ex_slice (l := 0) (h := k) (sz := 2) Tryd.underlying40 rfl (sizeof_38 _) (.inl ⟨rfl, rfl⟩) (.inr ⟨_, rfl, rfl⟩) (by omega) (by omega) (slice_zero)) ?_
      simp only [pS, pN, pA, pC, pZ]
      refine stAppendS (r := 0) (u := (.slice a30 k cap31)) S166 rfl i38 (.agg #[(.slice none 0 0), (.slice none 0 0)]) 48 Tryd.underlying40 hi38 hz38 hs38 hb38 rfl (by decide) rfl rfl rfl (((S166.own (i := 1) rfl).toW).takeN (m := k) (by omega)) (fun F cs p h => PrC.one F cs p h) (Nat.le_refl _) S166.gr.below.size (by unfold maxLen; simp only [List.length_append, List.length_take, List.length_drop, List.length_nil, List.length_cons]; omega) (by simp only [List.length_append, List.length_take, List.length_drop, List.length_nil, List.length_cons]; omega) ?_
      intro v167 w168 S169 hn170
      simp only [pS, pN, pA, pC, pZ]
      have S169 : St w F w168 F65 [⟨n57, [(.slice xa68 (keyL it.1).length xc69), (.slice xa71 (it.2.take 32).length xc72)], 38⟩] [ownP 2 PrC PrC.mono 38 w.heap.size v167 ([] ++ ((pairsN l i).take k)), ownP 2 PrC PrC.mono 38 w.heap.size (.slice a30 (pairsN l i).length cap31) (pairsN l i)] := S169
      refine do_ rfl v167 (ex_assign _) ?_
      simp only [pS, pN, pA, pC, pZ]
      refine wl_nil (hK165 _ _ ?_)
      refine wp_seq_k (fun K171 hK171 => region_wl ?_)
      refine do_ rfl v167 (ex_move _) ?_
      simp only [pS, pN, pA, pC, pZ]
      refine do_ rfl (.agg #[(.slice xa68 (keyL it.1).length xc69), (.slice xa71 (it.2.take 32).length xc72)]) (ex_load rfl (loadN (cs := [(.slice xa68 (keyL it.1).length xc69), (.slice xa71 (it.2.take 32).length xc72)]) Tryd.underlying38 rfl (size_38) (St.range S169 (i := 0) rfl 0 [(.slice xa68 (keyL it.1).length xc69), (.slice xa71 (it.2.take 32).length xc72)] (sub_range 0 rfl)))) ?_
      simp only [pS, pN, pA, pC, pZ]
      refine stNew S169 (v := fun n => .slice (some ⟨n, 0, none⟩) 1 1) rfl (ex_lit (ps := #[(0, (.agg #[(.slice xa68 (keyL it.1).length xc69), (.slice xa71 (it.2.take 32).length xc72)]))]) (cells := #[(.slice xa68 (keyL it.1).length xc69), (.slice xa71 (it.2.take 32).length xc72)]) (E := 38) (bmap1 rfl) (fun w => by kernel_rfl)) (fun n172 w173 S174 => ?_)
      simp only [pS, pN, pA, pC, pZ]
      have S174 : St w F w173 F65 [⟨n172, [(.slice xa68 (keyL it.1).length xc69), (.slice xa71 (it.2.take 32).length xc72)], 38⟩, ⟨n57, [(.slice xa68 (keyL it.1).length xc69), (.slice xa71 (it.2.take 32).length xc72)], 38⟩] [ownP 2 PrC PrC.mono 38 w.heap.size v167 ([] ++ ((pairsN l i).take k)), ownP 2 PrC PrC.mono 38 w.heap.size (.slice a30 (pairsN l i).length cap31) (pairsN l i)] := S174
      refine stPush (i := 0) (r := 0) (p := (keyL it.1, it.2.take 32)) (cs := [(.slice xa68 (keyL it.1).length xc69), (.slice xa71 (it.2.take 32).length xc72)]) S174 rfl i38 (.agg #[(.slice none 0 0), (.slice none 0 0)]) 48 Tryd.underlying40 hi38 hz38 hs38 hb38 rfl (by decide) rfl rfl rfl rfl rfl (PrC.oneCell (p := (keyL it.1, it.2.take 32)) ⟨_, _, rfl, r70, r73⟩) (⟨_, _, rfl, r70, r73⟩) (Nat.le_refl _) S174.gr.below.size (by unfold maxLen; simp only [List.length_append, List.length_take, List.length_nil]; omega) (by simp only [List.length_append, List.length_take, List.length_nil]; omega) ?_
      intro v175 w176 S177 hn178
      simp only [pS, pN, pA, pC, pZ]
      have S177 := St.drop S177 (L' := [⟨n57, [(.slice xa68 (keyL it.1).length xc69), (.slice xa71 (it.2.take 32).length xc72)], 38⟩]) (.cons _ (List.Sublist.refl _))
      have S177 : St w F w176 F65 [⟨n57, [(.slice xa68 (keyL it.1).length xc69), (.slice xa71 (it.2.take 32).length xc72)], 38⟩] [ownP 2 PrC PrC.mono 38 w.heap.size v175 (([] ++ ((pairsN l i).take k)) ++ [(keyL it.1, it.2.take 32)]), ownP 2 PrC PrC.mono 38 w.heap.size (.slice a30 (pairsN l i).length cap31) (pairsN l i)] := S177
      refine do_ rfl v175 (ex_assign _) ?_
      simp only [pS, pN, pA, pC, pZ]
      refine wl_nil (hK171 _ _ ?_)
      refine region_wl ?_
      refine do_ rfl v175 (ex_move _) ?_
      simp only [pS, pN, pA, pC, pZ]
      refine do_ rfl (.slice a30 (pairsN l i).length cap31) (ex_move _) ?_
      simp only [pS, pN, pA, pC, pZ]
      refine do_ rfl (.int .i64 ((k : Nat) : Int)) (ex_move _) ?_
      simp only [pS, pN, pA, pC, pZ]
      refine do_ rfl (.slice (if cap31 = k then a30 else a30.map (·.add (k * 2))) ((pairsN l i).length - k) (cap31 - k)) (ex_slice (l := k) (h := (pairsN l i).length) (sz := 2) Tryd.underlying40 rfl (sizeof_38 _) (.inr ⟨_, rfl, rfl⟩) (.inl ⟨rfl, rfl⟩) (by omega) (by omega) (rfl)) ?_
      simp only [pS, pN, pA, pC, pZ]
      refine stAppendS (r := 0) (u := (.slice (if cap31 = k then a30 else a30.map (·.add (k * 2))) ((pairsN l i).length - k) (cap31 - k))) S177 rfl i38 (.agg #[(.slice none 0 0), (.slice none 0 0)]) 48 Tryd.underlying40 hi38 hz38 hs38 hb38 rfl (by decide) rfl rfl rfl (((S177.own (i := 1) rfl).toW).dropN (m := k) (by omega)) (fun F cs p h => PrC.one F cs p h) (Nat.le_refl _) S177.gr.below.size (by unfold maxLen; simp only [List.length_append, List.length_take, List.length_drop, List.length_nil, List.length_cons]; omega) (by simp only [List.length_append, List.length_take, List.length_drop, List.length_nil, List.length_cons]; omega) ?_
      intro v179 w180 S181 hn182
      simp only [pS, pN, pA, pC, pZ]
      have S181 : St w F w180 F65 [⟨n57, [(.slice xa68 (keyL it.1).length xc69), (.slice xa71 (it.2.take 32).length xc72)], 38⟩] [ownP 2 PrC PrC.mono 38 w.heap.size v179 ((([] ++ ((pairsN l i).take k)) ++ [(keyL it.1, it.2.take 32)]) ++ ((pairsN l i).drop k)), ownP 2 PrC PrC.mono 38 w.heap.size (.slice a30 (pairsN l i).length cap31) (pairsN l i)] := S181
      refine do_ rfl v179 (ex_assign _) ?_
      simp only [pS, pN, pA, pC, pZ]
      refine wl_nil (hK17 _ _ ?_)
      have S183 := St.dropRow S181 (M' := [ownP 2 PrC PrC.mono 38 w.heap.size v179 ((([] ++ ((pairsN l i).take k)) ++ [(keyL it.1, it.2.take 32)]) ++ ((pairsN l i).drop k))]) (.cons_cons _ (.cons _ (List.Sublist.refl _)))
      rw [putT_new (by rw [hhas]; simp), hpos] at hnew
      have hl3 : (([] ++ (pairsN l i).take k) ++ [(keyL it.1, it.2.take 32)]) ++ (pairsN l i).drop k = (pairsN l i).take k ++ (keyL it.1, it.2.take 32) :: (pairsN l i).drop k := by simp
      rw [hl3] at S183
      refine region_wl ?_
      refine do_ rfl (.int .i64 ((i : Nat) : Int)) (ex_move _) ?_
      simp only [pS, pN, pA, pC, pZ]
      refine do_ rfl (.int .i64 (((i + 1) : Nat) : Int)) (ex_add (m := ((i : Nat) : Int)) (n := (1 : Int)) (r := (((i + 1) : Nat) : Int)) rfl rfl (by omega) (by omega) (by omega)) ?_
      simp only [pS, pN, pA, pC, pZ]
      refine do_ rfl (.int .i64 (((i + 1) : Nat) : Int)) (ex_assign _) ?_
      simp only [pS, pN, pA, pC, pZ]
      refine wl_nil ?_
      have S183 := St.drop S183 (L' := []) (.cons _ (List.Sublist.refl _))
      rw [← hnew] at S183
      exact hK14 _ _ _ (by omega) ⟨(i + 1), v179, F65, (slotF [(.slice a l.length c), (.int .i64 ((m : Nat) : Int)), undef, undef, (.slice none 0 0), v179, (.int .i64 (((i + 1) : Nat) : Int)), (.pointer (some ⟨n57, 0, none⟩)), (.int .i64 ((k : Nat) : Int)), v175, (.int .i64 ((i : Nat) : Int)), (.slice a l.length c), (.int .i64 ((l.length : Nat) : Int)), (.bool true), (.bool true), (.int .i64 ((i : Nat) : Int)), (.int .i64 ((m : Nat) : Int)), (.bool true), (.bool true), (.int .i64 ((i : Nat) : Int)), (.int .i64 (((i + 1) : Nat) : Int)), (.slice a l.length c), (.int .i64 ((i : Nat) : Int)), (.pointer (some ⟨b19, o20 + i * 2, none⟩)), (.pointer (some ⟨b19, o20 + i * 2, none⟩)), (.slice xa23 it.1.length xc24), v35, (.slice a l.length c), (.int .i64 ((i : Nat) : Int)), (.pointer (some ⟨b19, o20 + i * 2, none⟩)), (.pointer (some ⟨b19, o20 + i * 2 + 1, none⟩)), (.slice xa27 it.2.length xc28), v36, (.agg #[(.slice xa68 (keyL it.1).length xc69), (.slice xa71 (it.2.take 32).length xc72)]), (.int .i64 ((k : Nat) : Int)), (.slice a30 (pairsN l i).length cap31), (.int .i64 (((pairsN l i).length : Nat) : Int)), (.bool true), (.bool true), (.slice a30 (pairsN l i).length cap31), (.int .i64 ((k : Nat) : Int)), (.pointer (some ⟨g88, 0 + k * 2, none⟩)), (.pointer (some ⟨g88, 0 + k * 2, none⟩)), (.slice xa91 p.1.length xc92), (.string ⟨p.1.toArray⟩), (.pointer (some ⟨n57, 0, none⟩)), (.slice xa68 (keyL it.1).length xc69), (.string ⟨(keyL it.1).toArray⟩), (.bool false), (.bool false), (u78 50), (u78 51), (.int .i64 ((k : Nat) : Int)), (.slice a30 (pairsN l i).length cap31), (.int .i64 (((pairsN l i).length : Nat) : Int)), (.bool false), (.bool false), undef, undef, undef, undef, undef, undef, undef, undef, (.bool false), (u7 66), (u7 67), (u7 68), (u7 69), (.slice none 0 0), (.slice a30 (pairsN l i).length cap31), (.int .i64 ((k : Nat) : Int)), (.slice a30 k cap31), v167, v167, (.agg #[(.slice xa68 (keyL it.1).length xc69), (.slice xa71 (it.2.take 32).length xc72)]), (.slice (some ⟨n172, 0, none⟩) 1 1), v175, v175, (.slice a30 (pairsN l i).length cap31), (.int .i64 ((k : Nat) : Int)), (.slice (if cap31 = k then a30 else a30.map (·.add (k * 2))) ((pairsN l i).length - k) (cap31 - k)), v179, undef]), rfl, rfl, S183, (le13.trans le66), (by omega), (by omega)⟩
   ·refine region_gw F65 14 [] (by kernel_rfl) (by kernel_rfl) ?_
    simp only [List.take_succ_cons, List.take_zero]
    refine gw_pure rfl rfl (.int .i64 ((k : Nat) : Int)) (fun w185 hCw185 => pureAt_of (ex_move _)) ?_
    simp only [pS, pN, pA, pC, pZ]
    refine gw_pure rfl rfl (.slice a30 (pairsN l i).length cap31) (fun w185 hCw185 => pureAt_of (ex_move _)) ?_
    simp only [pS, pN, pA, pC, pZ]
    refine gw_pure rfl rfl (.int .i64 (((pairsN l i).length : Nat) : Int)) (fun w185 hCw185 => pureAt_of (ex_len Tryd.underlying40 rfl)) ?_
    simp only [pS, pN, pA, pC, pZ]
    refine gw_pure rfl rfl (.bool false) (fun w185 hCw185 => pureAt_of (ex_lss (m := ((k : Nat) : Int)) (n := (((pairsN l i).length : Nat) : Int)) (b := false) rfl rfl (decide_eq_false (by omega)))) ?_
    simp only [pS, pN, pA, pC, pZ]
    refine gw_pure rfl rfl (.bool false) (fun w185 hCw185 => pureAt_of (ex_move _)) ?_
    simp only [pS, pN, pA, pC, pZ]
    refine gw_skip (wanted_no rfl rfl rfl (c := false) rfl (by decide)) ?_
    simp only [pS, pN, pA, pC, pZ]
    refine gw_skip (wanted_no rfl rfl rfl (c := false) rfl (by decide)) ?_
    simp only [pS, pN, pA, pC, pZ]
    refine gw_skip (wanted_no rfl rfl rfl (c := false) rfl (by decide)) ?_
    simp only [pS, pN, pA, pC, pZ]
    refine gw_skip (wanted_no rfl rfl rfl (c := false) rfl (by decide)) ?_
    simp only [pS, pN, pA, pC, pZ]
    refine gw_skip (wanted_no rfl rfl rfl (c := false) rfl (by decide)) ?_
    simp only [pS, pN, pA, pC, pZ]
    refine gw_skip (wanted_no rfl rfl rfl (c := false) rfl (by decide)) ?_
    simp only [pS, pN, pA, pC, pZ]
    refine gw_skip (wanted_no rfl rfl rfl (c := false) rfl (by decide)) ?_
    simp only [pS, pN, pA, pC, pZ]
    refine gw_skip (wanted_no rfl rfl rfl (c := false) rfl (by decide)) ?_
    simp only [pS, pN, pA, pC, pZ]
    refine gw_skip (wanted_no rfl rfl rfl (c := false) rfl (by decide)) ?_
    simp only [pS, pN, pA, pC, pZ]
    refine gw_nil ?_
    intro w186 hC188 hF189
    clear hF189
    have S187 := St.tells S83 hC188
    simp only [List.drop_succ_cons, List.drop_zero]
    refine doN (wanted_no rfl rfl rfl (c := false) rfl (by decide)) ?_
    simp only [pS, pN, pA, pC, pZ]
    refine do_ rfl (.bool false) (ex_pick (b := false) rfl) ?_
    simp only [pS, pN, pA, pC, pZ]
    refine wl_nil (hK87 _ _ ?_)
    refine wp_cond_false rfl ?_
    refine wp_exit ?_
    refine hK77 _ _ ?_
    refine wp_seq_k (fun K190 hK190 => ?_)
    refine wp_seq_k (fun K191 hK191 => ?_)
    have hpos : posT (pairsN l i) (keyL it.1) = k := by first | exact Nat.le_antisymm (pos_le hp (fun h => hlt (cmpL_lt.1 h))) hk | omega
    by_cases hkl2 : k < (pairsN l i).length
    ·obtain ⟨p2, hp2⟩ : ∃ p, (pairsN l i)[k]? = some p := ⟨(pairsN l i)[k], List.getElem?_eq_getElem hkl2⟩
     obtain ⟨g192, ha193, xa195, xc196, xa199, xc200, c194, c198, r197, r201⟩ := pr_at (S187.own (i := 0) rfl) hp2
     by_cases heq : p2.1 = (keyL it.1)
     ·have hhas := has_yes hor (by rw [hpos]; exact hp2) (cmpL_eq.2 heq)
      refine region_gw F65 12 [] (by kernel_rfl) (by kernel_rfl) ?_
      simp only [List.take_succ_cons, List.take_zero]
      refine gw_pure rfl rfl (.int .i64 ((k : Nat) : Int)) (fun w202 hCw202 => pureAt_of (ex_move _)) ?_
      simp only [pS, pN, pA, pC, pZ]
      refine gw_pure rfl rfl (.slice a30 (pairsN l i).length cap31) (fun w202 hCw202 => pureAt_of (ex_move _)) ?_
      simp only [pS, pN, pA, pC, pZ]
      refine gw_pure rfl rfl (.int .i64 (((pairsN l i).length : Nat) : Int)) (fun w202 hCw202 => pureAt_of (ex_len Tryd.underlying40 rfl)) ?_
      simp only [pS, pN, pA, pC, pZ]
      refine gw_pure rfl rfl (.bool true) (fun w202 hCw202 => pureAt_of (ex_lss (m := ((k : Nat) : Int)) (n := (((pairsN l i).length : Nat) : Int)) (b := true) rfl rfl (decide_eq_true (by omega)))) ?_
      simp only [pS, pN, pA, pC, pZ]
      refine gw_pure rfl rfl (.bool true) (fun w202 hCw202 => pureAt_of (ex_move _)) ?_
      simp only [pS, pN, pA, pC, pZ]
      refine gw_pure rfl rfl (.slice a30 (pairsN l i).length cap31) (fun w202 hCw202 => pureAt_of (ex_move _)) ?_
      simp only [pS, pN, pA, pC, pZ]
      refine gw_pure rfl rfl (.int .i64 ((k : Nat) : Int)) (fun w202 hCw202 => pureAt_of (ex_move _)) ?_
      simp only [pS, pN, pA, pC, pZ]
      refine gw_pure rfl rfl (.pointer (some ⟨g192, 0 + k * 2, none⟩)) (fun w202 hCw202 => pureAt_of (ex_at (i := k) (sz := 2) Tryd.underlying40 (sizeof_38 _) rfl ha193 rfl (by omega) rfl)) ?_
      simp only [pS, pN, pA, pC, pZ]
      refine gw_pure rfl rfl (.pointer (some ⟨g192, 0 + k * 2, none⟩)) (fun w202 hCw202 => pureAt_of (ex_field (q := ⟨g192, 0 + k * 2, none⟩) rfl (fa_38_0 _ _))) ?_
      simp only [pS, pN, pA, pC, pZ]
      refine gw_pure rfl rfl (.slice xa195 p2.1.length xc196) (fun w202 hCw202 => pureAt_of (ex_load rfl (load1 (nagg_22 _) (cell_kept hCw202 c194)))) ?_
      simp only [pS, pN, pA, pC, pZ]
      refine gw_pure rfl rfl (.pointer (some ⟨n57, 0, none⟩)) (fun w202 hCw202 => pureAt_of (ex_field (q := ⟨n57, 0, none⟩) rfl (fa_38_0 _ _))) ?_
      simp only [pS, pN, pA, pC, pZ]
      refine gw_pure rfl rfl (.slice xa68 (keyL it.1).length xc69) (fun w202 hCw202 => pureAt_of (ex_load rfl (load1 (nagg_22 _) (St.cell (St.tells S187 hCw202) (i := 0) rfl rfl)))) ?_
      simp only [pS, pN, pA, pC, pZ]
      refine gw_nil ?_
      intro w203 hC205 hF206
      clear hF206
      have S204 := St.tells S187 hC205
      simp only [List.drop_succ_cons, List.drop_zero]
      refine stTells (v := (.bool true)) S204 rfl (ex_fn (vs := #[(.slice xa195 p2.1.length xc196), (.slice xa68 (keyL it.1).length xc69)]) (map2 rfl rfl) rfl (ent_16 _ _)) (tells_bool (tells_same (same_spec _ _ _ _ p2.1 (keyL it.1) (S204).sat r197 r70)) (beq_iff_eq.2 heq)) (fun w207 S208 => ?_)
      simp only [pS, pN, pA, pC, pZ]
      refine do_ rfl (.bool true) (ex_pick (b := true) rfl) ?_
      simp only [pS, pN, pA, pC, pZ]
      refine wl_nil (hK191 _ _ ?_)
      refine wp_cond_true rfl ?_
      refine wp_seq_k (fun K209 hK209 => ?_)
      obtain ⟨g210, rfl⟩ := Own.addr0 (S208.own (i := 0) rfl) (by omega)
      refine region_wl ?_
      refine do_ rfl (.slice (some ⟨g210, 0, none⟩) (pairsN l i).length cap31) (ex_move _) ?_
      simp only [pS, pN, pA, pC, pZ]
      refine do_ rfl (.int .i64 ((k : Nat) : Int)) (ex_move _) ?_
      simp only [pS, pN, pA, pC, pZ]
      refine do_ rfl (.agg #[(.slice xa68 (keyL it.1).length xc69), (.slice xa71 (it.2.take 32).length xc72)]) (ex_load rfl (loadN (cs := [(.slice xa68 (keyL it.1).length xc69), (.slice xa71 (it.2.take 32).length xc72)]) Tryd.underlying38 rfl (size_38) (St.range S208 (i := 0) rfl 0 [(.slice xa68 (keyL it.1).length xc69), (.slice xa71 (it.2.take 32).length xc72)] (sub_range 0 rfl)))) ?_
      simp only [pS, pN, pA, pC, pZ]
      refine do_ rfl (.pointer (some ⟨g210, 0 + k * 2, none⟩)) (ex_at (i := k) (sz := 2) Tryd.underlying40 (sizeof_38 _) rfl rfl rfl (by omega) rfl) ?_
      simp only [pS, pN, pA, pC, pZ]
      refine stSetRow (r := 0) (i := k) (p := (keyL it.1, it.2.take 32)) (u := (.agg #[(.slice xa68 (keyL it.1).length xc69), (.slice xa71 (it.2.take 32).length xc72)])) S208 rfl rfl (by omega) rfl rfl (by omega) (size_38) (allc2 rfl rfl) rfl ⟨_, _, rfl, r70, r73⟩ (Nat.le_refl _) (fun w211 S212 => ?_)
      simp only [pS, pN, pA, pC, pZ]
      have S212 : St w F w211 F65 [⟨n57, [(.slice xa68 (keyL it.1).length xc69), (.slice xa71 (it.2.take 32).length xc72)], 38⟩] [ownP 2 PrC PrC.mono 38 w.heap.size (.slice (some ⟨g210, 0, none⟩) (pairsN l i).length cap31) ((pairsN l i).set k (keyL it.1, it.2.take 32))] := S212
      refine wl_nil (hK209 _ _ ?_)
      refine wp_exit ?_
      refine hK17 _ _ ?_
      rw [putT_have hhas, hpos] at hnew
      refine region_wl ?_
      refine do_ rfl (.int .i64 ((i : Nat) : Int)) (ex_move _) ?_
      simp only [pS, pN, pA, pC, pZ]
      refine do_ rfl (.int .i64 (((i + 1) : Nat) : Int)) (ex_add (m := ((i : Nat) : Int)) (n := (1 : Int)) (r := (((i + 1) : Nat) : Int)) rfl rfl (by omega) (by omega) (by omega)) ?_
      simp only [pS, pN, pA, pC, pZ]
      refine do_ rfl (.int .i64 (((i + 1) : Nat) : Int)) (ex_assign _) ?_
      simp only [pS, pN, pA, pC, pZ]
      refine wl_nil ?_
      have S212 := St.drop S212 (L' := []) (.cons _ (List.Sublist.refl _))
      rw [← hnew] at S212
      exact hK14 _ _ _ (by omega) ⟨(i + 1), (.slice (some ⟨g210, 0, none⟩) (pairsN l i).length cap31), F65, (slotF [(.slice a l.length c), (.int .i64 ((m : Nat) : Int)), undef, undef, (.slice none 0 0), (.slice (some ⟨g210, 0, none⟩) (pairsN l i).length cap31), (.int .i64 (((i + 1) : Nat) : Int)), (.pointer (some ⟨n57, 0, none⟩)), (.int .i64 ((k : Nat) : Int)), (u7 9), (.int .i64 ((i : Nat) : Int)), (.slice a l.length c), (.int .i64 ((l.length : Nat) : Int)), (.bool true), (.bool true), (.int .i64 ((i : Nat) : Int)), (.int .i64 ((m : Nat) : Int)), (.bool true), (.bool true), (.int .i64 ((i : Nat) : Int)), (.int .i64 (((i + 1) : Nat) : Int)), (.slice a l.length c), (.int .i64 ((i : Nat) : Int)), (.pointer (some ⟨b19, o20 + i * 2, none⟩)), (.pointer (some ⟨b19, o20 + i * 2, none⟩)), (.slice xa23 it.1.length xc24), v35, (.slice a l.length c), (.int .i64 ((i : Nat) : Int)), (.pointer (some ⟨b19, o20 + i * 2, none⟩)), (.pointer (some ⟨b19, o20 + i * 2 + 1, none⟩)), (.slice xa27 it.2.length xc28), v36, (.agg #[(.slice xa68 (keyL it.1).length xc69), (.slice xa71 (it.2.take 32).length xc72)]), (.int .i64 ((k : Nat) : Int)), (.slice (some ⟨g210, 0, none⟩) (pairsN l i).length cap31), (.int .i64 (((pairsN l i).length : Nat) : Int)), (.bool false), (.bool false), undef, undef, undef, undef, undef, undef, undef, undef, undef, undef, (.bool false), (u78 50), (u78 51), (.int .i64 ((k : Nat) : Int)), (.slice (some ⟨g210, 0, none⟩) (pairsN l i).length cap31), (.int .i64 (((pairsN l i).length : Nat) : Int)), (.bool true), (.bool true), (.slice (some ⟨g210, 0, none⟩) (pairsN l i).length cap31), (.int .i64 ((k : Nat) : Int)), (.pointer (some ⟨g192, 0 + k * 2, none⟩)), (.pointer (some ⟨g192, 0 + k * 2, none⟩)), (.slice xa195 p2.1.length xc196), (.pointer (some ⟨n57, 0, none⟩)), (.slice xa68 (keyL it.1).length xc69), (.bool true), (.bool true), (.slice (some ⟨g210, 0, none⟩) (pairsN l i).length cap31), (.int .i64 ((k : Nat) : Int)), (.agg #[(.slice xa68 (keyL it.1).length xc69), (.slice xa71 (it.2.take 32).length xc72)]), (.pointer (some ⟨g210, 0 + k * 2, none⟩)), (u7 70), (u7 71), (u7 72), (u7 73), (u7 74), (u7 75), (u7 76), (u7 77), (u7 78), (u7 79), (u7 80), (u7 81), (u7 82), (u7 83), undef]), rfl, rfl, S212, (le13.trans le66), (by omega), (by omega)⟩
     ·have hhas := has_no hor (by rw [hpos]; exact hp2) (fun h => heq (cmpL_eq.1 h))
      refine region_gw F65 12 [] (by kernel_rfl) (by kernel_rfl) ?_
      simp only [List.take_succ_cons, List.take_zero]
      refine gw_pure rfl rfl (.int .i64 ((k : Nat) : Int)) (fun w213 hCw213 => pureAt_of (ex_move _)) ?_
      simp only [pS, pN, pA, pC, pZ]
      refine gw_pure rfl rfl (.slice a30 (pairsN l i).length cap31) (fun w213 hCw213 => pureAt_of (ex_move _)) ?_
      simp only [pS, pN, pA, pC, pZ]
      refine gw_pure rfl rfl (.int .i64 (((pairsN l i).length : Nat) : Int)) (fun w213 hCw213 => pureAt_of (ex_len Tryd.underlying40 rfl)) ?_
      simp only [pS, pN, pA, pC, pZ]
      refine gw_pure rfl rfl (.bool true) (fun w213 hCw213 => pureAt_of (ex_lss (m := ((k : Nat) : Int)) (n := (((pairsN l i).length : Nat) : Int)) (b := true) rfl rfl (decide_eq_true (by omega)))) ?_
      simp only [pS, pN, pA, pC, pZ]
      refine gw_pure rfl rfl (.bool true) (fun w213 hCw213 => pureAt_of (ex_move _)) ?_
      simp only [pS, pN, pA, pC, pZ]
      refine gw_pure rfl rfl (.slice a30 (pairsN l i).length cap31) (fun w213 hCw213 => pureAt_of (ex_move _)) ?_
      simp only [pS, pN, pA, pC, pZ]
      refine gw_pure rfl rfl (.int .i64 ((k : Nat) : Int)) (fun w213 hCw213 => pureAt_of (ex_move _)) ?_
      simp only [pS, pN, pA, pC, pZ]
      refine gw_pure rfl rfl (.pointer (some ⟨g192, 0 + k * 2, none⟩)) (fun w213 hCw213 => pureAt_of (ex_at (i := k) (sz := 2) Tryd.underlying40 (sizeof_38 _) rfl ha193 rfl (by omega) rfl)) ?_
      simp only [pS, pN, pA, pC, pZ]
      refine gw_pure rfl rfl (.pointer (some ⟨g192, 0 + k * 2, none⟩)) (fun w213 hCw213 => pureAt_of (ex_field (q := ⟨g192, 0 + k * 2, none⟩) rfl (fa_38_0 _ _))) ?_
      simp only [pS, pN, pA, pC, pZ]
      refine gw_pure rfl rfl (.slice xa195 p2.1.length xc196) (fun w213 hCw213 => pureAt_of (ex_load rfl (load1 (nagg_22 _) (cell_kept hCw213 c194)))) ?_
      simp only [pS, pN, pA, pC, pZ]
      refine gw_pure rfl rfl (.pointer (some ⟨n57, 0, none⟩)) (fun w213 hCw213 => pureAt_of (ex_field (q := ⟨n57, 0, none⟩) rfl (fa_38_0 _ _))) ?_
      simp only [pS, pN, pA, pC, pZ]
      refine gw_pure rfl rfl (.slice xa68 (keyL it.1).length xc69) (fun w213 hCw213 => pureAt_of (ex_load rfl (load1 (nagg_22 _) (St.cell (St.tells S187 hCw213) (i := 0) rfl rfl)))) ?_
      simp only [pS, pN, pA, pC, pZ]
      refine gw_nil ?_
      intro w214 hC216 hF217
      clear hF217
      have S215 := St.tells S187 hC216
      simp only [List.drop_succ_cons, List.drop_zero]
      refine stTells (v := (.bool false)) S215 rfl (ex_fn (vs := #[(.slice xa195 p2.1.length xc196), (.slice xa68 (keyL it.1).length xc69)]) (map2 rfl rfl) rfl (ent_16 _ _)) (tells_bool (tells_same (same_spec _ _ _ _ p2.1 (keyL it.1) (S215).sat r197 r70)) (beq_eq_false_iff_ne.2 heq)) (fun w218 S219 => ?_)
      simp only [pS, pN, pA, pC, pZ]
      refine do_ rfl (.bool false) (ex_pick (b := true) rfl) ?_
      simp only [pS, pN, pA, pC, pZ]
      refine wl_nil (hK191 _ _ ?_)
      refine wp_cond_false rfl ?_
      refine wp_skip ?_
      refine hK190 _ _ ?_
      refine wp_seq_k (fun K220 hK220 => region_wl ?_)
      refine do_ rfl (.slice none 0 0) (ex_assign _) ?_
      simp only [pS, pN, pA, pC, pZ]
      refine wl_nil (hK220 _ _ ?_)
      refine wp_seq_k (fun K221 hK221 => ?_)
      have S222 := St.addNil S219 2 PrC PrC.mono 38 w.heap.size
      refine region_wl ?_
      refine do_ rfl (.slice none 0 0) (ex_move _) ?_
      simp only [pS, pN, pA, pC, pZ]
      refine do_ rfl (.slice a30 (pairsN l i).length cap31) (ex_move _) ?_
      simp only [pS, pN, pA, pC, pZ]
      refine do_ rfl (.int .i64 ((k : Nat) : Int)) (ex_move _) ?_
      simp only [pS, pN, pA, pC, pZ]
      refine do_ rfl (.slice a30 k cap31) (ex_slice (l := 0) (h := k) (sz := 2) Tryd.underlying40 rfl (sizeof_38 _) (.inl ⟨rfl, rfl⟩) (.inr ⟨_, rfl, rfl⟩) (by omega) (by omega) (slice_zero)) ?_
      simp only [pS, pN, pA, pC, pZ]
      refine stAppendS (r := 0) (u := (.slice a30 k cap31)) S222 rfl i38 (.agg #[(.slice none 0 0), (.slice none 0 0)]) 48 Tryd.underlying40 hi38 hz38 hs38 hb38 rfl (by decide) rfl rfl rfl (((S222.own (i := 1) rfl).toW).takeN (m := k) (by omega)) (fun F cs p h => PrC.one F cs p h) (Nat.le_refl _) S222.gr.below.size (by unfold maxLen; simp only [List.length_append, List.length_take, List.length_drop, List.length_nil, List.length_cons]; omega) (by simp only [List.length_append, List.length_take, List.length_drop, List.length_nil, List.length_cons]; omega) ?_
      intro v223 w224 S225 hn226
      simp only [pS, pN, pA, pC, pZ]
      have S225 : St w F w224 F65 [⟨n57, [(.slice xa68 (keyL it.1).length xc69), (.slice xa71 (it.2.take 32).length xc72)], 38⟩] [ownP 2 PrC PrC.mono 38 w.heap.size v223 ([] ++ ((pairsN l i).take k)), ownP 2 PrC PrC.mono 38 w.heap.size (.slice a30 (pairsN l i).length cap31) (pairsN l i)] := S225
      refine do_ rfl v223 (ex_assign _) ?_
      simp only [pS, pN, pA, pC, pZ]
      refine wl_nil (hK221 _ _ ?_)
      refine wp_seq_k (fun K227 hK227 => region_wl ?_)
      refine do_ rfl v223 (ex_move _) ?_
      simp only [pS, pN, pA, pC, pZ]
      refine do_ rfl (.agg #[(.slice xa68 (keyL it.1).length xc69), (.slice xa71 (it.2.take 32).length xc72)]) (ex_load rfl (loadN (cs := [(.slice xa68 (keyL it.1).length xc69), (.slice xa71 (it.2.take 32).length xc72)]) Tryd.underlying38 rfl (size_38) (St.range S225 (i := 0) rfl 0 [(.slice xa68 (keyL it.1).length xc69), (.slice xa71 (it.2.take 32).length xc72)] (sub_range 0 rfl)))) ?_
      simp only [pS, pN, pA, pC, pZ]
      refine stNew S225 (v := fun n => .slice (some ⟨n, 0, none⟩) 1 1) rfl (ex_lit (ps := #[(0, (.agg #[(.slice xa68 (keyL it.1).length xc69), (.slice xa71 (it.2.take 32).length xc72)]))]) (cells := #[(.slice xa68 (keyL it.1).length xc69), (.slice xa71 (it.2.take 32).length xc72)]) (E := 38) (bmap1 rfl) (fun w => by kernel_rfl)) (fun n228 w229 S230 => ?_)
      simp only [pS, pN, pA, pC, pZ]
      have S230 : St w F w229 F65 [⟨n228, [(.slice xa68 (keyL it.1).length xc69), (.slice xa71 (it.2.take 32).length xc72)], 38⟩, ⟨n57, [(.slice xa68 (keyL it.1).length xc69), (.slice xa71 (it.2.take 32).length xc72)], 38⟩] [ownP 2 PrC PrC.mono 38 w.heap.size v223 ([] ++ ((pairsN l i).take k)), ownP 2 PrC PrC.mono 38 w.heap.size (.slice a30 (pairsN l i).length cap31) (pairsN l i)] := S230
      refine stPush (i := 0) (r := 0) (p := (keyL it.1, it.2.take 32)) (cs := [(.slice xa68 (keyL it.1).length xc69), (.slice xa71 (it.2.take 32).length xc72)]) S230 rfl i38 (.agg #[(.slice none 0 0), (.slice none 0 0)]) 48 Tryd.underlying40 hi38 hz38 hs38 hb38 rfl (by decide) rfl rfl rfl rfl rfl (PrC.oneCell (p := (keyL it.1, it.2.take 32)) ⟨_, _, rfl, r70, r73⟩) (⟨_, _, rfl, r70, r73⟩) (Nat.le_refl _) S230.gr.below.size (by unfold maxLen; simp only [List.length_append, List.length_take, List.length_nil]; omega) (by simp only [List.length_append, List.length_take, List.length_nil]; omega) ?_
      intro v231 w232 S233 hn234
      simp only [pS, pN, pA, pC, pZ]
      have S233 := St.drop S233 (L' := [⟨n57, [(.slice xa68 (keyL it.1).length xc69), (.slice xa71 (it.2.take 32).length xc72)], 38⟩]) (.cons _ (List.Sublist.refl _))
      have S233 : St w F w232 F65 [⟨n57, [(.slice xa68 (keyL it.1).length xc69), (.slice xa71 (it.2.take 32).length xc72)], 38⟩] [ownP 2 PrC PrC.mono 38 w.heap.size v231 (([] ++ ((pairsN l i).take k)) ++ [(keyL it.1, it.2.take 32)]), ownP 2 PrC PrC.mono 38 w.heap.size (.slice a30 (pairsN l i).length cap31) (pairsN l i)] := S233
      refine do_ rfl v231 (ex_assign _) ?_
      simp only [pS, pN, pA, pC, pZ]
      refine wl_nil (hK227 _ _ ?_)
      refine region_wl ?_
      refine do_ rfl v231 (ex_move _) ?_
      simp only [pS, pN, pA, pC, pZ]
      refine do_ rfl (.slice a30 (pairsN l i).length cap31) (ex_move _) ?_
      simp only [pS, pN, pA, pC, pZ]
      refine do_ rfl (.int .i64 ((k : Nat) : Int)) (ex_move _) ?_
      simp only [pS, pN, pA, pC, pZ]
      refine do_ rfl (.slice (if cap31 = k then a30 else a30.map (·.add (k * 2))) ((pairsN l i).length - k) (cap31 - k)) (ex_slice (l := k) (h := (pairsN l i).length) (sz := 2) Tryd.underlying40 rfl (sizeof_38 _) (.inr ⟨_, rfl, rfl⟩) (.inl ⟨rfl, rfl⟩) (by omega) (by omega) (rfl)) ?_
      simp only [pS, pN, pA, pC, pZ]
      refine stAppendS (r := 0) (u := (.slice (if cap31 = k then a30 else a30.map (·.add (k * 2))) ((pairsN l i).length - k) (cap31 - k))) S233 rfl i38 (.agg #[(.slice none 0 0), (.slice none 0 0)]) 48 Tryd.underlying40 hi38 hz38 hs38 hb38 rfl (by decide) rfl rfl rfl (((S233.own (i := 1) rfl).toW).dropN (m := k) (by omega)) (fun F cs p h => PrC.one F cs p h) (Nat.le_refl _) S233.gr.below.size (by unfold maxLen; simp only [List.length_append, List.length_take, List.length_drop, List.length_nil, List.length_cons]; omega) (by simp only [List.length_append, List.length_take, List.length_drop, List.length_nil, List.length_cons]; omega) ?_
      intro v235 w236 S237 hn238
      simp only [pS, pN, pA, pC, pZ]
      have S237 : St w F w236 F65 [⟨n57, [(.slice xa68 (keyL it.1).length xc69), (.slice xa71 (it.2.take 32).length xc72)], 38⟩] [ownP 2 PrC PrC.mono 38 w.heap.size v235 ((([] ++ ((pairsN l i).take k)) ++ [(keyL it.1, it.2.take 32)]) ++ ((pairsN l i).drop k)), ownP 2 PrC PrC.mono 38 w.heap.size (.slice a30 (pairsN l i).length cap31) (pairsN l i)] := S237
      refine do_ rfl v235 (ex_assign _) ?_
      simp only [pS, pN, pA, pC, pZ]
      refine wl_nil (hK17 _ _ ?_)
      have S239 := St.dropRow S237 (M' := [ownP 2 PrC PrC.mono 38 w.heap.size v235 ((([] ++ ((pairsN l i).take k)) ++ [(keyL it.1, it.2.take 32)]) ++ ((pairsN l i).drop k))]) (.cons_cons _ (.cons _ (List.Sublist.refl _)))
      rw [putT_new (by rw [hhas]; simp), hpos] at hnew
      have hl3 : (([] ++ (pairsN l i).take k) ++ [(keyL it.1, it.2.take 32)]) ++ (pairsN l i).drop k = (pairsN l i).take k ++ (keyL it.1, it.2.take 32) :: (pairsN l i).drop k := by simp
      rw [hl3] at S239
      refine region_wl ?_
      refine do_ rfl (.int .i64 ((i : Nat) : Int)) (ex_move _) ?_
      simp only [pS, pN, pA, pC, pZ]
      refine do_ rfl (.int .i64 (((i + 1) : Nat) : Int)) (ex_add (m := ((i : Nat) : Int)) (n := (1 : Int)) (r := (((i + 1) : Nat) : Int)) rfl rfl (by omega) (by omega) (by omega)) ?_
      simp only [pS, pN, pA, pC, pZ]
      refine do_ rfl (.int .i64 (((i + 1) : Nat) : Int)) (ex_assign _) ?_
      simp only [pS, pN, pA, pC, pZ]
      refine wl_nil ?_
      have S239 := St.drop S239 (L' := []) (.cons _ (List.Sublist.refl _))
      rw [← hnew] at S239
      exact hK14 _ _ _ (by omega) ⟨(i + 1), v235, F65, (slotF [(.slice a l.length c), (.int .i64 ((m : Nat) : Int)), undef, undef, (.slice none 0 0), v235, (.int .i64 (((i + 1) : Nat) : Int)), (.pointer (some ⟨n57, 0, none⟩)), (.int .i64 ((k : Nat) : Int)), v231, (.int .i64 ((i : Nat) : Int)), (.slice a l.length c), (.int .i64 ((l.length : Nat) : Int)), (.bool true), (.bool true), (.int .i64 ((i : Nat) : Int)), (.int .i64 ((m : Nat) : Int)), (.bool true), (.bool true), (.int .i64 ((i : Nat) : Int)), (.int .i64 (((i + 1) : Nat) : Int)), (.slice a l.length c), (.int .i64 ((i : Nat) : Int)), (.pointer (some ⟨b19, o20 + i * 2, none⟩)), (.pointer (some ⟨b19, o20 + i * 2, none⟩)), (.slice xa23 it.1.length xc24), v35, (.slice a l.length c), (.int .i64 ((i : Nat) : Int)), (.pointer (some ⟨b19, o20 + i * 2, none⟩)), (.pointer (some ⟨b19, o20 + i * 2 + 1, none⟩)), (.slice xa27 it.2.length xc28), v36, (.agg #[(.slice xa68 (keyL it.1).length xc69), (.slice xa71 (it.2.take 32).length xc72)]), (.int .i64 ((k : Nat) : Int)), (.slice a30 (pairsN l i).length cap31), (.int .i64 (((pairsN l i).length : Nat) : Int)), (.bool false), (.bool false), undef, undef, undef, undef, undef, undef, undef, undef, undef, undef, (.bool false), (u78 50), (u78 51), (.int .i64 ((k : Nat) : Int)), (.slice a30 (pairsN l i).length cap31), (.int .i64 (((pairsN l i).length : Nat) : Int)), (.bool true), (.bool true), (.slice a30 (pairsN l i).length cap31), (.int .i64 ((k : Nat) : Int)), (.pointer (some ⟨g192, 0 + k * 2, none⟩)), (.pointer (some ⟨g192, 0 + k * 2, none⟩)), (.slice xa195 p2.1.length xc196), (.pointer (some ⟨n57, 0, none⟩)), (.slice xa68 (keyL it.1).length xc69), (.bool false), (.bool false), (u7 66), (u7 67), (u7 68), (u7 69), (.slice none 0 0), (.slice a30 (pairsN l i).length cap31), (.int .i64 ((k : Nat) : Int)), (.slice a30 k cap31), v223, v223, (.agg #[(.slice xa68 (keyL it.1).length xc69), (.slice xa71 (it.2.take 32).length xc72)]), (.slice (some ⟨n228, 0, none⟩) 1 1), v231, v231, (.slice a30 (pairsN l i).length cap31), (.int .i64 ((k : Nat) : Int)), (.slice (if cap31 = k then a30 else a30.map (·.add (k * 2))) ((pairsN l i).length - k) (cap31 - k)), v235, undef]), rfl, rfl, S239, (le13.trans le66), (by omega), (by omega)⟩
    ·have hhas : hasT (pairsN l i) (keyL it.1) = false := has_end hor (by omega)
     refine region_gw F65 12 [] (by kernel_rfl) (by kernel_rfl) ?_
     simp only [List.take_succ_cons, List.take_zero]
     refine gw_pure rfl rfl (.int .i64 ((k : Nat) : Int)) (fun w241 hCw241 => pureAt_of (ex_move _)) ?_
     simp only [pS, pN, pA, pC, pZ]
     refine gw_pure rfl rfl (.slice a30 (pairsN l i).length cap31) (fun w241 hCw241 => pureAt_of (ex_move _)) ?_
     simp only [pS, pN, pA, pC, pZ]
     refine gw_pure rfl rfl (.int .i64 (((pairsN l i).length : Nat) : Int)) (fun w241 hCw241 => pureAt_of (ex_len Tryd.underlying40 rfl)) ?_
     simp only [pS, pN, pA, pC, pZ]
     refine gw_pure rfl rfl (.bool false) (fun w241 hCw241 => pureAt_of (ex_lss (m := ((k : Nat) : Int)) (n := (((pairsN l i).length : Nat) : Int)) (b := false) rfl rfl (decide_eq_false (by omega)))) ?_
     simp only [pS, pN, pA, pC, pZ]
     refine gw_pure rfl rfl (.bool false) (fun w241 hCw241 => pureAt_of (ex_move _)) ?_
     simp only [pS, pN, pA, pC, pZ]
     refine gw_skip (wanted_no rfl rfl rfl (c := false) rfl (by decide)) ?_
     simp only [pS, pN, pA, pC, pZ]
     refine gw_skip (wanted_no rfl rfl rfl (c := false) rfl (by decide)) ?_
     simp only [pS, pN, pA, pC, pZ]
     refine gw_skip (wanted_no rfl rfl rfl (c := false) rfl (by decide)) ?_
     simp only [pS, pN, pA, pC, pZ]
     refine gw_skip (wanted_no rfl rfl rfl (c := false) rfl (by decide)) ?_
     simp only [pS, pN, pA, pC, pZ]
     refine gw_skip (wanted_no rfl rfl rfl (c := false) rfl (by decide)) ?_
     simp only [pS, pN, pA, pC, pZ]
     refine gw_skip (wanted_no rfl rfl rfl (c := false) rfl (by decide)) ?_
     simp only [pS, pN, pA, pC, pZ]
     refine gw_skip (wanted_no rfl rfl rfl (c := false) rfl (by decide)) ?_
     simp only [pS, pN, pA, pC, pZ]
     refine gw_nil ?_
     intro w242 hC244 hF245
     clear hF245
     have S243 := St.tells S187 hC244
     simp only [List.drop_succ_cons, List.drop_zero]
     refine doN (wanted_no rfl rfl rfl (c := false) rfl (by decide)) ?_
     simp only [pS, pN, pA, pC, pZ]
     refine do_ rfl (.bool false) (ex_pick (b := false) rfl) ?_
     simp only [pS, pN, pA, pC, pZ]
     refine wl_nil (hK191 _ _ ?_)
     refine wp_cond_false rfl ?_
     refine wp_skip ?_
     refine hK190 _ _ ?_
     refine wp_seq_k (fun K246 hK246 => region_wl ?_)
     refine do_ rfl (.slice none 0 0) (ex_assign _) ?_
     simp only [pS, pN, pA, pC, pZ]
     refine wl_nil (hK246 _ _ ?_)
     refine wp_seq_k (fun K247 hK247 => ?_)
     have S248 := St.addNil S243 2 PrC PrC.mono 38 w.heap.size
     refine region_wl ?_
     refine do_ rfl (.slice none 0 0) (ex_move _) ?_
     simp only [pS, pN, pA, pC, pZ]
     refine do_ rfl (.slice a30 (pairsN l i).length cap31) (ex_move _) ?_
     simp only [pS, pN, pA, pC, pZ]
     refine do_ rfl (.int .i64 ((k : Nat) : Int)) (ex_move _) ?_
     simp only [pS, pN, pA, pC, pZ]
     refine do_ rfl (.slice a30 k cap31) (ex_slice (l := 0) (h := k) (sz := 2) Tryd.underlying40 rfl (sizeof_38 _) (.inl ⟨rfl, rfl⟩) (.inr ⟨_, rfl, rfl⟩) (by omega) (by omega) (slice_zero)) ?_
     simp only [pS, pN, pA, pC, pZ]
     refine stAppendS (r := 0) (u := (.slice a30 k cap31)) S248 rfl i38 (.agg #[(.slice none 0 0), (.slice none 0 0)]) 48 Tryd.underlying40 hi38 hz38 hs38 hb38 rfl (by decide) rfl rfl rfl (((S248.own (i := 1) rfl).toW).takeN (m := k) (by omega)) (fun F cs p h => PrC.one F cs p h) (Nat.le_refl _) S248.gr.below.size (by unfold maxLen; simp only [List.length_append, List.length_take, List.length_drop, List.length_nil, List.length_cons]; omega) (by simp only [List.length_append, List.length_take, List.length_drop, List.length_nil, List.length_cons]; omega) ?_
     intro v249 w250 S251 hn252
     simp only [pS, pN, pA, pC, pZ]
     have S251 : St w F w250 F65 [⟨n57, [(.slice xa68 (keyL it.1).length xc69), (.slice xa71 (it.2.take 32).length xc72)], 38⟩] [ownP 2 PrC PrC.mono 38 w.heap.size v249 ([] ++ ((pairsN l i).take k)), ownP 2 PrC PrC.mono 38 w.heap.size (.slice a30 (pairsN l i).length cap31) (pairsN l i)] := S251
     refine do_ rfl v249 (ex_assign _) ?_
     simp only [pS, pN, pA, pC, pZ]
     refine wl_nil (hK247 _ _ ?_)
     refine wp_seq_k (fun K253 hK253 => region_wl ?_)
     refine do_ rfl v249 (ex_move _) ?_
     simp only [pS, pN, pA, pC, pZ]
     refine do_ rfl (.agg #[(.slice xa68 (keyL it.1).length xc69), (.slice xa71 (it.2.take 32).length xc72)]) (ex_load rfl (loadN (cs := [(.slice xa68 (keyL it.1).length xc69), (.slice xa71 (it.2.take 32).length xc72)]) Tryd.underlying38 rfl (size_38) (St.range S251 (i := 0) rfl 0 [(.slice xa68 (keyL it.1).length xc69), (.slice xa71 (it.2.take 32).length xc72)] (sub_range 0 rfl)))) ?_
     simp only [pS, pN, pA, pC, pZ]
     refine stNew S251 (v := fun n => .slice (some ⟨n, 0, none⟩) 1 1) rfl (ex_lit (ps := #[(0, (.agg #[(.slice xa68 (keyL it.1).length xc69), (.slice xa71 (it.2.take 32).length xc72)]))]) (cells := #[(.slice xa68 (keyL it.1).length xc69), (.slice xa71 (it.2.take 32).length xc72)]) (E := 38) (bmap1 rfl) (fun w => by kernel_rfl)) (fun n254 w255 S256 => ?_)
     simp only [pS, pN, pA, pC, pZ]
     have S256 : St w F w255 F65 [⟨n254, [(.slice xa68 (keyL it.1).length xc69), (.slice xa71 (it.2.take 32).length xc72)], 38⟩, ⟨n57, [(.slice xa68 (keyL it.1).length xc69), (.slice xa71 (it.2.take 32).length xc72)], 38⟩] [ownP 2 PrC PrC.mono 38 w.heap.size v249 ([] ++ ((pairsN l i).take k)), ownP 2 PrC PrC.mono 38 w.heap.size (.slice a30 (pairsN l i).length cap31) (pairsN l i)] := S256
     refine stPush (i := 0) (r := 0) (p := (keyL it.1, it.2.take 32)) (cs := [(.slice xa68 (keyL it.1).length xc69), (.slice xa71 (it.2.take 32).length xc72)]) S256 rfl i38 (.agg #[(.slice none 0 0), (.slice none 0 0)]) 48 Tryd.underlying40 hi38 hz38 hs38 hb38 rfl (by decide) rfl rfl rfl rfl rfl (PrC.oneCell (p := (keyL it.1, it.2.take 32)) ⟨_, _, rfl, r70, r73⟩) (⟨_, _, rfl, r70, r73⟩) (Nat.le_refl _) S256.gr.below.size (by unfold maxLen; simp only [List.length_append, List.length_take, List.length_nil]; omega) (by simp only [List.length_append, List.length_take, List.length_nil]; omega) ?_
     intro v257 w258 S259 hn260
     simp only [pS, pN, pA, pC, pZ]
     have S259 := St.drop S259 (L' := [⟨n57, [(.slice xa68 (keyL it.1).length xc69), (.slice xa71 (it.2.take 32).length xc72)], 38⟩]) (.cons _ (List.Sublist.refl _))
     have S259 : St w F w258 F65 [⟨n57, [(.slice xa68 (keyL it.1).length xc69), (.slice xa71 (it.2.take 32).length xc72)], 38⟩] [ownP 2 PrC PrC.mono 38 w.heap.size v257 (([] ++ ((pairsN l i).take k)) ++ [(keyL it.1, it.2.take 32)]), ownP 2 PrC PrC.mono 38 w.heap.size (.slice a30 (pairsN l i).length cap31) (pairsN l i)] := S259
     refine do_ rfl v257 (ex_assign _) ?_
     simp only [pS, pN, pA, pC, pZ]
     refine wl_nil (hK253 _ _ ?_)
     refine region_wl ?_
     refine do_ rfl v257 (ex_move _) ?_
     simp only [pS, pN, pA, pC, pZ]
     refine do_ rfl (.slice a30 (pairsN l i).length cap31) (ex_move _) ?_
     simp only [pS, pN, pA, pC, pZ]
     refine do_ rfl (.int .i64 ((k : Nat) : Int)) (ex_move _) ?_
     simp only [pS, pN, pA, pC, pZ]
     refine do_ rfl (.slice (if cap31 = k then a30 else a30.map (·.add (k * 2))) ((pairsN l i).length - k) (cap31 - k)) (ex_slice (l := k) (h := (pairsN l i).length) (sz := 2) Tryd.underlying40 rfl (sizeof_38 _) (.inr ⟨_, rfl, rfl⟩) (.inl ⟨rfl, rfl⟩) (by omega) (by omega) (rfl)) ?_
     simp only [pS, pN, pA, pC, pZ]
     refine stAppendS (r := 0) (u := (.slice (if cap31 = k then a30 else a30.map (·.add (k * 2))) ((pairsN l i).length - k) (cap31 - k))) S259 rfl i38 (.agg #[(.slice none 0 0), (.slice none 0 0)]) 48 Tryd.underlying40 hi38 hz38 hs38 hb38 rfl (by decide) rfl rfl rfl (((S259.own (i := 1) rfl).toW).dropN (m := k) (by omega)) (fun F cs p h => PrC.one F cs p h) (Nat.le_refl _) S259.gr.below.size (by unfold maxLen; simp only [List.length_append, List.length_take, List.length_drop, List.length_nil, List.length_cons]; omega) (by simp only [List.length_append, List.length_take, List.length_drop, List.length_nil, List.length_cons]; omega) ?_
     intro v261 w262 S263 hn264
     simp only [pS, pN, pA, pC, pZ]
     have S263 : St w F w262 F65 [⟨n57, [(.slice xa68 (keyL it.1).length xc69), (.slice xa71 (it.2.take 32).length xc72)], 38⟩] [ownP 2 PrC PrC.mono 38 w.heap.size v261 ((([] ++ ((pairsN l i).take k)) ++ [(keyL it.1, it.2.take 32)]) ++ ((pairsN l i).drop k)), ownP 2 PrC PrC.mono 38 w.heap.size (.slice a30 (pairsN l i).length cap31) (pairsN l i)] := S263
     refine do_ rfl v261 (ex_assign _) ?_
     simp only [pS, pN, pA, pC, pZ]
     refine wl_nil (hK17 _ _ ?_)
     have S265 := St.dropRow S263 (M' := [ownP 2 PrC PrC.mono 38 w.heap.size v261 ((([] ++ ((pairsN l i).take k)) ++ [(keyL it.1, it.2.take 32)]) ++ ((pairsN l i).drop k))]) (.cons_cons _ (.cons _ (List.Sublist.refl _)))
     rw [putT_new (by rw [hhas]; simp), hpos] at hnew
     have hl3 : (([] ++ (pairsN l i).take k) ++ [(keyL it.1, it.2.take 32)]) ++ (pairsN l i).drop k = (pairsN l i).take k ++ (keyL it.1, it.2.take 32) :: (pairsN l i).drop k := by simp
     rw [hl3] at S265
     refine region_wl ?_
     refine do_ rfl (.int .i64 ((i : Nat) : Int)) (ex_move _) ?_
     simp only [pS, pN, pA, pC, pZ]
     refine do_ rfl (.int .i64 (((i + 1) : Nat) : Int)) (ex_add (m := ((i : Nat) : Int)) (n := (1 : Int)) (r := (((i + 1) : Nat) : Int)) rfl rfl (by omega) (by omega) (by omega)) ?_
     simp only [pS, pN, pA, pC, pZ]
     refine do_ rfl (.int .i64 (((i + 1) : Nat) : Int)) (ex_assign _) ?_
     simp only [pS, pN, pA, pC, pZ]
     refine wl_nil ?_
     have S265 := St.drop S265 (L' := []) (.cons _ (List.Sublist.refl _))
     rw [← hnew] at S265
     exact hK14 _ _ _ (by omega) ⟨(i + 1), v261, F65, (slotF [(.slice a l.length c), (.int .i64 ((m : Nat) : Int)), undef, undef, (.slice none 0 0), v261, (.int .i64 (((i + 1) : Nat) : Int)), (.pointer (some ⟨n57, 0, none⟩)), (.int .i64 ((k : Nat) : Int)), v257, (.int .i64 ((i : Nat) : Int)), (.slice a l.length c), (.int .i64 ((l.length : Nat) : Int)), (.bool true), (.bool true), (.int .i64 ((i : Nat) : Int)), (.int .i64 ((m : Nat) : Int)), (.bool true), (.bool true), (.int .i64 ((i : Nat) : Int)), (.int .i64 (((i + 1) : Nat) : Int)), (.slice a l.length c), (.int .i64 ((i : Nat) : Int)), (.pointer (some ⟨b19, o20 + i * 2, none⟩)), (.pointer (some ⟨b19, o20 + i * 2, none⟩)), (.slice xa23 it.1.length xc24), v35, (.slice a l.length c), (.int .i64 ((i : Nat) : Int)), (.pointer (some ⟨b19, o20 + i * 2, none⟩)), (.pointer (some ⟨b19, o20 + i * 2 + 1, none⟩)), (.slice xa27 it.2.length xc28), v36, (.agg #[(.slice xa68 (keyL it.1).length xc69), (.slice xa71 (it.2.take 32).length xc72)]), (.int .i64 ((k : Nat) : Int)), (.slice a30 (pairsN l i).length cap31), (.int .i64 (((pairsN l i).length : Nat) : Int)), (.bool false), (.bool false), undef, undef, undef, undef, undef, undef, undef, undef, undef, undef, (.bool false), (u78 50), (u78 51), (.int .i64 ((k : Nat) : Int)), (.slice a30 (pairsN l i).length cap31), (.int .i64 (((pairsN l i).length : Nat) : Int)), (.bool false), (.bool false), undef, undef, undef, undef, undef, undef, undef, undef, (.bool false), (u7 66), (u7 67), (u7 68), (u7 69), (.slice none 0 0), (.slice a30 (pairsN l i).length cap31), (.int .i64 ((k : Nat) : Int)), (.slice a30 k cap31), v249, v249, (.agg #[(.slice xa68 (keyL it.1).length xc69), (.slice xa71 (it.2.take 32).length xc72)]), (.slice (some ⟨n254, 0, none⟩) 1 1), v257, v257, (.slice a30 (pairsN l i).length cap31), (.int .i64 ((k : Nat) : Int)), (.slice (if cap31 = k then a30 else a30.map (·.add (k * 2))) ((pairsN l i).length - k) (cap31 - k)), v261, undef]), rfl, rfl, S265, (le13.trans le66), (by omega), (by omega)⟩
  ·refine do_ rfl (.bool false) (ex_lss (m := ((i : Nat) : Int)) (n := ((m : Nat) : Int)) (b := false) rfl rfl (decide_eq_false (by omega))) ?_
   simp only [pS, pN, pA, pC, pZ]
   refine do_ rfl (.bool false) (ex_pick (b := true) rfl) ?_
   simp only [pS, pN, pA, pC, pZ]
   refine wl_nil (hK16 _ _ ?_)
   refine wp_cond_false rfl ?_
   refine wp_exit ?_
   refine hK3 _ _ ?_
   refine wp_seq_k (fun K267 hK267 => region_wl ?_)
   refine do_ rfl v (ex_move _) ?_
   simp only [pS, pN, pA, pC, pZ]
   refine do_ rfl v (ex_assign _) ?_
   simp only [pS, pN, pA, pC, pZ]
   refine wl_nil (hK267 _ _ ?_)
   refine wp_ret ?_
   (try simp only [Exit.then, Exit.inBlock, ↓reduceIte, Nat.reduceEqDiff])
   refine bodyPost_ret (v := v) ?_ rfl ?_
   ·exact res_t rfl rfl
   ·have hend : pairsN l i = pairsN l m := by first | exact pairsN_end (by omega) him | exact congrArg _ (by omega)
    rw [← hend]
    exact ⟨_, _, rfl, S12.gr, St.own (i := 0) S12 rfl⟩
 ·refine do_ rfl (.bool false) (ex_lss (m := ((i : Nat) : Int)) (n := ((l.length : Nat) : Int)) (b := false) rfl rfl (decide_eq_false (by omega))) ?_
  simp only [pS, pN, pA, pC, pZ]
  refine do_ rfl (.bool false) (ex_move _) ?_
  simp only [pS, pN, pA, pC, pZ]
  refine doN (wanted_no rfl rfl rfl (c := false) rfl (by decide)) ?_
  simp only [pS, pN, pA, pC, pZ]
  refine doN (wanted_no rfl rfl rfl (c := false) rfl (by decide)) ?_
  simp only [pS, pN, pA, pC, pZ]
  refine doN (wanted_no rfl rfl rfl (c := false) rfl (by decide)) ?_
  simp only [pS, pN, pA, pC, pZ]
  refine do_ rfl (.bool false) (ex_pick (b := false) rfl) ?_
  simp only [pS, pN, pA, pC, pZ]
  refine wl_nil (hK16 _ _ ?_)
  refine wp_cond_false rfl ?_
  refine wp_exit ?_
  refine hK3 _ _ ?_
  refine wp_seq_k (fun K268 hK268 => region_wl ?_)
  refine do_ rfl v (ex_move _) ?_
  simp only [pS, pN, pA, pC, pZ]
  refine do_ rfl v (ex_assign _) ?_
  simp only [pS, pN, pA, pC, pZ]
  refine wl_nil (hK268 _ _ ?_)
  refine wp_ret ?_
  (try simp only [Exit.then, Exit.inBlock, ↓reduceIte, Nat.reduceEqDiff])
  refine bodyPost_ret (v := v) ?_ rfl ?_
  ·exact res_t rfl rfl
  ·have hend : pairsN l i = pairsN l m := by first | exact pairsN_end (by omega) him | exact congrArg _ (by omega)
   rw [← hend]
   exact ⟨_, _, rfl, S12.gr, St.own (i := 0) S12 rfl⟩
end Go.Proofs.YtcanckliggcllaaDoor
namespace Go.Proofs.YtcanckliggcllaaDoor
open Go.RowKit
set_option maxRecDepth 100000
set_option linter.unusedVariables false
set_option linter.unusedSimpArgs false
theorem put_ok {n : Nat} {l : List Pr} {p : Pr} (h : TreeOk n l) (hn : n < 60) (hp : PairOk p) : putE l p = 0 ∧ putR l p = putT l p.1 p.2 ∧ TreeOk (n + 1) (putT l p.1 p.2) := by
  have h1 := pairE_ok.2 hp
  have h2 := len_putT l p.1 p.2
  have h3 := h.len
  have hlen : (putT l p.1 p.2).length ≤ n + 1 := by rw [h2]; split <;> omega
  have he : putE l p = 0 := by unfold putE; rw [if_neg (by omega), if_neg (by omega)]
  refine ⟨he, by unfold putR; rw [if_pos he], h.put (m := n + 1) hp hlen⟩
theorem putOk_spec (F : Fz) (w : World) (v u : Value) {n : Nat} (l : List Pr) (p : Pr) (hs : Sat w F) (hv : Prs F v l) (hu : Pr2V F u p) (ok : TreeOk n l) (hn : n < 60) (hp : PairOk p) :
    Calls Tryd.prog 29 #[v, u] w (Gives w F (PrsE (putT l p.1 p.2) 0)) := by
  obtain ⟨h1, h2, _⟩ := put_ok ok hn hp
  have := put_spec F w v u l p hs hv hu (ok.mono (by omega)) (by have := hp.2.1; omega) (by have := hp.2.2; omega)
  rwa [h1, h2] at this
theorem delOk_spec (F : Fz) (w : World) (v u : Value) (l : List Pr) (k : By) (hs : Sat w F) (hv : Prs F v l) (hu : Bs F u k) (ok : TreeOk 60 l) (hk : 1 ≤ k.length ∧ k.length ≤ 16) :
    Calls Tryd.prog 31 #[v, u] w (Gives w F (PrsE (delT l k) 0)) := by
  have := delete_spec F w v u l k hs hv hu ok
  have h := checkN_ok hk.1 hk.2
  unfold delR delE at this
  rw [if_pos h, h] at this
  exact this
theorem treeCheckOk_spec (F : Fz) (w : World) (v : Value) (l : List Pr) (hs : Sat w F) (hv : Prs F v l) (ok : TreeOk 60 l) :
    Calls Tryd.prog 26 #[v] w (Tells w (.int .i64 0)) := by
  have := treeCheck_spec F w v l hs hv
  rwa [treeE_ok.2 ok] at this
end Go.Proofs.YtcanckliggcllaaDoor
namespace Go.Proofs.YtcanckliggcllaaDoor
open Go.RowKit
set_option linter.unusedVariables false
section
variable {α β : Type} {k k2 E E2 base base2 : Nat} {R : Fz → List Value → α → Prop} {R2 : Fz → List Value → β → Prop} {w0 W w w' : World} {F0 F F' : Fz} {L : List Blk} {M : List RowP} {v v2 : Value} {l : List α} {l2 : List β}
/-- What a call has made that is a row of its own. -/
def MadeO {α : Type} (W : World) (F : Fz) (k : Nat) (R : Fz → List Value → α → Prop) (E : Nat) (l : List α) (v : Value) (w : World) : Prop := ∃ F', Gr W F w F' ∧ Own k R E W.heap.size w F' v l
theorem MadeO.stable (hR : ∀ F F' x p, Le F F' → R F x p → R F' x p) (W : World) (F : Fz) (k E : Nat) (l : List α) : Stable (MadeO W F k R E l) :=
  fun v w w' ⟨F', g, h⟩ hb => ⟨F', g.trans (Gr.of_below g.sat hb), h.gr hR g.sat (Gr.of_below g.sat hb)⟩
/-- A block that lies beside what a call has made as a row. -/
theorem Own.dropF (h : Own k R E base w F v l) {n : Nat} (hx : ∀ cs p, R F cs p → R (Proofs.YtcanckliggcllaaDoor.dropF F n) cs p) : Own k R E base w (Proofs.YtcanckliggcllaaDoor.dropF F n) v l := by
  obtain ⟨el, h1, h2, h3⟩ := h.ex
  refine ⟨⟨el, h1, h2.imp hx, h3⟩, fun g hg => ?_⟩
  unfold Proofs.YtcanckliggcllaaDoor.dropF
  split
  · rfl
  · exact h.out g hg
end
section
variable {w : World} {F : Fz} {n : Nat} {cs : List Value} {T : TypeId}
theorem WrC.dropF (hs : Sat w F) (hb : w.heap[n]? = some (.cells cs.toArray T (0, 0))) (hc : ∀ u ∈ cs, ∀ x, u ≠ bv x) (c : List Value) (p : Wr) (h : WrC F c p) : WrC (Proofs.YtcanckliggcllaaDoor.dropF F n) c p := by
  obtain ⟨a0, a1, a2, a3, rfl, h0, h1, h2, h3⟩ := h
  exact ⟨a0, a1, a2, a3, rfl, h0.dropF hs hb hc, h1.dropF hs hb hc, h2, h3.dropF hs hb hc⟩
theorem RdC.dropF (hs : Sat w F) (hb : w.heap[n]? = some (.cells cs.toArray T (0, 0))) (hc : ∀ u ∈ cs, ∀ x, u ≠ bv x) (c : List Value) (p : Rd) (h : RdC F c p) : RdC (Proofs.YtcanckliggcllaaDoor.dropF F n) c p := by
  obtain ⟨a0, a1, a2, a3, rfl, h0, h1, h2, h3⟩ := h
  exact ⟨a0, a1, a2, a3, rfl, h0.dropF hs hb hc, h1.dropF hs hb hc, h2, h3.dropF hs hb hc⟩
end
theorem FactsAt.getR {md : Region.Mode} {ops : Array Oper} {W : World} {F : Fz} {L : List (Nat × Mark)} {Vs : Vals} {w : World} {j : Nat} (h : FactsAt md ops (specOf W F L) j Vs w) (i : Nat) {v : Value} {R : Value → World → Prop} (ha : ancB md ops ops.size j i = true) (hv : Vs i = some v) (hL : specOf W F L i = .rel R) : R v w := by
  have := h i v ha hv
  rw [hL] at this
  exact this
theorem gives_of_own {P : Program} {f : FuncId} {vs : Array Value} {α : Type} {k E : Nat} {R : Fz → List Value → α → Prop} (hR : ∀ F F' x p, Le F F' → R F x p → R F' x p) {w : World} {F : Fz} {l : List α} (h : Calls P f vs w (GivesO w F k R E l)) : Calls P f vs w (Gives w F fun F' u => Sl k R F' u l) :=
  h.mono fun e w' ⟨v, F', he, g, ho⟩ => by
    obtain ⟨F2, g2, _, h2⟩ := ho.freeze hR g (Nat.le_refl _)
    exact ⟨v, F2, he, g2, h2⟩
end Go.Proofs.YtcanckliggcllaaDoor
