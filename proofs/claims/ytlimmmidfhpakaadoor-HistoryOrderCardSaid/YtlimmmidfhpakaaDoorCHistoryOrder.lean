/- The walk of HistoryOrder -/
import Derived.Test.YtlimmmidfhpakaaDoorCC6
namespace Go.Proofs.YtlimmmidfhpakaaDoor
open Go.RowKit
set_option maxRecDepth 100000
set_option linter.unusedVariables false
set_option linter.unusedSimpArgs false
theorem hl_two {P : Program} {Q : Exit → Act → World → Prop} {F : Fz} {fuel : Nat} {listed : Array Bool} {a : Act} {w : World} {l : List Oper} {o1 o2 : Oper} (i j : Nat) (hr : Region.ready .any l.toArray listed = [i, j]) (hi : l[i]? = some o1) (hj : l[j]? = some o2)
    (h1 : WL P l.toArray (Exit.then (fun a' w' => Sat w' F ∧ Go.wpAnyH P .any l.toArray Q (fun w => Sat w F) fuel (listed.setIfInBounds i true) a' w') Q) [o1] a w)
    (h2 : WL P l.toArray (Exit.then (fun a' w' => Sat w' F ∧ Go.wpAnyH P .any l.toArray Q (fun w => Sat w F) fuel (listed.setIfInBounds j true) a' w') Q) [o2] a w) : HL P l.toArray Q F (fuel + 1) listed a w := by
  refine ⟨Go.wpAnyH_all hr (by simp) fun k hk => ?_⟩
  have key : ∀ (m : Nat) (o : Oper), l[m]? = some o → WL P l.toArray (Exit.then (fun a' w' => Sat w' F ∧ Go.wpAnyH P .any l.toArray Q (fun w => Sat w F) fuel (listed.setIfInBounds m true) a' w') Q) [o] a w → wpOp P l.toArray Q m (fun a' w' => Sat w' F ∧ Go.wpAnyH P .any l.toArray Q (fun w => Sat w F) fuel (listed.setIfInBounds m true) a' w') a w := by
    intro m o hm h
    have h1 := h.out
    unfold wpList at h1
    unfold wpOp
    have hi' : l.toArray[m]? = some o := by simpa using hm
    simp only [hi']
    split
    · rename_i hw
      rw [if_pos hw] at h1
      rcases h1 with h1 | h1
      · left
        refine Oper.wp_mono (fun a' w' hk => ?_) (Oper.wp_exit h1)
        exact hk
      · exact .inr h1
    · rename_i hw
      rw [if_neg hw] at h1
      exact h1
  rcases (by simpa using hk : k = i ∨ k = j) with rfl | rfl
  · exact key _ _ hi h1
  · exact key _ _ hj h2
theorem cm_at {E base : Nat} {w : World} {F : Fz} {l : List Cm} {a : Option Addr} {n c : Nat} (h : Own 2 CmC E base w F (.slice a n c) l) {i : Nat} {p : Cm} (hp : l[i]? = some p) :
    ∃ g, a = some ⟨g, 0, none⟩ ∧ ∃ xa xc, w.cell? ⟨g, 0 + i * 2, none⟩ = some (.int .i64 (p.turn : Nat)) ∧ w.cell? ⟨g, 0 + i * 2 + 1, none⟩ = some (.slice xa p.writes.length xc) ∧ Wrs F (.slice xa p.writes.length xc) p.writes := by
  obtain ⟨g, cs, e, _, ⟨x0, x1, rfl, rfl, r1⟩, hr⟩ := h.at hp
  obtain ⟨xa, xc, rfl, _⟩ := Sl.shape r1
  refine ⟨g, e, xa, xc, ?_, ?_, r1⟩
  · have := hr 0 _ rfl; rw [Nat.zero_add]; simpa using this
  · have := hr 1 _ rfl; rw [Nat.zero_add]; simpa using this
theorem one_ok : CmOk ⟨2, [⟨[1], [1], false, []⟩]⟩ := ⟨by decide, by decide, fun w hw => by rw [List.mem_singleton.1 hw]; exact wrE_ok.1 (by decide +kernel)⟩
theorem set_order {m : Nat} {cs : List Cm} {i k : Nat} {x : Cm} (hh : HistOk m cs) (hl : cs.length ≤ 16) (hx : cs[i]? = some x) (hk : k ≤ 9) :
    CmOk ⟨x.turn + (1 + k), x.writes⟩ ∧ x.turn + (1 + k) ≠ i + 1 ∧ (cs.set i ⟨x.turn + (1 + k), x.writes⟩)[i]? = some ⟨x.turn + (1 + k), x.writes⟩ ∧ ∀ j, j < i → (cs.set i ⟨x.turn + (1 + k), x.writes⟩)[j]? = cs[j]? := by
  obtain ⟨hi, rfl⟩ := List.getElem?_eq_some_iff.1 hx
  have ht := hh.turn i hi
  have ho := hh.ok _ (List.getElem_mem hi)
  refine ⟨⟨by simp only; omega, ho.some, ho.ok⟩, by omega, by rw [List.getElem?_set_self hi], fun j hj => List.getElem?_set_ne (by omega)⟩
set_option maxHeartbeats 8000000 in
theorem historyOrder_walk (W : World) (hT : Tabs W) (v0 : Value) (l0 : List Pl) (z0 : Pls (whole W) v0 l0) (x1 : Int) (b1 : -9223372036854775808 ≤ x1) (b1' : x1 ≤ 9223372036854775807) (x2 : Int) (b2 : -9223372036854775808 ≤ x2) (b2' : x2 ≤ 9223372036854775807) :
    Calls Tryd.prog 3 #[v0, .int .i64 x1, .int .i64 x2] W (Tells W (.bool true)) := by
 obtain ⟨i32, hi32, hz32, hs32, hb32⟩ := info_parts info_32
 obtain ⟨a0, c0, rfl, q0, q0'⟩ := Sl.shape z0
 have S := St.start (Sat.whole W)
 go_enter Tryd.func3, Tryd.ntmps3
 refine wp_seq_k (fun K101 hK101 => region_wl ?_)
 refine do_ rfl (.bool false) (ex_assign _) ?_
 simp only [pS, pN, pA, pC, pZ]
 refine wl_nil (hK101 _ _ ?_)
 refine wp_seq_k (fun K102 hK102 => region_wl ?_)
 refine do_ rfl (.slice a0 l0.length c0) (ex_move _) ?_
 simp only [pS, pN, pA, pC, pZ]
 refine doC rfl (ex_fn (vs := #[(.slice a0 l0.length c0), (.int .i64 16)]) (map2 rfl rfl) rfl (ent_7 _ _)) (commitsO_spec _ _ _ l0 16 (S).sat z0 (by omega)) ?_
 rintro e103 w104 ⟨u105, F106, cs, rfl, g107, ho108, hh, hcl, -⟩
 refine ⟨_, rfl, ?_⟩
 have S109 := S.addRow (hR := CmC.mono) g107 ho108
 have le110 : Le _ _ := g107.le S.sat
 simp only [pS, pN, pA, pC, pZ]
 have S109 : St W (whole W) w104 F106 [] [ownP 2 CmC CmC.mono 32 W.heap.size u105 cs] := S109
 obtain ⟨a111, cap112, rfl, h113, h114⟩ := (S109.own (i := 0) rfl).shape
 unfold maxLen at h114
 refine do_ rfl (.slice a111 cs.length cap112) (ex_assign _) ?_
 simp only [pS, pN, pA, pC, pZ]
 refine wl_nil (hK102 _ _ ?_)
 refine wp_seq_k (fun K115 hK115 => ?_)
 refine wp_seq_k (fun K116 hK116 => region_wl ?_)
 refine do_ rfl (.slice a111 cs.length cap112) (ex_move _) ?_
 simp only [pS, pN, pA, pC, pZ]
 refine do_ rfl (.int .i64 ((cs.length : Nat) : Int)) (ex_len Tryd.underlying23 rfl) ?_
 simp only [pS, pN, pA, pC, pZ]
 by_cases hc19 : cs.length = 0
 ·refine do_ rfl (.bool true) (ex_eql (m := ((cs.length : Nat) : Int)) (n := (0 : Int)) (b := true) rfl rfl (beq_iff_eq.2 (by omega))) ?_
  simp only [pS, pN, pA, pC, pZ]
  refine wl_nil (hK116 _ _ ?_)
  refine wp_cond_true rfl ?_
  refine wp_seq_k (fun K117 hK117 => region_wl ?_)
  refine stNew S109 (v := fun n => .slice (some ⟨n, 0, none⟩) 1 1) rfl (ex_lit (ps := #[(0, (.int .u8 1))]) (cells := #[(.int .u8 1)]) (E := 5) (bmap1 rfl) (fun w => by kernel_rfl)) (fun n118 w119 S120 => ?_)
  simp only [pS, pN, pA, pC, pZ]
  have S120 : St W (whole W) w119 F106 [⟨n118, [(.int .u8 1)], 5⟩] [ownP 2 CmC CmC.mono 32 W.heap.size (.slice a111 cs.length cap112) cs] := S120
  refine stNew S120 (v := fun n => .slice (some ⟨n, 0, none⟩) 1 1) rfl (ex_lit (ps := #[(0, (.int .u8 1))]) (cells := #[(.int .u8 1)]) (E := 5) (bmap1 rfl) (fun w => by kernel_rfl)) (fun n121 w122 S123 => ?_)
  simp only [pS, pN, pA, pC, pZ]
  have S123 : St W (whole W) w122 F106 [⟨n121, [(.int .u8 1)], 5⟩, ⟨n118, [(.int .u8 1)], 5⟩] [ownP 2 CmC CmC.mono 32 W.heap.size (.slice a111 cs.length cap112) cs] := S123
  refine do_ rfl (.agg #[(.slice (some ⟨n118, 0, none⟩) 1 1), (.slice (some ⟨n121, 0, none⟩) 1 1), (.bool false), (.slice none 0 0)]) (ex_build (ps := #[(0, (.slice (some ⟨n118, 0, none⟩) 1 1)), (1, (.slice (some ⟨n121, 0, none⟩) 1 1))]) (bmap2 rfl rfl) (by kernel_rfl)) ?_
  simp only [pS, pN, pA, pC, pZ]
  refine stNew S123 (v := fun n => .slice (some ⟨n, 0, none⟩) 1 1) rfl (ex_lit (ps := #[(0, (.agg #[(.slice (some ⟨n118, 0, none⟩) 1 1), (.slice (some ⟨n121, 0, none⟩) 1 1), (.bool false), (.slice none 0 0)]))]) (cells := #[(.slice (some ⟨n118, 0, none⟩) 1 1), (.slice (some ⟨n121, 0, none⟩) 1 1), (.bool false), (.slice none 0 0)]) (E := 29) (bmap1 rfl) (fun w => by kernel_rfl)) (fun n124 w125 S126 => ?_)
  simp only [pS, pN, pA, pC, pZ]
  have S126 : St W (whole W) w125 F106 [⟨n124, [(.slice (some ⟨n118, 0, none⟩) 1 1), (.slice (some ⟨n121, 0, none⟩) 1 1), (.bool false), (.slice none 0 0)], 29⟩, ⟨n121, [(.int .u8 1)], 5⟩, ⟨n118, [(.int .u8 1)], 5⟩] [ownP 2 CmC CmC.mono 32 W.heap.size (.slice a111 cs.length cap112) cs] := S126
  refine do_ rfl (.agg #[(.int .i64 2), (.slice (some ⟨n124, 0, none⟩) 1 1)]) (ex_build (ps := #[(0, (.int .i64 2)), (1, (.slice (some ⟨n124, 0, none⟩) 1 1))]) (bmap2 rfl rfl) (by kernel_rfl)) ?_
  simp only [pS, pN, pA, pC, pZ]
  refine stNew S126 (v := fun n => .slice (some ⟨n, 0, none⟩) 1 1) rfl (ex_lit (ps := #[(0, (.agg #[(.int .i64 2), (.slice (some ⟨n124, 0, none⟩) 1 1)]))]) (cells := #[(.int .i64 2), (.slice (some ⟨n124, 0, none⟩) 1 1)]) (E := 32) (bmap1 rfl) (fun w => by kernel_rfl)) (fun n127 w128 S129 => ?_)
  simp only [pS, pN, pA, pC, pZ]
  have S129 : St W (whole W) w128 F106 [⟨n127, [(.int .i64 2), (.slice (some ⟨n124, 0, none⟩) 1 1)], 32⟩, ⟨n124, [(.slice (some ⟨n118, 0, none⟩) 1 1), (.slice (some ⟨n121, 0, none⟩) 1 1), (.bool false), (.slice none 0 0)], 29⟩, ⟨n121, [(.int .u8 1)], 5⟩, ⟨n118, [(.int .u8 1)], 5⟩] [ownP 2 CmC CmC.mono 32 W.heap.size (.slice a111 cs.length cap112) cs] := S129
  obtain ⟨S130, le131, hc132⟩ := St.freezeBlk S129 (i := 3) rfl
  have r134 : Bs _ (.slice (some ⟨n118, 0, none⟩) 1 1) ([1] : By) := bs_of_block (l := ([1] : By)) hc132 (rfl) (by unfold maxLen; simp)
  generalize addF F106 w128 n118 = F133 at *
  have S130 : St W (whole W) w128 F133 [⟨n127, [(.int .i64 2), (.slice (some ⟨n124, 0, none⟩) 1 1)], 32⟩, ⟨n124, [(.slice (some ⟨n118, 0, none⟩) 1 1), (.slice (some ⟨n121, 0, none⟩) 1 1), (.bool false), (.slice none 0 0)], 29⟩, ⟨n121, [(.int .u8 1)], 5⟩] [ownP 2 CmC CmC.mono 32 W.heap.size (.slice a111 cs.length cap112) cs] := S130
  obtain ⟨S135, le136, hc137⟩ := St.freezeBlk S130 (i := 2) rfl
  have r139 : Bs _ (.slice (some ⟨n121, 0, none⟩) 1 1) ([1] : By) := bs_of_block (l := ([1] : By)) hc137 (rfl) (by unfold maxLen; simp)
  generalize addF F133 w128 n121 = F138 at *
  have S135 : St W (whole W) w128 F138 [⟨n127, [(.int .i64 2), (.slice (some ⟨n124, 0, none⟩) 1 1)], 32⟩, ⟨n124, [(.slice (some ⟨n118, 0, none⟩) 1 1), (.slice (some ⟨n121, 0, none⟩) 1 1), (.bool false), (.slice none 0 0)], 29⟩] [ownP 2 CmC CmC.mono 32 W.heap.size (.slice a111 cs.length cap112) cs] := S135
  obtain ⟨S140, le141, hc142⟩ := St.freezeBlk S135 (i := 1) rfl
  have r144 : Wrs _ (.slice (some ⟨n124, 0, none⟩) 1 1) [(⟨[1], [1], false, []⟩ : Wr)] := sl_of_block (R := WrC) (l := [(⟨[1], [1], false, []⟩ : Wr)]) (el := [[(.slice (some ⟨n118, 0, none⟩) 1 1), (.slice (some ⟨n121, 0, none⟩) 1 1), (.bool false), (.slice none 0 0)]]) hc142 rfl ⟨⟨_, _, _, _, rfl, ((r134.mono le136).mono le141), (r139.mono le141), rfl, Bs.nil _⟩, trivial⟩ (by simp) (by unfold maxLen; simp)
  generalize addF F138 w128 n124 = F143 at *
  have S140 : St W (whole W) w128 F143 [⟨n127, [(.int .i64 2), (.slice (some ⟨n124, 0, none⟩) 1 1)], 32⟩] [ownP 2 CmC CmC.mono 32 W.heap.size (.slice a111 cs.length cap112) cs] := S140
  obtain ⟨S145, le146, hc147⟩ := St.freezeBlk S140 (i := 0) rfl
  have r149 : Cms _ (.slice (some ⟨n127, 0, none⟩) 1 1) ([⟨2, [(⟨[1], [1], false, []⟩ : Wr)]⟩] : List Cm) := sl_of_block (R := CmC) (l := ([⟨2, [(⟨[1], [1], false, []⟩ : Wr)]⟩] : List Cm)) (el := [[(.int .i64 2), (.slice (some ⟨n124, 0, none⟩) 1 1)]]) hc147 rfl ⟨⟨_, _, rfl, rfl, Wrs.mono r144 le146⟩, trivial⟩ (by simp) (by unfold maxLen; simp)
  generalize addF F143 w128 n127 = F148 at *
  have S145 : St W (whole W) w128 F148 [] [ownP 2 CmC CmC.mono 32 W.heap.size (.slice a111 cs.length cap112) cs] := S145
  refine stTells (v := (.int .i64 3)) S145 rfl (ex_fn (vs := #[(.slice (some ⟨n127, 0, none⟩) 1 1)]) (map1 rfl) rfl (ent_8 _ _)) (histCheckBad_spec _ _ _ [] ([⟨2, [(⟨[1], [1], false, []⟩ : Wr)]⟩] : List Cm) 0 (S145).sat r149 (HistOk.nil 0) (by omega) (by simp) (fun k h => by omega) (by simp) rfl one_ok (by decide)) (fun w150 S151 => ?_)
  simp only [pS, pN, pA, pC, pZ]
  refine do_ rfl (.bool true) (ex_eql (b := true) rfl rfl (by decide)) ?_
  simp only [pS, pN, pA, pC, pZ]
  refine do_ rfl (.bool true) (ex_assign _) ?_
  simp only [pS, pN, pA, pC, pZ]
  refine wl_nil (hK117 _ _ ?_)
  refine wp_ret ?_
  (try simp only [Exit.then, Exit.inBlock, ↓reduceIte, Nat.reduceEqDiff])
  refine bodyPost_ret (v := (.bool true)) ?_ rfl ?_
  ·exact res_t rfl rfl
  ·exact ⟨rfl, S151.gr.below⟩
 ·refine do_ rfl (.bool false) (ex_eql (m := ((cs.length : Nat) : Int)) (n := (0 : Int)) (b := false) rfl rfl (beq_eq_false_iff_ne.2 (by omega))) ?_
  simp only [pS, pN, pA, pC, pZ]
  refine wl_nil (hK116 _ _ ?_)
  refine wp_cond_false rfl ?_
  refine wp_skip ?_
  refine hK115 _ _ ?_
  refine wp_seq_k (fun K152 hK152 => ?_)
  obtain ⟨hp0kn, hp1kn⟩ := pick_bd x1 ((cs.length : Nat) : Int) (by omega)
  obtain ⟨kn, hkn⟩ : ∃ k : Nat, pick x1 ((cs.length : Nat) : Int) = (k : Int) := ⟨(pick x1 ((cs.length : Nat) : Int)).toNat, (Int.toNat_of_nonneg hp0kn).symm⟩
  have hkb : kn < cs.length := by omega
  obtain ⟨hp0bn, hp1bn⟩ := pick_bd x2 ((9 : Nat) : Int) (by omega)
  obtain ⟨bn, hbn⟩ : ∃ k : Nat, pick x2 ((9 : Nat) : Int) = (k : Int) := ⟨(pick x2 ((9 : Nat) : Int)).toNat, (Int.toNat_of_nonneg hp0bn).symm⟩
  have hbb : bn < 9 := by omega
  refine region_wl ?_
  refine do_ rfl (.int .i64 x1) (ex_move _) ?_
  simp only [pS, pN, pA, pC, pZ]
  refine do_ rfl (.slice a111 cs.length cap112) (ex_move _) ?_
  simp only [pS, pN, pA, pC, pZ]
  refine do_ rfl (.int .i64 ((cs.length : Nat) : Int)) (ex_len Tryd.underlying23 rfl) ?_
  simp only [pS, pN, pA, pC, pZ]
  refine stTells (v := (.int .i64 ((kn : Nat) : Int))) S109 rfl (ex_fn (vs := #[(.int .i64 x1), (.int .i64 ((cs.length : Nat) : Int))]) (map2 rfl rfl) rfl (ent_9 _ _)) (hkn ▸ tells_same (picked_spec x1 ((cs.length : Nat) : Int) _ b1 b1' (by omega) (by omega))) (fun w153 S154 => ?_)
  simp only [pS, pN, pA, pC, pZ]
  refine do_ rfl (.int .i64 ((kn : Nat) : Int)) (ex_assign _) ?_
  simp only [pS, pN, pA, pC, pZ]
  refine wl_nil (hK152 _ _ ?_)
  refine wp_seq_k (fun K155 hK155 => ?_)
  obtain ⟨x, hx⟩ : ∃ x, cs[kn]? = some x := ⟨cs[kn], List.getElem?_eq_getElem hkb⟩
  have hord := set_order hh (by omega) hx (show bn ≤ 9 by omega)
  have hxt : x.turn ≤ 16 := by have h1 := hh.turn kn hkb; rw [List.getElem?_eq_getElem hkb] at hx; cases hx; omega
  obtain ⟨g156, rfl⟩ := Own.addr0 (S154.own (i := 0) rfl) (by omega)
  refine region_hl S154 (by kernel_rfl) (fun w158 S157 => ?_)
  refine hl_take 0 rfl (by kernel_rfl) (v := (.slice (some ⟨g156, 0, none⟩) cs.length cap112)) (fun _ _ _ h => h) S157.sat rfl (fun w159 hs160 => ex_move _) ?_
  simp only [pS, pN, pA, pC, pZ]
  refine hl_take 1 rfl (by kernel_rfl) (v := (.int .i64 ((kn : Nat) : Int))) (fun _ _ _ h => h) S157.sat rfl (fun w161 hs162 => ex_move _) ?_
  simp only [pS, pN, pA, pC, pZ]
  refine hl_take 2 rfl (by kernel_rfl) (v := (.pointer (some ⟨g156, 0 + kn * 2, none⟩))) (fun _ _ _ h => h) S157.sat rfl (fun w163 hs164 => ex_at (i := kn) (sz := 2) Tryd.underlying23 (sizeof_32 _) rfl rfl rfl (by omega) rfl) ?_
  simp only [pS, pN, pA, pC, pZ]
  refine hl_take 3 rfl (by kernel_rfl) (v := (.pointer (some ⟨g156, 0 + kn * 2, none⟩))) (fun _ _ _ h => h) S157.sat rfl (fun w165 hs166 => ex_field (q := ⟨g156, 0 + kn * 2, none⟩) rfl (fa_32_0 _ _)) ?_
  simp only [pS, pN, pA, pC, pZ]
  refine hl_take 5 rfl (by kernel_rfl) (v := (.int .i64 x2)) (fun _ _ _ h => h) S157.sat rfl (fun w167 hs168 => ex_move _) ?_
  simp only [pS, pN, pA, pC, pZ]
  refine hl_two 4 6 (by kernel_rfl) rfl rfl ?_ ?_
  ·obtain ⟨g169, ha170, xa173, xc174, c171, c172, r175⟩ := cm_at (S157.own (i := 0) rfl) hx
   injection ha170 with ha170; injection ha170 with ha170; subst ha170
   refine do_ rfl (.int .i64 ((x.turn : Nat) : Int)) (ex_load rfl (load1 (nagg_3 _) c171)) ?_
   simp only [pS, pN, pA, pC, pZ]
   refine wl_nil (hl_back S157.sat ?_)
   refine hl_next 6 (by kernel_rfl) rfl ?_
   refine stTells (v := (.int .i64 ((bn : Nat) : Int))) S157 rfl (ex_fn (vs := #[(.int .i64 x2), (.int .i64 9)]) (map2 rfl rfl) rfl (ent_9 _ _)) (hbn ▸ tells_same (picked_spec x2 (9 : Int) _ b2 b2' (by omega) (by omega))) (fun w176 S177 => ?_)
   simp only [pS, pN, pA, pC, pZ]
   refine wl_nil (hl_back S177.sat ?_)
   refine hl_take 7 rfl (by kernel_rfl) (v := (.int .i64 (((1 + bn) : Nat) : Int))) (fun _ _ _ h => h) S177.sat rfl (fun w178 hs179 => ex_add (m := (1 : Int)) (n := ((bn : Nat) : Int)) (r := (((1 + bn) : Nat) : Int)) rfl rfl (by omega) (by omega) (by omega)) ?_
   simp only [pS, pN, pA, pC, pZ]
   refine hl_take 8 rfl (by kernel_rfl) (v := (.int .i64 (((x.turn + (1 + bn)) : Nat) : Int))) (fun _ _ _ h => h) S177.sat rfl (fun w180 hs181 => ex_add (m := ((x.turn : Nat) : Int)) (n := (((1 + bn) : Nat) : Int)) (r := (((x.turn + (1 + bn)) : Nat) : Int)) rfl rfl (by omega) (by omega) (by omega)) ?_
   simp only [pS, pN, pA, pC, pZ]
   refine hl_take 9 rfl (by kernel_rfl) (v := (.pointer (some ⟨g156, 0 + kn * 2, none⟩))) (fun _ _ _ h => h) S177.sat rfl (fun w182 hs183 => ex_at (i := kn) (sz := 2) Tryd.underlying23 (sizeof_32 _) rfl rfl rfl (by omega) rfl) ?_
   simp only [pS, pN, pA, pC, pZ]
   refine hl_take 10 rfl (by kernel_rfl) (v := (.pointer (some ⟨g156, 0 + kn * 2, none⟩))) (fun _ _ _ h => h) S177.sat rfl (fun w184 hs185 => ex_field (q := ⟨g156, 0 + kn * 2, none⟩) rfl (fa_32_0 _ _)) ?_
   simp only [pS, pN, pA, pC, pZ]
   refine hl_next 11 (by kernel_rfl) rfl ?_
   refine stSetCell (r := 0) (i := kn) (j := 0) (p := (⟨x.turn + (1 + bn), x.writes⟩ : Cm)) (u := (.int .i64 (((x.turn + (1 + bn)) : Nat) : Int))) S177 rfl rfl (by omega) (by decide) rfl rfl (by omega) (size_3) rfl rfl (fun cs y hy hR => ?_) (Nat.le_refl _) (fun w186 S187 => ?_)
   ·rw [hx] at hy; cases hy
    obtain ⟨z0, z1, rfl, rfl, z2⟩ := hR
    exact ⟨_, _, rfl, rfl, z2⟩
   simp only [pS, pN, pA, pC, pZ]
   have S187 : St W (whole W) w186 F106 [] [ownP 2 CmC CmC.mono 32 W.heap.size (.slice (some ⟨g156, 0, none⟩) cs.length cap112) (cs.set kn (⟨x.turn + (1 + bn), x.writes⟩ : Cm))] := S187
   refine wl_nil (hl_back S187.sat ?_)
   refine hl_done (by kernel_rfl) ?_
   refine hK155 _ _ ?_
   refine wp_seq_k (fun K188 hK188 => ?_)
   have hsl : (cs.set kn (⟨x.turn + (1 + bn), x.writes⟩ : Cm)).length = cs.length := List.length_set
   obtain ⟨F189, S190, le191, hv192⟩ := St.freeze S187 (i := 0) rfl (Nat.le_refl _)
   have S190 : St W (whole W) w186 F189 [] [] := S190
   have hv192 : Cms _ (.slice (some ⟨g156, 0, none⟩) cs.length cap112) (cs.set kn (⟨x.turn + (1 + bn), x.writes⟩ : Cm)) := hv192
   refine region_wl ?_
   refine do_ rfl (.slice (some ⟨g156, 0, none⟩) cs.length cap112) (ex_move _) ?_
   simp only [pS, pN, pA, pC, pZ]
   refine stTells (v := (.tuple #[(.slice none 0 0), (.int .i64 3)])) S190 rfl (ex_fn (vs := #[(.slice (some ⟨g156, 0, none⟩) cs.length cap112), (.int .i64 0)]) (map2 rfl rfl) rfl (ent_10 _ _)) (foldBad_spec _ _ _ cs (cs.set kn (⟨x.turn + (1 + bn), x.writes⟩ : Cm)) kn (n := 0) (S190).sat hv192 hh (by omega) (by rw [List.length_set]; omega) hord.2.2.2 (by omega) hord.2.2.1 hord.1 hord.2.1) (fun w193 S194 => ?_)
   simp only [pS, pN, pA, pC, pZ]
   refine do_ rfl (.tuple #[(.slice none 0 0), (.int .i64 3)]) (ex_move _) ?_
   simp only [pS, pN, pA, pC, pZ]
   refine do_ rfl (.slice none 0 0) (ex_extract rfl rfl) ?_
   simp only [pS, pN, pA, pC, pZ]
   refine do_ rfl (.int .i64 3) (ex_extract rfl rfl) ?_
   simp only [pS, pN, pA, pC, pZ]
   refine do_ rfl (.slice none 0 0) (ex_assign _) ?_
   simp only [pS, pN, pA, pC, pZ]
   refine do_ rfl (.int .i64 3) (ex_assign _) ?_
   simp only [pS, pN, pA, pC, pZ]
   refine wl_nil (hK188 _ _ ?_)
   refine wp_seq_k (fun K195 hK195 => region_wl ?_)
   refine do_ rfl (.slice (some ⟨g156, 0, none⟩) cs.length cap112) (ex_move _) ?_
   simp only [pS, pN, pA, pC, pZ]
   refine stTells (v := (.tuple #[(.slice none 0 0), (.int .i64 3)])) S194 rfl (ex_fn (vs := #[(.slice (some ⟨g156, 0, none⟩) cs.length cap112), (.int .i64 0)]) (map2 rfl rfl) rfl (ent_11 _ _)) (histRootBad_spec _ _ _ cs (cs.set kn (⟨x.turn + (1 + bn), x.writes⟩ : Cm)) kn (n := 0) (S194).sat hv192 hh (by omega) (by rw [List.length_set]; omega) hord.2.2.2 (by omega) hord.2.2.1 hord.1 hord.2.1) (fun w196 S197 => ?_)
   simp only [pS, pN, pA, pC, pZ]
   refine do_ rfl (.tuple #[(.slice none 0 0), (.int .i64 3)]) (ex_move _) ?_
   simp only [pS, pN, pA, pC, pZ]
   refine do_ rfl (.slice none 0 0) (ex_extract rfl rfl) ?_
   simp only [pS, pN, pA, pC, pZ]
   refine do_ rfl (.int .i64 3) (ex_extract rfl rfl) ?_
   simp only [pS, pN, pA, pC, pZ]
   refine do_ rfl (.slice none 0 0) (ex_assign _) ?_
   simp only [pS, pN, pA, pC, pZ]
   refine do_ rfl (.int .i64 3) (ex_assign _) ?_
   simp only [pS, pN, pA, pC, pZ]
   refine wl_nil (hK195 _ _ ?_)
   refine wp_seq_k (fun K198 hK198 => region_wl ?_)
   refine do_ rfl (.slice (some ⟨g156, 0, none⟩) cs.length cap112) (ex_move _) ?_
   simp only [pS, pN, pA, pC, pZ]
   refine stTells (v := (.tuple #[(.slice none 0 0), (.int .i64 3)])) S197 rfl (ex_fn (vs := #[(.slice (some ⟨g156, 0, none⟩) cs.length cap112), (.int .i64 0), (.int .i64 0)]) (map3 rfl rfl rfl) rfl (ent_12 _ _)) (changesBad_spec _ _ _ cs (cs.set kn (⟨x.turn + (1 + bn), x.writes⟩ : Cm)) kn (n := 0) (j := 0) (S197).sat hv192 hh (by omega) (by rw [List.length_set]; omega) hord.2.2.2 (by omega) hord.2.2.1 hord.1 hord.2.1) (fun w199 S200 => ?_)
   simp only [pS, pN, pA, pC, pZ]
   refine do_ rfl (.tuple #[(.slice none 0 0), (.int .i64 3)]) (ex_move _) ?_
   simp only [pS, pN, pA, pC, pZ]
   refine do_ rfl (.slice none 0 0) (ex_extract rfl rfl) ?_
   simp only [pS, pN, pA, pC, pZ]
   refine do_ rfl (.int .i64 3) (ex_extract rfl rfl) ?_
   simp only [pS, pN, pA, pC, pZ]
   refine do_ rfl (.slice none 0 0) (ex_assign _) ?_
   simp only [pS, pN, pA, pC, pZ]
   refine do_ rfl (.int .i64 3) (ex_assign _) ?_
   simp only [pS, pN, pA, pC, pZ]
   refine wl_nil (hK198 _ _ ?_)
   refine wp_seq_k (fun K201 hK201 => region_wl ?_)
   refine do_ rfl (.slice (some ⟨g156, 0, none⟩) cs.length cap112) (ex_move _) ?_
   simp only [pS, pN, pA, pC, pZ]
   refine stTells (v := (.int .i64 3)) S200 rfl (ex_fn (vs := #[(.slice (some ⟨g156, 0, none⟩) cs.length cap112)]) (map1 rfl) rfl (ent_8 _ _)) (histCheckBad_spec _ _ _ cs (cs.set kn (⟨x.turn + (1 + bn), x.writes⟩ : Cm)) kn (S200).sat hv192 hh (by omega) (by rw [List.length_set]; omega) hord.2.2.2 (by omega) hord.2.2.1 hord.1 hord.2.1) (fun w202 S203 => ?_)
   simp only [pS, pN, pA, pC, pZ]
   refine do_ rfl (.bool true) (ex_eql (b := true) rfl rfl (by decide)) ?_
   simp only [pS, pN, pA, pC, pZ]
   refine do_ rfl (.bool true) (ex_move _) ?_
   simp only [pS, pN, pA, pC, pZ]
   refine do_ rfl (.int .i64 3) (ex_move _) ?_
   simp only [pS, pN, pA, pC, pZ]
   refine do_ rfl (.bool true) (ex_eql (b := true) rfl rfl (by decide)) ?_
   simp only [pS, pN, pA, pC, pZ]
   refine do_ rfl (.bool true) (ex_pick (b := true) rfl) ?_
   simp only [pS, pN, pA, pC, pZ]
   refine do_ rfl (.bool true) (ex_move _) ?_
   simp only [pS, pN, pA, pC, pZ]
   refine do_ rfl (.int .i64 3) (ex_move _) ?_
   simp only [pS, pN, pA, pC, pZ]
   refine do_ rfl (.bool true) (ex_eql (b := true) rfl rfl (by decide)) ?_
   simp only [pS, pN, pA, pC, pZ]
   refine do_ rfl (.bool true) (ex_pick (b := true) rfl) ?_
   simp only [pS, pN, pA, pC, pZ]
   refine do_ rfl (.bool true) (ex_move _) ?_
   simp only [pS, pN, pA, pC, pZ]
   refine do_ rfl (.int .i64 3) (ex_move _) ?_
   simp only [pS, pN, pA, pC, pZ]
   refine do_ rfl (.bool true) (ex_eql (b := true) rfl rfl (by decide)) ?_
   simp only [pS, pN, pA, pC, pZ]
   refine do_ rfl (.bool true) (ex_pick (b := true) rfl) ?_
   simp only [pS, pN, pA, pC, pZ]
   refine do_ rfl (.bool true) (ex_assign _) ?_
   simp only [pS, pN, pA, pC, pZ]
   refine wl_nil (hK201 _ _ ?_)
   refine wp_ret ?_
   (try simp only [Exit.then, Exit.inBlock, ↓reduceIte, Nat.reduceEqDiff])
   refine bodyPost_ret (v := (.bool true)) ?_ rfl ?_
   ·exact res_t rfl rfl
   ·exact ⟨rfl, S203.gr.below⟩
  ·refine stTells (v := (.int .i64 ((bn : Nat) : Int))) S157 rfl (ex_fn (vs := #[(.int .i64 x2), (.int .i64 9)]) (map2 rfl rfl) rfl (ent_9 _ _)) (hbn ▸ tells_same (picked_spec x2 (9 : Int) _ b2 b2' (by omega) (by omega))) (fun w204 S205 => ?_)
   simp only [pS, pN, pA, pC, pZ]
   refine wl_nil (hl_back S205.sat ?_)
   refine hl_take 7 rfl (by kernel_rfl) (v := (.int .i64 (((1 + bn) : Nat) : Int))) (fun _ _ _ h => h) S205.sat rfl (fun w206 hs207 => ex_add (m := (1 : Int)) (n := ((bn : Nat) : Int)) (r := (((1 + bn) : Nat) : Int)) rfl rfl (by omega) (by omega) (by omega)) ?_
   simp only [pS, pN, pA, pC, pZ]
   refine hl_next 4 (by kernel_rfl) rfl ?_
   obtain ⟨g208, ha209, xa212, xc213, c210, c211, r214⟩ := cm_at (S205.own (i := 0) rfl) hx
   injection ha209 with ha209; injection ha209 with ha209; subst ha209
   refine do_ rfl (.int .i64 ((x.turn : Nat) : Int)) (ex_load rfl (load1 (nagg_3 _) c210)) ?_
   simp only [pS, pN, pA, pC, pZ]
   refine wl_nil (hl_back S205.sat ?_)
   refine hl_take 8 rfl (by kernel_rfl) (v := (.int .i64 (((x.turn + (1 + bn)) : Nat) : Int))) (fun _ _ _ h => h) S205.sat rfl (fun w215 hs216 => ex_add (m := ((x.turn : Nat) : Int)) (n := (((1 + bn) : Nat) : Int)) (r := (((x.turn + (1 + bn)) : Nat) : Int)) rfl rfl (by omega) (by omega) (by omega)) ?_
   simp only [pS, pN, pA, pC, pZ]
   refine hl_take 9 rfl (by kernel_rfl) (v := (.pointer (some ⟨g156, 0 + kn * 2, none⟩))) (fun _ _ _ h => h) S205.sat rfl (fun w217 hs218 => ex_at (i := kn) (sz := 2) Tryd.underlying23 (sizeof_32 _) rfl rfl rfl (by omega) rfl) ?_
   simp only [pS, pN, pA, pC, pZ]
   refine hl_take 10 rfl (by kernel_rfl) (v := (.pointer (some ⟨g156, 0 + kn * 2, none⟩))) (fun _ _ _ h => h) S205.sat rfl (fun w219 hs220 => ex_field (q := ⟨g156, 0 + kn * 2, none⟩) rfl (fa_32_0 _ _)) ?_
   simp only [pS, pN, pA, pC, pZ]
   refine hl_next 11 (by kernel_rfl) rfl ?_
   refine stSetCell (r := 0) (i := kn) (j := 0) (p := (⟨x.turn + (1 + bn), x.writes⟩ : Cm)) (u := (.int .i64 (((x.turn + (1 + bn)) : Nat) : Int))) S205 rfl rfl (by omega) (by decide) rfl rfl (by omega) (size_3) rfl rfl (fun cs y hy hR => ?_) (Nat.le_refl _) (fun w221 S222 => ?_)
   ·rw [hx] at hy; cases hy
    obtain ⟨z0, z1, rfl, rfl, z2⟩ := hR
    exact ⟨_, _, rfl, rfl, z2⟩
   simp only [pS, pN, pA, pC, pZ]
   have S222 : St W (whole W) w221 F106 [] [ownP 2 CmC CmC.mono 32 W.heap.size (.slice (some ⟨g156, 0, none⟩) cs.length cap112) (cs.set kn (⟨x.turn + (1 + bn), x.writes⟩ : Cm))] := S222
   refine wl_nil (hl_back S222.sat ?_)
   refine hl_done (by kernel_rfl) ?_
   refine hK155 _ _ ?_
   refine wp_seq_k (fun K223 hK223 => ?_)
   have hsl : (cs.set kn (⟨x.turn + (1 + bn), x.writes⟩ : Cm)).length = cs.length := List.length_set
   obtain ⟨F224, S225, le226, hv227⟩ := St.freeze S222 (i := 0) rfl (Nat.le_refl _)
   have S225 : St W (whole W) w221 F224 [] [] := S225
   have hv227 : Cms _ (.slice (some ⟨g156, 0, none⟩) cs.length cap112) (cs.set kn (⟨x.turn + (1 + bn), x.writes⟩ : Cm)) := hv227
   refine region_wl ?_
   refine do_ rfl (.slice (some ⟨g156, 0, none⟩) cs.length cap112) (ex_move _) ?_
   simp only [pS, pN, pA, pC, pZ]
   refine stTells (v := (.tuple #[(.slice none 0 0), (.int .i64 3)])) S225 rfl (ex_fn (vs := #[(.slice (some ⟨g156, 0, none⟩) cs.length cap112), (.int .i64 0)]) (map2 rfl rfl) rfl (ent_10 _ _)) (foldBad_spec _ _ _ cs (cs.set kn (⟨x.turn + (1 + bn), x.writes⟩ : Cm)) kn (n := 0) (S225).sat hv227 hh (by omega) (by rw [List.length_set]; omega) hord.2.2.2 (by omega) hord.2.2.1 hord.1 hord.2.1) (fun w228 S229 => ?_)
   simp only [pS, pN, pA, pC, pZ]
   refine do_ rfl (.tuple #[(.slice none 0 0), (.int .i64 3)]) (ex_move _) ?_
   simp only [pS, pN, pA, pC, pZ]
   refine do_ rfl (.slice none 0 0) (ex_extract rfl rfl) ?_
   simp only [pS, pN, pA, pC, pZ]
   refine do_ rfl (.int .i64 3) (ex_extract rfl rfl) ?_
   simp only [pS, pN, pA, pC, pZ]
   refine do_ rfl (.slice none 0 0) (ex_assign _) ?_
   simp only [pS, pN, pA, pC, pZ]
   refine do_ rfl (.int .i64 3) (ex_assign _) ?_
   simp only [pS, pN, pA, pC, pZ]
   refine wl_nil (hK223 _ _ ?_)
   refine wp_seq_k (fun K230 hK230 => region_wl ?_)
   refine do_ rfl (.slice (some ⟨g156, 0, none⟩) cs.length cap112) (ex_move _) ?_
   simp only [pS, pN, pA, pC, pZ]
   refine stTells (v := (.tuple #[(.slice none 0 0), (.int .i64 3)])) S229 rfl (ex_fn (vs := #[(.slice (some ⟨g156, 0, none⟩) cs.length cap112), (.int .i64 0)]) (map2 rfl rfl) rfl (ent_11 _ _)) (histRootBad_spec _ _ _ cs (cs.set kn (⟨x.turn + (1 + bn), x.writes⟩ : Cm)) kn (n := 0) (S229).sat hv227 hh (by omega) (by rw [List.length_set]; omega) hord.2.2.2 (by omega) hord.2.2.1 hord.1 hord.2.1) (fun w231 S232 => ?_)
   simp only [pS, pN, pA, pC, pZ]
   refine do_ rfl (.tuple #[(.slice none 0 0), (.int .i64 3)]) (ex_move _) ?_
   simp only [pS, pN, pA, pC, pZ]
   refine do_ rfl (.slice none 0 0) (ex_extract rfl rfl) ?_
   simp only [pS, pN, pA, pC, pZ]
   refine do_ rfl (.int .i64 3) (ex_extract rfl rfl) ?_
   simp only [pS, pN, pA, pC, pZ]
   refine do_ rfl (.slice none 0 0) (ex_assign _) ?_
   simp only [pS, pN, pA, pC, pZ]
   refine do_ rfl (.int .i64 3) (ex_assign _) ?_
   simp only [pS, pN, pA, pC, pZ]
   refine wl_nil (hK230 _ _ ?_)
   refine wp_seq_k (fun K233 hK233 => region_wl ?_)
   refine do_ rfl (.slice (some ⟨g156, 0, none⟩) cs.length cap112) (ex_move _) ?_
   simp only [pS, pN, pA, pC, pZ]
   refine stTells (v := (.tuple #[(.slice none 0 0), (.int .i64 3)])) S232 rfl (ex_fn (vs := #[(.slice (some ⟨g156, 0, none⟩) cs.length cap112), (.int .i64 0), (.int .i64 0)]) (map3 rfl rfl rfl) rfl (ent_12 _ _)) (changesBad_spec _ _ _ cs (cs.set kn (⟨x.turn + (1 + bn), x.writes⟩ : Cm)) kn (n := 0) (j := 0) (S232).sat hv227 hh (by omega) (by rw [List.length_set]; omega) hord.2.2.2 (by omega) hord.2.2.1 hord.1 hord.2.1) (fun w234 S235 => ?_)
   simp only [pS, pN, pA, pC, pZ]
   refine do_ rfl (.tuple #[(.slice none 0 0), (.int .i64 3)]) (ex_move _) ?_
   simp only [pS, pN, pA, pC, pZ]
   refine do_ rfl (.slice none 0 0) (ex_extract rfl rfl) ?_
   simp only [pS, pN, pA, pC, pZ]
   refine do_ rfl (.int .i64 3) (ex_extract rfl rfl) ?_
   simp only [pS, pN, pA, pC, pZ]
   refine do_ rfl (.slice none 0 0) (ex_assign _) ?_
   simp only [pS, pN, pA, pC, pZ]
   refine do_ rfl (.int .i64 3) (ex_assign _) ?_
   simp only [pS, pN, pA, pC, pZ]
   refine wl_nil (hK233 _ _ ?_)
   refine wp_seq_k (fun K236 hK236 => region_wl ?_)
   refine do_ rfl (.slice (some ⟨g156, 0, none⟩) cs.length cap112) (ex_move _) ?_
   simp only [pS, pN, pA, pC, pZ]
   refine stTells (v := (.int .i64 3)) S235 rfl (ex_fn (vs := #[(.slice (some ⟨g156, 0, none⟩) cs.length cap112)]) (map1 rfl) rfl (ent_8 _ _)) (histCheckBad_spec _ _ _ cs (cs.set kn (⟨x.turn + (1 + bn), x.writes⟩ : Cm)) kn (S235).sat hv227 hh (by omega) (by rw [List.length_set]; omega) hord.2.2.2 (by omega) hord.2.2.1 hord.1 hord.2.1) (fun w237 S238 => ?_)
   simp only [pS, pN, pA, pC, pZ]
   refine do_ rfl (.bool true) (ex_eql (b := true) rfl rfl (by decide)) ?_
   simp only [pS, pN, pA, pC, pZ]
   refine do_ rfl (.bool true) (ex_move _) ?_
   simp only [pS, pN, pA, pC, pZ]
   refine do_ rfl (.int .i64 3) (ex_move _) ?_
   simp only [pS, pN, pA, pC, pZ]
   refine do_ rfl (.bool true) (ex_eql (b := true) rfl rfl (by decide)) ?_
   simp only [pS, pN, pA, pC, pZ]
   refine do_ rfl (.bool true) (ex_pick (b := true) rfl) ?_
   simp only [pS, pN, pA, pC, pZ]
   refine do_ rfl (.bool true) (ex_move _) ?_
   simp only [pS, pN, pA, pC, pZ]
   refine do_ rfl (.int .i64 3) (ex_move _) ?_
   simp only [pS, pN, pA, pC, pZ]
   refine do_ rfl (.bool true) (ex_eql (b := true) rfl rfl (by decide)) ?_
   simp only [pS, pN, pA, pC, pZ]
   refine do_ rfl (.bool true) (ex_pick (b := true) rfl) ?_
   simp only [pS, pN, pA, pC, pZ]
   refine do_ rfl (.bool true) (ex_move _) ?_
   simp only [pS, pN, pA, pC, pZ]
   refine do_ rfl (.int .i64 3) (ex_move _) ?_
   simp only [pS, pN, pA, pC, pZ]
   refine do_ rfl (.bool true) (ex_eql (b := true) rfl rfl (by decide)) ?_
   simp only [pS, pN, pA, pC, pZ]
   refine do_ rfl (.bool true) (ex_pick (b := true) rfl) ?_
   simp only [pS, pN, pA, pC, pZ]
   refine do_ rfl (.bool true) (ex_assign _) ?_
   simp only [pS, pN, pA, pC, pZ]
   refine wl_nil (hK236 _ _ ?_)
   refine wp_ret ?_
   (try simp only [Exit.then, Exit.inBlock, ↓reduceIte, Nat.reduceEqDiff])
   refine bodyPost_ret (v := (.bool true)) ?_ rfl ?_
   ·exact res_t rfl rfl
   ·exact ⟨rfl, S238.gr.below⟩
end Go.Proofs.YtlimmmidfhpakaaDoor
