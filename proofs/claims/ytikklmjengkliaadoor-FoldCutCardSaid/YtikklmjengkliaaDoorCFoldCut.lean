/- The walk of FoldCut -/
import Derived.Test.YtikklmjengkliaaDoorBR11
import Derived.Test.YtikklmjengkliaaDoorBR9
namespace Go.Proofs.YtikklmjengkliaaDoor
open Go.RowKit
set_option maxRecDepth 100000
set_option linter.unusedVariables false
set_option linter.unusedSimpArgs false
theorem Sl.cap3H {α : Type} {k : Nat} {R : Fz → List Value → α → Prop} {F : Fz} {a : Option Addr} {n c m : Nat} {l : List α} (h : Sl k R F (.slice a n c) l) (hm : m ≤ n) : Sl k R F (.slice a m m) (l.take m) := by
  obtain ⟨_, _, e0, e1, _⟩ := h.shape
  injection e0 with _ e2 e3
  exact Sl.cap (Sl.takeN h hm) (Nat.le_refl _) (by omega)
set_option maxHeartbeats 8000000 in
theorem histRoot_spec (F : Fz) (w : World) (u : Value) (cs : List Cm) (n : Nat) (hs : Sat w F) (hT : Tabs w) (hl : Cms F u cs) {m : Nat} (hh : HistOk m cs) (hm : m ≤ 60) (h300 : cs.length ≤ 300) (hn : n ≤ cs.length) :
    Calls Tryd.prog 27 #[u, .int .i64 (n : Int)] w (Gives w F (SumR (rootF (stateC cs n)) 0)) := by
 obtain ⟨a, c, rfl, hc1, hc2⟩ := Sl.shape hl
 unfold maxLen at hc2
 have S := St.start hs
 go_enter Tryd.func27, Tryd.ntmps27
 refine wp_seq_k (fun K1 hK1 => region_wl ?_)
 refine do_ rfl (.slice none 0 0) (ex_assign _) ?_
 simp only [pS, pN, pA, pC, pZ]
 refine do_ rfl (.int .i64 0) (ex_assign _) ?_
 simp only [pS, pN, pA, pC, pZ]
 refine wl_nil (hK1 _ _ ?_)
 refine wp_seq_k (fun K2 hK2 => region_wl ?_)
 refine do_ rfl (.slice a cs.length c) (ex_move _) ?_
 simp only [pS, pN, pA, pC, pZ]
 refine do_ rfl (.int .i64 ((n : Nat) : Int)) (ex_move _) ?_
 simp only [pS, pN, pA, pC, pZ]
 refine stGives S rfl (ex_fn (vs := #[(.slice a cs.length c), (.int .i64 ((n : Nat) : Int))]) (map2 rfl rfl) rfl (ent_26 _ _)) (fold_spec _ _ _ cs n (S).sat hl hh hm h300 (by omega)) ?_
 intro v8 w3 F5 S4 le6 R7
 obtain ⟨_, rfl, r11⟩ := R7
 obtain ⟨a9, c10, rfl, h12, h13⟩ := Sl.shape r11
 unfold maxLen at h13
 have h12 : (stateC cs n).length ≤ c10 := h12
 have r11 : Tns _ (.slice a9 (stateC cs n).length c10) (stateC cs n) := r11
 simp only [pS, pN, pA, pC, pZ]
 refine do_ rfl (.tuple #[(.slice a9 (stateC cs n).length c10), (.int .i64 0)]) (ex_move _) ?_
 simp only [pS, pN, pA, pC, pZ]
 refine do_ rfl (.slice a9 (stateC cs n).length c10) (ex_extract rfl rfl) ?_
 simp only [pS, pN, pA, pC, pZ]
 refine do_ rfl (.int .i64 0) (ex_extract rfl rfl) ?_
 simp only [pS, pN, pA, pC, pZ]
 refine do_ rfl (.slice a9 (stateC cs n).length c10) (ex_assign _) ?_
 simp only [pS, pN, pA, pC, pZ]
 refine do_ rfl (.int .i64 0) (ex_assign _) ?_
 simp only [pS, pN, pA, pC, pZ]
 refine wl_nil (hK2 _ _ ?_)
 refine wp_seq_k (fun K14 hK14 => ?_)
 refine wp_seq_k (fun K15 hK15 => region_wl ?_)
 refine do_ rfl (.int .i64 0) (ex_move _) ?_
 simp only [pS, pN, pA, pC, pZ]
 refine do_ rfl (.bool false) (ex_neq (m := (0 : Int)) (n := (0 : Int)) (b := false) rfl rfl (bne_eq_false_iff_eq.2 (by omega))) ?_
 simp only [pS, pN, pA, pC, pZ]
 refine wl_nil (hK15 _ _ ?_)
 refine wp_cond_false rfl ?_
 refine wp_skip ?_
 refine hK14 _ _ ?_
 refine wp_seq_k (fun K16 hK16 => region_wl ?_)
 refine do_ rfl (.slice a9 (stateC cs n).length c10) (ex_move _) ?_
 simp only [pS, pN, pA, pC, pZ]
 refine stGives S4 rfl (ex_fn (vs := #[(.slice a9 (stateC cs n).length c10)]) (map1 rfl) rfl (ent_17 _ _)) (forestRoot_spec _ _ _ (stateC cs n) (S4).sat (hT.at S4.gr.below) r11 ((state_ok hh n).mono hm)) ?_
 intro v22 w17 F19 S18 le20 R21
 obtain ⟨x23, rfl, r24⟩ := R21
 obtain ⟨xa25, xc26, rfl, _⟩ := r24.shape
 have r24 : Bs _ (.slice xa25 (rootF (stateC cs n)).length xc26) (rootF (stateC cs n)) := r24
 simp only [pS, pN, pA, pC, pZ]
 refine do_ rfl (.slice xa25 (rootF (stateC cs n)).length xc26) (ex_extract rfl rfl) ?_
 simp only [pS, pN, pA, pC, pZ]
 refine do_ rfl (.int .i64 0) (ex_extract rfl rfl) ?_
 simp only [pS, pN, pA, pC, pZ]
 refine do_ rfl (.slice xa25 (rootF (stateC cs n)).length xc26) (ex_assign _) ?_
 simp only [pS, pN, pA, pC, pZ]
 refine do_ rfl (.int .i64 0) (ex_assign _) ?_
 simp only [pS, pN, pA, pC, pZ]
 refine wl_nil (hK16 _ _ ?_)
 refine wp_ret ?_
 (try simp only [Exit.then, Exit.inBlock, ↓reduceIte, Nat.reduceEqDiff])
 refine bodyPost_ret (v := (.tuple #[(.slice xa25 (rootF (stateC cs n)).length xc26), (.int .i64 0)])) ?_ rfl ?_
 ·exact res_tt rfl rfl rfl
 ·exact ⟨_, _, rfl, S18.gr, _, rfl, r24⟩
theorem foldTake_spec (F : Fz) (w : World) (u : Value) (cs : List Cm) (k n : Nat) (hs : Sat w F) (hl : Cms F u (cs.take k)) {m : Nat} (hh : HistOk m cs) (hm : m ≤ 60) (h300 : cs.length ≤ 300) (hk : k ≤ cs.length) (hn : n ≤ k) :
    Calls Tryd.prog 26 #[u, .int .i64 (n : Int)] w (Gives w F (TnsE (stateC cs n) 0)) := by
  have := fold_spec F w u (cs.take k) n hs hl (hh.take k) hm (by rw [List.length_take]; omega) (by rw [List.length_take]; omega)
  rwa [state_take hn] at this
set_option maxHeartbeats 8000000 in
theorem foldCut_walk (W : World) (hT : Tabs W) (v0 : Value) (l0 : List Pl) (z0 : Pls (whole W) v0 l0) (x1 : Int) (b1 : -9223372036854775808 ≤ x1) (b1' : x1 ≤ 9223372036854775807) (x2 : Int) (b2 : -9223372036854775808 ≤ x2) (b2' : x2 ≤ 9223372036854775807) :
    Calls Tryd.prog 7 #[v0, .int .i64 x1, .int .i64 x2] W (Tells W (.bool true)) := by
 obtain ⟨a0, c0, rfl, q0, q0'⟩ := Sl.shape z0
 have S := St.start (Sat.whole W)
 go_enter Tryd.func7, Tryd.ntmps7
 refine wp_seq_k (fun K101 hK101 => region_wl ?_)
 refine do_ rfl (.bool false) (ex_assign _) ?_
 simp only [pS, pN, pA, pC, pZ]
 refine wl_nil (hK101 _ _ ?_)
 refine wp_seq_k (fun K102 hK102 => region_wl ?_)
 refine do_ rfl (.slice a0 l0.length c0) (ex_move _) ?_
 simp only [pS, pN, pA, pC, pZ]
 refine stGives S rfl (ex_fn (vs := #[(.slice a0 l0.length c0), (.int .i64 16)]) (map2 rfl rfl) rfl (ent_25 _ _)) (commits_spec _ _ _ l0 16 (S).sat z0 (by omega)) ?_
 intro v108 w103 F105 S104 le106 R107
 obtain ⟨cs, R107, hh, hcl⟩ := R107
 obtain ⟨a109, c110, rfl, h111, h112⟩ := Sl.shape R107
 unfold maxLen at h112
 simp only [pS, pN, pA, pC, pZ]
 refine do_ rfl (.slice a109 cs.length c110) (ex_assign _) ?_
 simp only [pS, pN, pA, pC, pZ]
 refine wl_nil (hK102 _ _ ?_)
 refine wp_seq_k (fun K113 hK113 => ?_)
 obtain ⟨hp0, hp1⟩ := pick_bd x1 ((cs.length + 1 : Nat) : Int) (by omega)
 obtain ⟨kn, hkn⟩ : ∃ kn : Nat, pick x1 ((cs.length + 1 : Nat) : Int) = (kn : Int) := ⟨(pick x1 ((cs.length + 1 : Nat) : Int)).toNat, (Int.toNat_of_nonneg hp0).symm⟩
 have hkb : kn ≤ cs.length := by omega
 refine region_wl ?_
 refine do_ rfl (.int .i64 x1) (ex_move _) ?_
 simp only [pS, pN, pA, pC, pZ]
 refine do_ rfl (.slice a109 cs.length c110) (ex_move _) ?_
 simp only [pS, pN, pA, pC, pZ]
 refine do_ rfl (.int .i64 ((cs.length : Nat) : Int)) (ex_len Tryd.underlying60 rfl) ?_
 simp only [pS, pN, pA, pC, pZ]
 refine do_ rfl (.int .i64 (((cs.length + 1) : Nat) : Int)) (ex_add (m := ((cs.length : Nat) : Int)) (n := (1 : Int)) (r := (((cs.length + 1) : Nat) : Int)) rfl rfl (by omega) (by omega) (by omega)) ?_
 simp only [pS, pN, pA, pC, pZ]
 refine stTells (v := (.int .i64 ((kn : Nat) : Int))) S104 rfl (ex_fn (vs := #[(.int .i64 x1), (.int .i64 (((cs.length + 1) : Nat) : Int))]) (map2 rfl rfl) rfl (ent_15 _ _)) (hkn ▸ tells_same (picked_spec x1 (((cs.length + 1) : Nat) : Int) _ b1 b1' (by omega) (by omega))) (fun w114 S115 => ?_)
 simp only [pS, pN, pA, pC, pZ]
 refine do_ rfl (.int .i64 ((kn : Nat) : Int)) (ex_assign _) ?_
 simp only [pS, pN, pA, pC, pZ]
 refine wl_nil (hK113 _ _ ?_)
 refine wp_seq_k (fun K116 hK116 => ?_)
 obtain ⟨hq0, hq1⟩ := pick_bd x2 ((kn + 1 : Nat) : Int) (by omega)
 obtain ⟨nn, hnn⟩ : ∃ nn : Nat, pick x2 ((kn + 1 : Nat) : Int) = (nn : Int) := ⟨(pick x2 ((kn + 1 : Nat) : Int)).toNat, (Int.toNat_of_nonneg hq0).symm⟩
 have hnb : nn ≤ kn := by omega
 refine region_wl ?_
 refine do_ rfl (.int .i64 x2) (ex_move _) ?_
 simp only [pS, pN, pA, pC, pZ]
 refine do_ rfl (.int .i64 ((kn : Nat) : Int)) (ex_move _) ?_
 simp only [pS, pN, pA, pC, pZ]
 refine do_ rfl (.int .i64 (((kn + 1) : Nat) : Int)) (ex_add (m := ((kn : Nat) : Int)) (n := (1 : Int)) (r := (((kn + 1) : Nat) : Int)) rfl rfl (by omega) (by omega) (by omega)) ?_
 simp only [pS, pN, pA, pC, pZ]
 refine stTells (v := (.int .i64 ((nn : Nat) : Int))) S115 rfl (ex_fn (vs := #[(.int .i64 x2), (.int .i64 (((kn + 1) : Nat) : Int))]) (map2 rfl rfl) rfl (ent_15 _ _)) (hnn ▸ tells_same (picked_spec x2 (((kn + 1) : Nat) : Int) _ b2 b2' (by omega) (by omega))) (fun w117 S118 => ?_)
 simp only [pS, pN, pA, pC, pZ]
 refine do_ rfl (.int .i64 ((nn : Nat) : Int)) (ex_assign _) ?_
 simp only [pS, pN, pA, pC, pZ]
 refine wl_nil (hK116 _ _ ?_)
 refine wp_seq_k (fun K119 hK119 => region_wl ?_)
 refine do_ rfl (.slice a109 cs.length c110) (ex_move _) ?_
 simp only [pS, pN, pA, pC, pZ]
 refine do_ rfl (.int .i64 ((nn : Nat) : Int)) (ex_move _) ?_
 simp only [pS, pN, pA, pC, pZ]
 refine stGives S118 rfl (ex_fn (vs := #[(.slice a109 cs.length c110), (.int .i64 ((nn : Nat) : Int))]) (map2 rfl rfl) rfl (ent_26 _ _)) (fold_spec _ _ _ cs nn (S118).sat R107 hh (by omega) (by omega) (by omega)) ?_
 intro v125 w120 F122 S121 le123 R124
 obtain ⟨_, rfl, r128⟩ := R124
 obtain ⟨a126, c127, rfl, h129, h130⟩ := Sl.shape r128
 unfold maxLen at h130
 have h129 : (stateC cs nn).length ≤ c127 := h129
 have r128 : Tns _ (.slice a126 (stateC cs nn).length c127) (stateC cs nn) := r128
 simp only [pS, pN, pA, pC, pZ]
 refine do_ rfl (.tuple #[(.slice a126 (stateC cs nn).length c127), (.int .i64 0)]) (ex_move _) ?_
 simp only [pS, pN, pA, pC, pZ]
 refine do_ rfl (.slice a126 (stateC cs nn).length c127) (ex_extract rfl rfl) ?_
 simp only [pS, pN, pA, pC, pZ]
 refine do_ rfl (.int .i64 0) (ex_extract rfl rfl) ?_
 simp only [pS, pN, pA, pC, pZ]
 refine do_ rfl (.slice a126 (stateC cs nn).length c127) (ex_assign _) ?_
 simp only [pS, pN, pA, pC, pZ]
 refine do_ rfl (.int .i64 0) (ex_assign _) ?_
 simp only [pS, pN, pA, pC, pZ]
 refine wl_nil (hK119 _ _ ?_)
 refine wp_seq_k (fun K131 hK131 => region_wl ?_)
 refine do_ rfl (.slice a109 cs.length c110) (ex_move _) ?_
 simp only [pS, pN, pA, pC, pZ]
 refine do_ rfl (.int .i64 ((kn : Nat) : Int)) (ex_move _) ?_
 simp only [pS, pN, pA, pC, pZ]
 refine do_ rfl (.int .i64 ((kn : Nat) : Int)) (ex_move _) ?_
 simp only [pS, pN, pA, pC, pZ]
 have r132 : Cms _ (.slice a109 kn kn) (cs.take kn) := Sl.cap3H (R107.mono le123) (by omega)
 refine do_ rfl (.slice a109 kn kn) (ex_slice3_0 (h := kn) (m := kn) (sz := 2) Tryd.underlying60 rfl (sizeof_72 _) rfl rfl (by omega) (by omega) rfl) ?_
 simp only [pS, pN, pA, pC, pZ]
 refine do_ rfl (.int .i64 ((nn : Nat) : Int)) (ex_move _) ?_
 simp only [pS, pN, pA, pC, pZ]
 refine stGives S121 rfl (ex_fn (vs := #[(.slice a109 kn kn), (.int .i64 ((nn : Nat) : Int))]) (map2 rfl rfl) rfl (ent_26 _ _)) (foldTake_spec _ _ _ cs kn nn (S121).sat r132 hh (by omega) (by omega) (by omega) (by omega)) ?_
 intro v138 w133 F135 S134 le136 R137
 obtain ⟨_, rfl, r141⟩ := R137
 obtain ⟨a139, c140, rfl, h142, h143⟩ := Sl.shape r141
 unfold maxLen at h143
 have h142 : (stateC cs nn).length ≤ c140 := h142
 have r141 : Tns _ (.slice a139 (stateC cs nn).length c140) (stateC cs nn) := r141
 simp only [pS, pN, pA, pC, pZ]
 refine do_ rfl (.tuple #[(.slice a139 (stateC cs nn).length c140), (.int .i64 0)]) (ex_move _) ?_
 simp only [pS, pN, pA, pC, pZ]
 refine do_ rfl (.slice a139 (stateC cs nn).length c140) (ex_extract rfl rfl) ?_
 simp only [pS, pN, pA, pC, pZ]
 refine do_ rfl (.int .i64 0) (ex_extract rfl rfl) ?_
 simp only [pS, pN, pA, pC, pZ]
 refine do_ rfl (.slice a139 (stateC cs nn).length c140) (ex_assign _) ?_
 simp only [pS, pN, pA, pC, pZ]
 refine do_ rfl (.int .i64 0) (ex_assign _) ?_
 simp only [pS, pN, pA, pC, pZ]
 refine wl_nil (hK131 _ _ ?_)
 refine wp_seq_k (fun K144 hK144 => region_wl ?_)
 refine do_ rfl (.slice a109 cs.length c110) (ex_move _) ?_
 simp only [pS, pN, pA, pC, pZ]
 refine do_ rfl (.int .i64 ((nn : Nat) : Int)) (ex_move _) ?_
 simp only [pS, pN, pA, pC, pZ]
 refine stGives S134 rfl (ex_fn (vs := #[(.slice a109 cs.length c110), (.int .i64 ((nn : Nat) : Int))]) (map2 rfl rfl) rfl (ent_27 _ _)) (histRoot_spec _ _ _ cs nn (S134).sat (hT.at S134.gr.below) (R107.mono (le123.trans le136)) hh (by omega) (by omega) (by omega)) ?_
 intro v150 w145 F147 S146 le148 R149
 obtain ⟨x151, rfl, r152⟩ := R149
 obtain ⟨xa153, xc154, rfl, _⟩ := r152.shape
 have r152 : Bs _ (.slice xa153 (rootF (stateC cs nn)).length xc154) (rootF (stateC cs nn)) := r152
 simp only [pS, pN, pA, pC, pZ]
 refine do_ rfl (.tuple #[(.slice xa153 (rootF (stateC cs nn)).length xc154), (.int .i64 0)]) (ex_move _) ?_
 simp only [pS, pN, pA, pC, pZ]
 refine do_ rfl (.slice xa153 (rootF (stateC cs nn)).length xc154) (ex_extract rfl rfl) ?_
 simp only [pS, pN, pA, pC, pZ]
 refine do_ rfl (.int .i64 0) (ex_extract rfl rfl) ?_
 simp only [pS, pN, pA, pC, pZ]
 refine do_ rfl (.slice xa153 (rootF (stateC cs nn)).length xc154) (ex_assign _) ?_
 simp only [pS, pN, pA, pC, pZ]
 refine do_ rfl (.int .i64 0) (ex_assign _) ?_
 simp only [pS, pN, pA, pC, pZ]
 refine wl_nil (hK144 _ _ ?_)
 refine wp_seq_k (fun K155 hK155 => region_wl ?_)
 refine do_ rfl (.slice a126 (stateC cs nn).length c127) (ex_move _) ?_
 simp only [pS, pN, pA, pC, pZ]
 refine stGives S146 rfl (ex_fn (vs := #[(.slice a126 (stateC cs nn).length c127)]) (map1 rfl) rfl (ent_17 _ _)) (forestRoot_spec _ _ _ (stateC cs nn) (S146).sat (hT.at S146.gr.below) (r128.mono (le136.trans le148)) ((state_ok hh nn).mono (show 16 ≤ 60 by omega))) ?_
 intro v161 w156 F158 S157 le159 R160
 obtain ⟨x162, rfl, r163⟩ := R160
 obtain ⟨xa164, xc165, rfl, _⟩ := r163.shape
 have r163 : Bs _ (.slice xa164 (rootF (stateC cs nn)).length xc165) (rootF (stateC cs nn)) := r163
 simp only [pS, pN, pA, pC, pZ]
 refine do_ rfl (.tuple #[(.slice xa164 (rootF (stateC cs nn)).length xc165), (.int .i64 0)]) (ex_move _) ?_
 simp only [pS, pN, pA, pC, pZ]
 refine do_ rfl (.slice xa164 (rootF (stateC cs nn)).length xc165) (ex_extract rfl rfl) ?_
 simp only [pS, pN, pA, pC, pZ]
 refine do_ rfl (.int .i64 0) (ex_extract rfl rfl) ?_
 simp only [pS, pN, pA, pC, pZ]
 refine do_ rfl (.slice xa164 (rootF (stateC cs nn)).length xc165) (ex_assign _) ?_
 simp only [pS, pN, pA, pC, pZ]
 refine do_ rfl (.int .i64 0) (ex_assign _) ?_
 simp only [pS, pN, pA, pC, pZ]
 refine wl_nil (hK155 _ _ ?_)
 refine wp_seq_k (fun K166 hK166 => region_wl ?_)
 refine do_ rfl (.int .i64 0) (ex_move _) ?_
 simp only [pS, pN, pA, pC, pZ]
 refine do_ rfl (.bool true) (ex_eql (b := true) rfl rfl (by decide)) ?_
 simp only [pS, pN, pA, pC, pZ]
 refine do_ rfl (.bool true) (ex_move _) ?_
 simp only [pS, pN, pA, pC, pZ]
 refine do_ rfl (.int .i64 0) (ex_move _) ?_
 simp only [pS, pN, pA, pC, pZ]
 refine do_ rfl (.bool true) (ex_eql (b := true) rfl rfl (by decide)) ?_
 simp only [pS, pN, pA, pC, pZ]
 refine do_ rfl (.bool true) (ex_pick (b := true) rfl) ?_
 simp only [pS, pN, pA, pC, pZ]
 refine do_ rfl (.bool true) (ex_move _) ?_
 simp only [pS, pN, pA, pC, pZ]
 refine do_ rfl (.int .i64 0) (ex_move _) ?_
 simp only [pS, pN, pA, pC, pZ]
 refine do_ rfl (.bool true) (ex_eql (b := true) rfl rfl (by decide)) ?_
 simp only [pS, pN, pA, pC, pZ]
 refine do_ rfl (.bool true) (ex_pick (b := true) rfl) ?_
 simp only [pS, pN, pA, pC, pZ]
 refine do_ rfl (.bool true) (ex_move _) ?_
 simp only [pS, pN, pA, pC, pZ]
 refine do_ rfl (.int .i64 0) (ex_move _) ?_
 simp only [pS, pN, pA, pC, pZ]
 refine do_ rfl (.bool true) (ex_eql (b := true) rfl rfl (by decide)) ?_
 simp only [pS, pN, pA, pC, pZ]
 refine do_ rfl (.bool true) (ex_pick (b := true) rfl) ?_
 simp only [pS, pN, pA, pC, pZ]
 refine do_ rfl (.bool true) (ex_move _) ?_
 simp only [pS, pN, pA, pC, pZ]
 refine do_ rfl (.slice a126 (stateC cs nn).length c127) (ex_move _) ?_
 simp only [pS, pN, pA, pC, pZ]
 refine do_ rfl (.slice a139 (stateC cs nn).length c140) (ex_move _) ?_
 simp only [pS, pN, pA, pC, pZ]
 refine stTells (v := (.bool true)) S157 rfl (ex_fn (vs := #[(.slice a126 (stateC cs nn).length c127), (.slice a139 (stateC cs nn).length c140)]) (map2 rfl rfl) rfl (ent_28 _ _)) (tells_bool (sameForest_spec _ _ _ _ (stateC cs nn) (stateC cs nn) (S157).sat (r128.mono ((le136.trans le148).trans le159)) (r141.mono (le148.trans le159)) (by have := ForestOk.len ((state_ok hh nn).mono (show 16 ≤ 60 by omega)); omega) (fun t ht => by have := (ForestOk.tree ((state_ok hh nn).mono (show 16 ≤ 60 by omega)) t ht).len; omega)) (decide_eq_true (rfl))) (fun w167 S168 => ?_)
 simp only [pS, pN, pA, pC, pZ]
 refine do_ rfl (.bool true) (ex_pick (b := true) rfl) ?_
 simp only [pS, pN, pA, pC, pZ]
 refine do_ rfl (.bool true) (ex_move _) ?_
 simp only [pS, pN, pA, pC, pZ]
 refine do_ rfl (.slice xa153 (rootF (stateC cs nn)).length xc154) (ex_move _) ?_
 simp only [pS, pN, pA, pC, pZ]
 refine do_ rfl (.slice xa164 (rootF (stateC cs nn)).length xc165) (ex_move _) ?_
 simp only [pS, pN, pA, pC, pZ]
 refine stTells (v := (.bool true)) S168 rfl (ex_fn (vs := #[(.slice xa153 (rootF (stateC cs nn)).length xc154), (.slice xa164 (rootF (stateC cs nn)).length xc165)]) (map2 rfl rfl) rfl (ent_19 _ _)) (tells_bool (tells_same (same_spec _ _ _ _ (rootF (stateC cs nn)) (rootF (stateC cs nn)) (S168).sat (r152.mono le159) r163)) (beq_iff_eq.2 (rfl))) (fun w169 S170 => ?_)
 simp only [pS, pN, pA, pC, pZ]
 refine do_ rfl (.bool true) (ex_pick (b := true) rfl) ?_
 simp only [pS, pN, pA, pC, pZ]
 refine do_ rfl (.bool true) (ex_move _) ?_
 simp only [pS, pN, pA, pC, pZ]
 refine do_ rfl (.slice xa153 (rootF (stateC cs nn)).length xc154) (ex_move _) ?_
 simp only [pS, pN, pA, pC, pZ]
 refine do_ rfl (.int .i64 (((rootF (stateC cs nn)).length : Nat) : Int)) (ex_len Tryd.underlying23 rfl) ?_
 simp only [pS, pN, pA, pC, pZ]
 refine do_ rfl (.bool true) (ex_eql (m := (((rootF (stateC cs nn)).length : Nat) : Int)) (n := (32 : Int)) (b := true) rfl rfl (beq_iff_eq.2 (by rw [rootF_len]; rfl))) ?_
 simp only [pS, pN, pA, pC, pZ]
 refine do_ rfl (.bool true) (ex_pick (b := true) rfl) ?_
 simp only [pS, pN, pA, pC, pZ]
 refine do_ rfl (.bool true) (ex_assign _) ?_
 simp only [pS, pN, pA, pC, pZ]
 refine wl_nil (hK166 _ _ ?_)
 refine wp_ret ?_
 (try simp only [Exit.then, Exit.inBlock, ↓reduceIte, Nat.reduceEqDiff])
 refine bodyPost_ret (v := (.bool true)) ?_ rfl ?_
 ·exact res_t rfl rfl
 ·exact ⟨rfl, S170.gr.below⟩
end Go.Proofs.YtikklmjengkliaaDoor
