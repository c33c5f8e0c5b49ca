/- The walk of RootSides -/
import Derived.Test.YtcanckliggcllaaDoorBU8
import Derived.Test.YtcanckliggcllaaDoorBU6
namespace Go.Proofs.YtcanckliggcllaaDoor
open Go.RowKit
set_option maxRecDepth 100000
set_option linter.unusedVariables false
set_option linter.unusedSimpArgs false
theorem sides_ok {n : Nat} {l : List Pr} (h : TreeOk n l) (k : Nat) : TreeOk n (l.take k) ∧ TreeOk n (l.drop k) :=
  ⟨⟨by rw [List.length_take]; have := h.len; omega, fun p hp => h.ok p (List.mem_of_mem_take hp), h.rise.sublist (List.take_sublist _ _)⟩, ⟨by rw [List.length_drop]; have := h.len; omega, fun p hp => h.ok p (List.mem_of_mem_drop hp), h.rise.sublist (List.drop_sublist _ _)⟩⟩
theorem Sl.capD {α : Type} {k : Nat} {R : Fz → List Value → α → Prop} {F : Fz} {a : Option Addr} {n c c' : Nat} {l : List α} (h : Sl k R F (.slice a n c) l) (h1 : n ≤ c') (h2 : c' ≤ c) : Sl k R F (.slice a n c') l := by
  have hn := Sl.len h
  obtain ⟨xs, ⟨a', c0, e1, q1, q2, q3, q4⟩, hr, hk⟩ := h
  injection e1 with e1 e2 e3
  subst e1 e3
  exact ⟨xs, ⟨a, c', by rw [hn], by omega, by omega, fun h => by have := q3 h; omega, q4⟩, hr, hk⟩
theorem Sl.cap3 {α : Type} {k : Nat} {R : Fz → List Value → α → Prop} {F : Fz} {a : Option Addr} {n c m : Nat} {l : List α} (h : Sl k R F (.slice a n c) l) (hm : m ≤ n) : Sl k R F (.slice a m m) (l.take m) := by
  obtain ⟨_, _, e0, e1, _⟩ := h.shape
  injection e0 with _ e2 e3
  exact Sl.capD (Sl.takeN h hm) (Nat.le_refl _) (by omega)
set_option maxHeartbeats 8000000 in
theorem rootSides_walk (W : World) (hT : Tabs W) (v0 : Value) (l0 : List Pr) (z0 : Prs (whole W) v0 l0) :
    Calls Tryd.prog 7 #[v0] W (Tells W (.bool true)) := by
 obtain ⟨i5, hi5, hz5, hs5, hb5⟩ := info_parts infoU8
 obtain ⟨a0, c0, rfl, q0, q0'⟩ := Sl.shape z0
 have S := St.start (Sat.whole W)
 go_enter Tryd.func7, Tryd.ntmps7
 refine wp_seq_k (fun K101 hK101 => region_wl ?_)
 refine do_ rfl (.bool false) (ex_assign _) ?_
 simp only [pS, pN, pA, pC, pZ]
 refine wl_nil (hK101 _ _ ?_)
 refine wp_seq_k (fun K102 hK102 => region_wl ?_)
 refine do_ rfl (.slice a0 l0.length c0) (ex_move _) ?_
 simp only [pS, pN, pA, pC, pZ]
 refine stGivesO PrC.mono S rfl (ex_fn (vs := #[(.slice a0 l0.length c0), (.int .i64 16)]) (map2 rfl rfl) rfl (ent_24 _ _)) (pairs_spec _ _ _ l0 16 (S).sat z0 (by omega)) ?_
 intro v107 w103 F105 S104 le106
 simp only [pS, pN, pA, pC, pZ]
 have S104 : St W (whole W) w103 F105 [] [ownP 2 PrC PrC.mono 38 W.heap.size v107 (pairsN l0 16)] := S104
 obtain ⟨F108, S109, le110, hv111⟩ := St.freeze S104 (i := 0) rfl (Nat.le_refl _)
 have S109 : St W (whole W) w103 F108 [] [] := S109
 have hv111 : Prs _ v107 (pairsN l0 16) := hv111
 obtain ⟨a112, c113, rfl, h114, h115⟩ := Sl.shape hv111
 unfold maxLen at h115
 refine do_ rfl (.slice a112 (pairsN l0 16).length c113) (ex_assign _) ?_
 simp only [pS, pN, pA, pC, pZ]
 refine wl_nil (hK102 _ _ ?_)
 refine wp_seq_k (fun K116 hK116 => ?_)
 refine wp_seq_k (fun K117 hK117 => ?_)
 have hok := pairsN_ok l0 16
 refine region_wl ?_
 refine do_ rfl (.slice a112 (pairsN l0 16).length c113) (ex_move _) ?_
 simp only [pS, pN, pA, pC, pZ]
 refine do_ rfl (.int .i64 (((pairsN l0 16).length : Nat) : Int)) (ex_len Tryd.underlying40 rfl) ?_
 simp only [pS, pN, pA, pC, pZ]
 by_cases hc23 : (pairsN l0 16).length < 2
 ·refine do_ rfl (.bool true) (ex_lss (m := (((pairsN l0 16).length : Nat) : Int)) (n := (2 : Int)) (b := true) rfl rfl (decide_eq_true (by omega))) ?_
  simp only [pS, pN, pA, pC, pZ]
  refine wl_nil (hK117 _ _ ?_)
  refine wp_cond_true rfl ?_
  refine wp_seq_k (fun K118 hK118 => region_wl ?_)
  refine do_ rfl (.slice a112 (pairsN l0 16).length c113) (ex_move _) ?_
  simp only [pS, pN, pA, pC, pZ]
  refine stGives S109 rfl (ex_fn (vs := #[(.slice a112 (pairsN l0 16).length c113)]) (map1 rfl) rfl (ent_22 _ _)) (Root_spec _ _ _ (pairsN l0 16) (S109).sat (hT.at S109.gr.below) hv111 (TreeOk.mono (show TreeOk 16 (pairsN l0 16) from pairsN_ok l0 16) (by omega))) ?_
  intro v124 w119 F121 S120 le122 R123
  obtain ⟨x125, rfl, r126⟩ := R123
  obtain ⟨xa127, xc128, rfl, _⟩ := r126.shape
  have r126 : Bs _ (.slice xa127 (rootT (pairsN l0 16)).length xc128) (rootT (pairsN l0 16)) := r126
  simp only [pS, pN, pA, pC, pZ]
  refine do_ rfl (.tuple #[(.slice xa127 (rootT (pairsN l0 16)).length xc128), (.int .i64 0)]) (ex_move _) ?_
  simp only [pS, pN, pA, pC, pZ]
  refine do_ rfl (.slice xa127 (rootT (pairsN l0 16)).length xc128) (ex_extract rfl rfl) ?_
  simp only [pS, pN, pA, pC, pZ]
  refine do_ rfl (.int .i64 0) (ex_extract rfl rfl) ?_
  simp only [pS, pN, pA, pC, pZ]
  refine do_ rfl (.slice xa127 (rootT (pairsN l0 16)).length xc128) (ex_assign _) ?_
  simp only [pS, pN, pA, pC, pZ]
  refine do_ rfl (.int .i64 0) (ex_assign _) ?_
  simp only [pS, pN, pA, pC, pZ]
  refine wl_nil (hK118 _ _ ?_)
  refine wp_seq_k (fun K129 hK129 => region_wl ?_)
  refine do_ rfl (.int .i64 0) (ex_move _) ?_
  simp only [pS, pN, pA, pC, pZ]
  refine do_ rfl (.bool true) (ex_eql (b := true) rfl rfl (by decide)) ?_
  simp only [pS, pN, pA, pC, pZ]
  refine do_ rfl (.bool true) (ex_move _) ?_
  simp only [pS, pN, pA, pC, pZ]
  refine do_ rfl (.slice xa127 (rootT (pairsN l0 16)).length xc128) (ex_move _) ?_
  simp only [pS, pN, pA, pC, pZ]
  refine do_ rfl (.int .i64 (((rootT (pairsN l0 16)).length : Nat) : Int)) (ex_len Tryd.underlying22 rfl) ?_
  simp only [pS, pN, pA, pC, pZ]
  refine do_ rfl (.bool true) (ex_eql (m := (((rootT (pairsN l0 16)).length : Nat) : Int)) (n := (32 : Int)) (b := true) rfl rfl (beq_iff_eq.2 (by rw [rootT_len]; rfl))) ?_
  simp only [pS, pN, pA, pC, pZ]
  refine do_ rfl (.bool true) (ex_pick (b := true) rfl) ?_
  simp only [pS, pN, pA, pC, pZ]
  refine do_ rfl (.bool true) (ex_assign _) ?_
  simp only [pS, pN, pA, pC, pZ]
  refine wl_nil (hK129 _ _ ?_)
  refine wp_ret ?_
  (try simp only [Exit.then, Exit.inBlock, ↓reduceIte, Nat.reduceEqDiff])
  refine bodyPost_ret (v := (.bool true)) ?_ rfl ?_
  ·exact res_t rfl rfl
  ·exact ⟨rfl, S120.gr.below⟩
 ·refine do_ rfl (.bool false) (ex_lss (m := (((pairsN l0 16).length : Nat) : Int)) (n := (2 : Int)) (b := false) rfl rfl (decide_eq_false (by omega))) ?_
  simp only [pS, pN, pA, pC, pZ]
  refine wl_nil (hK117 _ _ ?_)
  refine wp_cond_false rfl ?_
  refine wp_skip ?_
  refine hK116 _ _ ?_
  refine wp_seq_k (fun K130 hK130 => ?_)
  have hl2 : 2 ≤ (pairsN l0 16).length := by omega
  have hk := hok.keys
  obtain ⟨p0, hp0⟩ : ∃ p, (pairsN l0 16)[0]? = some p := ⟨(pairsN l0 16)[0], List.getElem?_eq_getElem (by omega)⟩
  obtain ⟨p1, hp1⟩ : ∃ p, (pairsN l0 16)[(pairsN l0 16).length - 1]? = some p := ⟨(pairsN l0 16)[(pairsN l0 16).length - 1], List.getElem?_eq_getElem (by omega)⟩
  have hq0 := hk.key p0 (List.mem_of_getElem? hp0)
  have hq1 := hk.key p1 (List.mem_of_getElem? hp1)
  obtain ⟨hb1, hpb, _, _⟩ := bitT_spec hk hl2
  rw [(List.getElem?_eq_some_iff.1 hp0).2, (List.getElem?_eq_some_iff.1 hp1).2] at hpb
  obtain ⟨b131, o132, ha133, xa135, xc136, xa139, xc140, c134, c138, r137, r141⟩ := Prs.get hv111 hp0
  obtain ⟨b142, o143, ha144, xa146, xc147, xa150, xc151, c145, c149, r148, r152⟩ := Prs.get hv111 hp1
  have hq_ := ha133.symm.trans ha144; injection hq_ with hq_; injection hq_ with hq1_ hq2_; subst hq1_; subst hq2_
  refine region_gw F108 16 [(11, .is (.tuple #[(.int .i64 (((bitT (pairsN l0 16)) : Nat) : Int)), (.int .i64 0)]))] (by kernel_rfl) (by kernel_rfl) ?_
  simp only [List.take_succ_cons, List.take_zero]
  refine gw_pure rfl rfl (.slice a112 (pairsN l0 16).length c113) (fun w153 hCw153 => pureAt_of (ex_move _)) ?_
  simp only [pS, pN, pA, pC, pZ]
  refine gw_pure rfl rfl (.pointer (some ⟨b131, o132 + 0 * 2, none⟩)) (fun w153 hCw153 => pureAt_of (ex_at (i := 0) (sz := 2) Tryd.underlying40 (sizeof_38 _) rfl ha133 rfl (by omega) rfl)) ?_
  simp only [pS, pN, pA, pC, pZ]
  refine gw_pure rfl rfl (.pointer (some ⟨b131, o132 + 0 * 2, none⟩)) (fun w153 hCw153 => pureAt_of (ex_field (q := ⟨b131, o132 + 0 * 2, none⟩) rfl (fa_38_0 _ _))) ?_
  simp only [pS, pN, pA, pC, pZ]
  refine gw_pure rfl rfl (.slice xa135 p0.1.length xc136) (fun w153 hCw153 => pureAt_of (ex_load rfl (load1 (nagg_22 _) (St.fz (St.tells S109 hCw153) c134)))) ?_
  simp only [pS, pN, pA, pC, pZ]
  refine gw_pure rfl rfl (.slice a112 (pairsN l0 16).length c113) (fun w153 hCw153 => pureAt_of (ex_move _)) ?_
  simp only [pS, pN, pA, pC, pZ]
  refine gw_pure rfl rfl (.slice a112 (pairsN l0 16).length c113) (fun w153 hCw153 => pureAt_of (ex_move _)) ?_
  simp only [pS, pN, pA, pC, pZ]
  refine gw_pure rfl rfl (.int .i64 (((pairsN l0 16).length : Nat) : Int)) (fun w153 hCw153 => pureAt_of (ex_len Tryd.underlying40 rfl)) ?_
  simp only [pS, pN, pA, pC, pZ]
  refine gw_pure rfl rfl (.int .i64 ((((pairsN l0 16).length - 1) : Nat) : Int)) (fun w153 hCw153 => pureAt_of (ex_sub (m := (((pairsN l0 16).length : Nat) : Int)) (n := (1 : Int)) (r := ((((pairsN l0 16).length - 1) : Nat) : Int)) rfl rfl (by omega) (by omega) (by omega))) ?_
  simp only [pS, pN, pA, pC, pZ]
  refine gw_pure rfl rfl (.pointer (some ⟨b131, o132 + ((pairsN l0 16).length - 1) * 2, none⟩)) (fun w153 hCw153 => pureAt_of (ex_at (i := ((pairsN l0 16).length - 1)) (sz := 2) Tryd.underlying40 (sizeof_38 _) rfl ha133 rfl (by omega) rfl)) ?_
  simp only [pS, pN, pA, pC, pZ]
  refine gw_pure rfl rfl (.pointer (some ⟨b131, o132 + ((pairsN l0 16).length - 1) * 2, none⟩)) (fun w153 hCw153 => pureAt_of (ex_field (q := ⟨b131, o132 + ((pairsN l0 16).length - 1) * 2, none⟩) rfl (fa_38_0 _ _))) ?_
  simp only [pS, pN, pA, pC, pZ]
  refine gw_pure rfl rfl (.slice xa146 p1.1.length xc147) (fun w153 hCw153 => pureAt_of (ex_load rfl (load1 (nagg_22 _) (St.fz (St.tells S109 hCw153) c145)))) ?_
  simp only [pS, pN, pA, pC, pZ]
  refine gw_const rfl rfl (v := (.tuple #[(.int .i64 (((bitT (pairsN l0 16)) : Nat) : Int)), (.int .i64 0)])) (fun w153 hCw153 _ => does_call (ex_fn (vs := #[(.slice xa135 p0.1.length xc136), (.slice xa146 p1.1.length xc147)]) (map2 rfl rfl) rfl (ent_23 _ _)) (call_tells (tells_same (part_at ((St.tells S109 hCw153)).sat r137 r148 hpb hq0 hq1)))) ?_
  simp only [pS, pN, pA, pC, pZ]
  refine gw_pure rfl rfl (.tuple #[(.int .i64 (((bitT (pairsN l0 16)) : Nat) : Int)), (.int .i64 0)]) (fun w153 hCw153 => pureAt_of (ex_move _)) ?_
  simp only [pS, pN, pA, pC, pZ]
  refine gw_pure rfl rfl (.int .i64 (((bitT (pairsN l0 16)) : Nat) : Int)) (fun w153 hCw153 => pureAt_of (ex_extract rfl rfl)) ?_
  simp only [pS, pN, pA, pC, pZ]
  refine gw_pure rfl rfl (.int .i64 0) (fun w153 hCw153 => pureAt_of (ex_extract rfl rfl)) ?_
  simp only [pS, pN, pA, pC, pZ]
  refine gw_pure rfl rfl (.int .i64 (((bitT (pairsN l0 16)) : Nat) : Int)) (fun w153 hCw153 => pureAt_of (ex_assign _)) ?_
  simp only [pS, pN, pA, pC, pZ]
  refine gw_nil ?_
  intro w154 hC156 hF157
  clear hF157
  have S155 := St.tells S109 hC156
  simp only [List.drop_succ_cons, List.drop_zero]
  refine do_ rfl (.int .i64 0) (ex_assign _) ?_
  simp only [pS, pN, pA, pC, pZ]
  refine wl_nil (hK130 _ _ ?_)
  refine wp_seq_k (fun K158 hK158 => region_wl ?_)
  refine do_ rfl (.int .i64 0) (ex_assign _) ?_
  simp only [pS, pN, pA, pC, pZ]
  refine wl_nil (hK158 _ _ ?_)
  refine wp_seq_k (fun K159 hK159 => ?_)
  refine wp_block ?_
  refine wp_loop_g (fun mm aa w161 => ∃ (n : Nat) (u160 : Nat → Value), mm = (pairsN l0 16).length - n ∧ u160 = slots aa ∧ aa = ⟨#[(.slice a0 l0.length c0), undef, (u160 2), (.slice a112 (pairsN l0 16).length c113), undef, undef, (.int .i64 (((bitT (pairsN l0 16)) : Nat) : Int)), (.int .i64 0), (.int .i64 ((n : Nat) : Int)), (u160 9), (u160 10), undef, undef, undef, undef, undef, undef, undef, undef, (.slice a0 l0.length c0), (.slice a112 (pairsN l0 16).length c113), (.slice a112 (pairsN l0 16).length c113), (.int .i64 (((pairsN l0 16).length : Nat) : Int)), (.bool false), undef, undef, undef, undef, undef, undef, undef, undef, undef, undef, undef, undef, (.tuple #[(.int .i64 (((bitT (pairsN l0 16)) : Nat) : Int)), (.int .i64 0)]), (.slice a112 (pairsN l0 16).length c113), (.pointer (some ⟨b131, o132 + 0 * 2, none⟩)), (.pointer (some ⟨b131, o132 + 0 * 2, none⟩)), (.slice xa135 p0.1.length xc136), (.slice a112 (pairsN l0 16).length c113), (.slice a112 (pairsN l0 16).length c113), (.int .i64 (((pairsN l0 16).length : Nat) : Int)), (.int .i64 ((((pairsN l0 16).length - 1) : Nat) : Int)), (.pointer (some ⟨b131, o132 + ((pairsN l0 16).length - 1) * 2, none⟩)), (.pointer (some ⟨b131, o132 + ((pairsN l0 16).length - 1) * 2, none⟩)), (.slice xa146 p1.1.length xc147), (.tuple #[(.int .i64 (((bitT (pairsN l0 16)) : Nat) : Int)), (.int .i64 0)]), (.int .i64 (((bitT (pairsN l0 16)) : Nat) : Int)), (.int .i64 0), (u160 51), (u160 52), (u160 53), (u160 54), (u160 55), (u160 56), (u160 57), (u160 58), (u160 59), (u160 60), (u160 61), (u160 62), (u160 63), (u160 64), (u160 65), (u160 66), (u160 67), (u160 68), (u160 69), undef, undef, undef, undef, undef, undef, undef, undef, undef, undef, undef, undef, undef, undef, undef, undef, undef, undef, undef, undef, undef, undef, undef, undef, undef, undef, undef, undef, undef, undef, undef, undef, undef, undef, undef, undef, undef, undef, undef, undef, undef, undef, undef, undef, undef, undef, undef, undef, undef, undef, undef, undef, undef, undef, undef, undef, undef, undef, undef, undef, undef, undef, undef], []⟩ ∧ St W (whole W) w161 F108 [] [] ∧ (n ≤ (pairsN l0 16).length) ∧ (∀ (i : Nat) (h : i < (pairsN l0 16).length), i < n → bitL (pairsN l0 16)[i].1 (bitT (pairsN l0 16)) = false)) _ ⟨0, _, rfl, rfl, rfl, S155, (by omega), (fun i _ h => by omega)⟩ ?_
  rintro m162 a163 w164 ⟨n, u160, rfl, -, rfl, S165, hn, hlo⟩ K167 hK167
  refine wp_seq_k (fun K168 hK168 => ?_)
  refine wp_seq_k (fun K169 hK169 => region_wl ?_)
  refine do_ rfl (.int .i64 ((n : Nat) : Int)) (ex_move _) ?_
  simp only [pS, pN, pA, pC, pZ]
  refine do_ rfl (.slice a112 (pairsN l0 16).length c113) (ex_move _) ?_
  simp only [pS, pN, pA, pC, pZ]
  refine do_ rfl (.int .i64 (((pairsN l0 16).length : Nat) : Int)) (ex_len Tryd.underlying40 rfl) ?_
  simp only [pS, pN, pA, pC, pZ]
  by_cases hc54 : n < (pairsN l0 16).length
  ·refine do_ rfl (.bool true) (ex_lss (m := ((n : Nat) : Int)) (n := (((pairsN l0 16).length : Nat) : Int)) (b := true) rfl rfl (decide_eq_true (by omega))) ?_
   simp only [pS, pN, pA, pC, pZ]
   refine wl_nil (hK169 _ _ ?_)
   refine wp_cond_true rfl ?_
   refine wp_skip ?_
   refine hK168 _ _ ?_
   refine wp_block ?_
   refine wp_seq_k (fun K170 hK170 => ?_)
   obtain ⟨p, hp⟩ : ∃ p, (pairsN l0 16)[n]? = some p := ⟨(pairsN l0 16)[n], List.getElem?_eq_getElem hc54⟩
   have hpp := hk.key p (List.mem_of_getElem? hp)
   obtain ⟨b171, o172, ha173, xa175, xc176, xa179, xc180, c174, c178, r177, r181⟩ := Prs.get hv111 hp
   refine region_wl ?_
   refine do_ rfl (.slice a112 (pairsN l0 16).length c113) (ex_move _) ?_
   simp only [pS, pN, pA, pC, pZ]
   refine do_ rfl (.int .i64 ((n : Nat) : Int)) (ex_move _) ?_
   simp only [pS, pN, pA, pC, pZ]
   refine do_ rfl (.pointer (some ⟨b171, o172 + n * 2, none⟩)) (ex_at (i := n) (sz := 2) Tryd.underlying40 (sizeof_38 _) rfl ha173 rfl (by omega) rfl) ?_
   simp only [pS, pN, pA, pC, pZ]
   refine do_ rfl (.pointer (some ⟨b171, o172 + n * 2, none⟩)) (ex_field (q := ⟨b171, o172 + n * 2, none⟩) rfl (fa_38_0 _ _)) ?_
   simp only [pS, pN, pA, pC, pZ]
   refine do_ rfl (.slice xa175 p.1.length xc176) (ex_load rfl (load1 (nagg_22 _) (St.fz S165 c174))) ?_
   simp only [pS, pN, pA, pC, pZ]
   refine do_ rfl (.int .i64 (((bitT (pairsN l0 16)) : Nat) : Int)) (ex_move _) ?_
   simp only [pS, pN, pA, pC, pZ]
   refine stTells (v := (.tuple #[(.bool (bitL p.1 (bitT (pairsN l0 16)))), (.int .i64 0)])) S165 rfl (ex_fn (vs := #[(.slice xa175 p.1.length xc176), (.int .i64 (((bitT (pairsN l0 16)) : Nat) : Int))]) (map2 rfl rfl) rfl (ent_25 _ _)) (tells_same (bitE_spec _ _ _ p.1 _ (S165).sat r177 hpp.1 hpp.2 (by omega) (by omega))) (fun w182 S183 => ?_)
   simp only [pS, pN, pA, pC, pZ]
   refine do_ rfl (.tuple #[(.bool (bitL p.1 (bitT (pairsN l0 16)))), (.int .i64 0)]) (ex_move _) ?_
   simp only [pS, pN, pA, pC, pZ]
   refine do_ rfl (.bool (bitL p.1 (bitT (pairsN l0 16)))) (ex_extract rfl rfl) ?_
   simp only [pS, pN, pA, pC, pZ]
   refine do_ rfl (.int .i64 0) (ex_extract rfl rfl) ?_
   simp only [pS, pN, pA, pC, pZ]
   refine do_ rfl (.bool (bitL p.1 (bitT (pairsN l0 16)))) (ex_assign _) ?_
   simp only [pS, pN, pA, pC, pZ]
   refine do_ rfl (.int .i64 0) (ex_assign _) ?_
   simp only [pS, pN, pA, pC, pZ]
   refine wl_nil (hK170 _ _ ?_)
   refine wp_seq_k (fun K184 hK184 => ?_)
   refine wp_seq_k (fun K185 hK185 => region_wl ?_)
   refine do_ rfl (.int .i64 0) (ex_move _) ?_
   simp only [pS, pN, pA, pC, pZ]
   refine do_ rfl (.bool false) (ex_neq (m := (0 : Int)) (n := (0 : Int)) (b := false) rfl rfl (bne_eq_false_iff_eq.2 (by omega))) ?_
   simp only [pS, pN, pA, pC, pZ]
   refine wl_nil (hK185 _ _ ?_)
   refine wp_cond_false rfl ?_
   refine wp_skip ?_
   refine hK184 _ _ ?_
   refine wp_seq_k (fun K186 hK186 => ?_)
   refine wp_seq_k (fun K187 hK187 => region_wl ?_)
   refine do_ rfl (.bool (bitL p.1 (bitT (pairsN l0 16)))) (ex_move _) ?_
   simp only [pS, pN, pA, pC, pZ]
   refine wl_nil (hK187 _ _ ?_)
   refine wp_cond_split rfl (fun hc188 => ?_) (fun hc188 => ?_)
   ·refine wp_exit ?_
    refine hK159 _ _ ?_
    refine wp_seq_k (fun K189 hK189 => ?_)
    have hnl : leftN (bitT (pairsN l0 16)) (pairsN l0 16) = n := leftN_unique hn hlo (fun h => by obtain ⟨_, e⟩ := List.getElem?_eq_some_iff.1 hp; rw [e]; exact hc188)
    have hnn := leftN_spec hk hl2
    rw [hnl] at hnn
    have hfk := rootT_fork hk hl2
    rw [hnl] at hfk
    refine region_wl ?_
    refine do_ rfl (.slice a112 (pairsN l0 16).length c113) (ex_move _) ?_
    simp only [pS, pN, pA, pC, pZ]
    refine do_ rfl (.int .i64 ((n : Nat) : Int)) (ex_move _) ?_
    simp only [pS, pN, pA, pC, pZ]
    refine do_ rfl (.int .i64 ((n : Nat) : Int)) (ex_move _) ?_
    simp only [pS, pN, pA, pC, pZ]
    have r190 : Prs _ (.slice a112 n n) ((pairsN l0 16).take n) := Sl.cap3 hv111 (by omega)
    refine do_ rfl (.slice a112 n n) (ex_slice3_0 (h := n) (m := n) (sz := 2) Tryd.underlying40 rfl (sizeof_38 _) rfl rfl (by omega) (by omega) rfl) ?_
    simp only [pS, pN, pA, pC, pZ]
    refine stGives S183 rfl (ex_fn (vs := #[(.slice a112 n n)]) (map1 rfl) rfl (ent_22 _ _)) (Root_spec _ _ _ ((pairsN l0 16).take n) (S183).sat (hT.at S183.gr.below) r190 ((sides_ok hok n).1.mono (by omega))) ?_
    intro v196 w191 F193 S192 le194 R195
    obtain ⟨x197, rfl, r198⟩ := R195
    obtain ⟨xa199, xc200, rfl, _⟩ := r198.shape
    have r198 : Bs _ (.slice xa199 (rootT ((pairsN l0 16).take n)).length xc200) (rootT ((pairsN l0 16).take n)) := r198
    simp only [pS, pN, pA, pC, pZ]
    refine do_ rfl (.tuple #[(.slice xa199 (rootT ((pairsN l0 16).take n)).length xc200), (.int .i64 0)]) (ex_move _) ?_
    simp only [pS, pN, pA, pC, pZ]
    refine do_ rfl (.slice xa199 (rootT ((pairsN l0 16).take n)).length xc200) (ex_extract rfl rfl) ?_
    simp only [pS, pN, pA, pC, pZ]
    refine do_ rfl (.int .i64 0) (ex_extract rfl rfl) ?_
    simp only [pS, pN, pA, pC, pZ]
    refine do_ rfl (.slice xa199 (rootT ((pairsN l0 16).take n)).length xc200) (ex_assign _) ?_
    simp only [pS, pN, pA, pC, pZ]
    refine do_ rfl (.int .i64 0) (ex_assign _) ?_
    simp only [pS, pN, pA, pC, pZ]
    refine wl_nil (hK189 _ _ ?_)
    refine wp_seq_k (fun K201 hK201 => region_wl ?_)
    refine do_ rfl (.slice a112 (pairsN l0 16).length c113) (ex_move _) ?_
    simp only [pS, pN, pA, pC, pZ]
    refine do_ rfl (.int .i64 ((n : Nat) : Int)) (ex_move _) ?_
    simp only [pS, pN, pA, pC, pZ]
    have r202 : Prs _ (.slice (if c113 = n then a112 else a112.map (·.add (n * 2))) ((pairsN l0 16).length - n) (c113 - n)) ((pairsN l0 16).drop n) := Sl.dropD (by decide) (hv111.mono le194) (by omega)
    refine do_ rfl (.slice (if c113 = n then a112 else a112.map (·.add (n * 2))) ((pairsN l0 16).length - n) (c113 - n)) (ex_slice (l := n) (h := (pairsN l0 16).length) (sz := 2) Tryd.underlying40 rfl (sizeof_38 _) (.inr ⟨_, rfl, rfl⟩) (.inl ⟨rfl, rfl⟩) (by omega) (by omega) (rfl)) ?_
    simp only [pS, pN, pA, pC, pZ]
    refine stGives S192 rfl (ex_fn (vs := #[(.slice (if c113 = n then a112 else a112.map (·.add (n * 2))) ((pairsN l0 16).length - n) (c113 - n))]) (map1 rfl) rfl (ent_22 _ _)) (Root_spec _ _ _ ((pairsN l0 16).drop n) (S192).sat (hT.at S192.gr.below) r202 ((sides_ok hok n).2.mono (by omega))) ?_
    intro v208 w203 F205 S204 le206 R207
    obtain ⟨x209, rfl, r210⟩ := R207
    obtain ⟨xa211, xc212, rfl, _⟩ := r210.shape
    have r210 : Bs _ (.slice xa211 (rootT ((pairsN l0 16).drop n)).length xc212) (rootT ((pairsN l0 16).drop n)) := r210
    simp only [pS, pN, pA, pC, pZ]
    refine do_ rfl (.tuple #[(.slice xa211 (rootT ((pairsN l0 16).drop n)).length xc212), (.int .i64 0)]) (ex_move _) ?_
    simp only [pS, pN, pA, pC, pZ]
    refine do_ rfl (.slice xa211 (rootT ((pairsN l0 16).drop n)).length xc212) (ex_extract rfl rfl) ?_
    simp only [pS, pN, pA, pC, pZ]
    refine do_ rfl (.int .i64 0) (ex_extract rfl rfl) ?_
    simp only [pS, pN, pA, pC, pZ]
    refine do_ rfl (.slice xa211 (rootT ((pairsN l0 16).drop n)).length xc212) (ex_assign _) ?_
    simp only [pS, pN, pA, pC, pZ]
    refine do_ rfl (.int .i64 0) (ex_assign _) ?_
    simp only [pS, pN, pA, pC, pZ]
    refine wl_nil (hK201 _ _ ?_)
    refine wp_seq_k (fun K213 hK213 => region_wl ?_)
    refine do_ rfl (.slice a112 (pairsN l0 16).length c113) (ex_move _) ?_
    simp only [pS, pN, pA, pC, pZ]
    refine stGives S204 rfl (ex_fn (vs := #[(.slice a112 (pairsN l0 16).length c113)]) (map1 rfl) rfl (ent_22 _ _)) (Root_spec _ _ _ (pairsN l0 16) (S204).sat (hT.at S204.gr.below) (hv111.mono (le194.trans le206)) (TreeOk.mono (show TreeOk 16 (pairsN l0 16) from pairsN_ok l0 16) (by omega))) ?_
    intro v219 w214 F216 S215 le217 R218
    obtain ⟨x220, rfl, r221⟩ := R218
    obtain ⟨xa222, xc223, rfl, _⟩ := r221.shape
    have r221 : Bs _ (.slice xa222 (rootT (pairsN l0 16)).length xc223) (rootT (pairsN l0 16)) := r221
    simp only [pS, pN, pA, pC, pZ]
    refine do_ rfl (.tuple #[(.slice xa222 (rootT (pairsN l0 16)).length xc223), (.int .i64 0)]) (ex_move _) ?_
    simp only [pS, pN, pA, pC, pZ]
    refine do_ rfl (.slice xa222 (rootT (pairsN l0 16)).length xc223) (ex_extract rfl rfl) ?_
    simp only [pS, pN, pA, pC, pZ]
    refine do_ rfl (.int .i64 0) (ex_extract rfl rfl) ?_
    simp only [pS, pN, pA, pC, pZ]
    refine do_ rfl (.slice xa222 (rootT (pairsN l0 16)).length xc223) (ex_assign _) ?_
    simp only [pS, pN, pA, pC, pZ]
    refine do_ rfl (.int .i64 0) (ex_assign _) ?_
    simp only [pS, pN, pA, pC, pZ]
    refine wl_nil (hK213 _ _ ?_)
    refine wp_seq_k (fun K224 hK224 => region_wl ?_)
    refine do_ rfl (.int .i64 (((bitT (pairsN l0 16)) : Nat) : Int)) (ex_move _) ?_
    simp only [pS, pN, pA, pC, pZ]
    refine do_ rfl (bv (b8 (bitT (pairsN l0 16)))) (ex_convert (v := (.int .i64 (((bitT (pairsN l0 16)) : Nat) : Int))) rfl (conv_b8 (bitT (pairsN l0 16)) _)) ?_
    simp only [pS, pN, pA, pC, pZ]
    refine stNew S215 (v := fun n => .slice (some ⟨n, 0, none⟩) 1 1) rfl (ex_lit (ps := #[(0, (bv (b8 (bitT (pairsN l0 16)))))]) (cells := #[(bv (b8 (bitT (pairsN l0 16))))]) (E := 5) (bmap1 rfl) (fun w => by kernel_rfl)) (fun n225 w226 S227 => ?_)
    simp only [pS, pN, pA, pC, pZ]
    have S227 : St W (whole W) w226 F216 [⟨n225, [(bv (b8 (bitT (pairsN l0 16))))], 5⟩] [] := S227
    refine do_ rfl (.slice xa199 (rootT ((pairsN l0 16).take n)).length xc200) (ex_move _) ?_
    simp only [pS, pN, pA, pC, pZ]
    refine do_ rfl (.slice xa211 (rootT ((pairsN l0 16).drop n)).length xc212) (ex_move _) ?_
    simp only [pS, pN, pA, pC, pZ]
    refine stNew S227 (v := fun n => .slice (some ⟨n, 0, none⟩) 3 3) rfl (ex_lit (ps := #[(0, (.slice (some ⟨n225, 0, none⟩) 1 1)), (1, (.slice xa199 (rootT ((pairsN l0 16).take n)).length xc200)), (2, (.slice xa211 (rootT ((pairsN l0 16).drop n)).length xc212))]) (cells := #[(.slice (some ⟨n225, 0, none⟩) 1 1), (.slice xa199 (rootT ((pairsN l0 16).take n)).length xc200), (.slice xa211 (rootT ((pairsN l0 16).drop n)).length xc212)]) (E := 22) (bmap3 rfl rfl rfl) (fun w => by kernel_rfl)) (fun n228 w229 S230 => ?_)
    simp only [pS, pN, pA, pC, pZ]
    have S230 : St W (whole W) w229 F216 [⟨n228, [(.slice (some ⟨n225, 0, none⟩) 1 1), (.slice xa199 (rootT ((pairsN l0 16).take n)).length xc200), (.slice xa211 (rootT ((pairsN l0 16).drop n)).length xc212)], 22⟩, ⟨n225, [(bv (b8 (bitT (pairsN l0 16))))], 5⟩] [] := S230
    obtain ⟨S231, le232, hc233⟩ := St.freezeBlk S230 (i := 1) rfl
    have r235 : Bs _ (.slice (some ⟨n225, 0, none⟩) 1 1) ([(b8 (bitT (pairsN l0 16)))] : By) := bs_of_block (l := ([(b8 (bitT (pairsN l0 16)))] : By)) hc233 rfl (by unfold maxLen; simp)
    generalize addF F216 w229 n225 = F234 at *
    have S231 : St W (whole W) w229 F234 [⟨n228, [(.slice (some ⟨n225, 0, none⟩) 1 1), (.slice xa199 (rootT ((pairsN l0 16).take n)).length xc200), (.slice xa211 (rootT ((pairsN l0 16).drop n)).length xc212)], 22⟩] [] := S231
    obtain ⟨S236, le237, hc238⟩ := St.freezeBlk S231 (i := 0) rfl
    have r240 : Lss _ (.slice (some ⟨n228, 0, none⟩) 3 3) ([([(b8 (bitT (pairsN l0 16)))] : By), (rootT ((pairsN l0 16).take n)), (rootT ((pairsN l0 16).drop n))] : List By) := sl_of_block (R := LsC) (l := ([([(b8 (bitT (pairsN l0 16)))] : By), (rootT ((pairsN l0 16).take n)), (rootT ((pairsN l0 16).drop n))] : List By)) (el := [[(.slice (some ⟨n225, 0, none⟩) 1 1)], [(.slice xa199 (rootT ((pairsN l0 16).take n)).length xc200)], [(.slice xa211 (rootT ((pairsN l0 16).drop n)).length xc212)]]) hc238 rfl ⟨⟨_, rfl, (r235.mono le237)⟩, ⟨_, rfl, ((r198.mono ((le206.trans le217).trans le232)).mono le237)⟩, ⟨_, rfl, ((r210.mono (le217.trans le232)).mono le237)⟩, trivial⟩ (by simp) (by unfold maxLen; simp)
    generalize addF F234 w229 n228 = F239 at *
    have S236 : St W (whole W) w229 F239 [] [] := S236
    refine stGives S236 rfl (ex_fn (vs := #[(.int .u8 2), (.slice (some ⟨n228, 0, none⟩) 3 3)]) (map2 rfl rfl) rfl (ent_20 _ _)) (Parts_spec _ _ _ 2 [([(b8 (bitT (pairsN l0 16)))] : By), (rootT ((pairsN l0 16).take n)), (rootT ((pairsN l0 16).drop n))] (S236).sat (hT.at S236.gr.below) r240 (by simp [partB_len, rootT_len]; try omega)) ?_
    intro v246 w241 F243 S242 le244 R245
    obtain ⟨x247, rfl, r248⟩ := R245
    obtain ⟨xa249, xc250, rfl, _⟩ := r248.shape
    have r248 : Bs _ (.slice xa249 (partsL 2 [([(b8 (bitT (pairsN l0 16)))] : By), (rootT ((pairsN l0 16).take n)), (rootT ((pairsN l0 16).drop n))]).length xc250) (partsL 2 [([(b8 (bitT (pairsN l0 16)))] : By), (rootT ((pairsN l0 16).take n)), (rootT ((pairsN l0 16).drop n))]) := r248
    simp only [pS, pN, pA, pC, pZ]
    refine do_ rfl (.tuple #[(.slice xa249 (partsL 2 [([(b8 (bitT (pairsN l0 16)))] : By), (rootT ((pairsN l0 16).take n)), (rootT ((pairsN l0 16).drop n))]).length xc250), (.int .i64 0)]) (ex_move _) ?_
    simp only [pS, pN, pA, pC, pZ]
    refine do_ rfl (.slice xa249 (partsL 2 [([(b8 (bitT (pairsN l0 16)))] : By), (rootT ((pairsN l0 16).take n)), (rootT ((pairsN l0 16).drop n))]).length xc250) (ex_extract rfl rfl) ?_
    simp only [pS, pN, pA, pC, pZ]
    refine do_ rfl (.int .i64 0) (ex_extract rfl rfl) ?_
    simp only [pS, pN, pA, pC, pZ]
    refine do_ rfl (.slice xa249 (partsL 2 [([(b8 (bitT (pairsN l0 16)))] : By), (rootT ((pairsN l0 16).take n)), (rootT ((pairsN l0 16).drop n))]).length xc250) (ex_assign _) ?_
    simp only [pS, pN, pA, pC, pZ]
    refine do_ rfl (.int .i64 0) (ex_assign _) ?_
    simp only [pS, pN, pA, pC, pZ]
    refine wl_nil (hK224 _ _ ?_)
    refine wp_seq_k (fun K251 hK251 => region_wl ?_)
    refine do_ rfl (.int .i64 0) (ex_move _) ?_
    simp only [pS, pN, pA, pC, pZ]
    refine do_ rfl (.bool true) (ex_eql (b := true) rfl rfl (by decide)) ?_
    simp only [pS, pN, pA, pC, pZ]
    refine do_ rfl (.bool true) (ex_move _) ?_
    simp only [pS, pN, pA, pC, pZ]
    refine do_ rfl (.int .i64 0) (ex_move _) ?_
    simp only [pS, pN, pA, pC, pZ]
    refine do_ rfl (.bool true) (ex_eql (b := true) rfl rfl (by decide)) ?_
    simp only [pS, pN, pA, pC, pZ]
    refine do_ rfl (.bool true) (ex_pick (b := true) rfl) ?_
    simp only [pS, pN, pA, pC, pZ]
    refine do_ rfl (.bool true) (ex_move _) ?_
    simp only [pS, pN, pA, pC, pZ]
    refine do_ rfl (.int .i64 0) (ex_move _) ?_
    simp only [pS, pN, pA, pC, pZ]
    refine do_ rfl (.bool true) (ex_eql (b := true) rfl rfl (by decide)) ?_
    simp only [pS, pN, pA, pC, pZ]
    refine do_ rfl (.bool true) (ex_pick (b := true) rfl) ?_
    simp only [pS, pN, pA, pC, pZ]
    refine do_ rfl (.bool true) (ex_move _) ?_
    simp only [pS, pN, pA, pC, pZ]
    refine do_ rfl (.int .i64 0) (ex_move _) ?_
    simp only [pS, pN, pA, pC, pZ]
    refine do_ rfl (.bool true) (ex_eql (b := true) rfl rfl (by decide)) ?_
    simp only [pS, pN, pA, pC, pZ]
    refine do_ rfl (.bool true) (ex_pick (b := true) rfl) ?_
    simp only [pS, pN, pA, pC, pZ]
    refine do_ rfl (.bool true) (ex_move _) ?_
    simp only [pS, pN, pA, pC, pZ]
    refine do_ rfl (.int .i64 0) (ex_move _) ?_
    simp only [pS, pN, pA, pC, pZ]
    refine do_ rfl (.bool true) (ex_eql (b := true) rfl rfl (by decide)) ?_
    simp only [pS, pN, pA, pC, pZ]
    refine do_ rfl (.bool true) (ex_pick (b := true) rfl) ?_
    simp only [pS, pN, pA, pC, pZ]
    refine do_ rfl (.bool true) (ex_move _) ?_
    simp only [pS, pN, pA, pC, pZ]
    refine do_ rfl (.slice xa222 (rootT (pairsN l0 16)).length xc223) (ex_move _) ?_
    simp only [pS, pN, pA, pC, pZ]
    refine do_ rfl (.slice xa249 (partsL 2 [([(b8 (bitT (pairsN l0 16)))] : By), (rootT ((pairsN l0 16).take n)), (rootT ((pairsN l0 16).drop n))]).length xc250) (ex_move _) ?_
    simp only [pS, pN, pA, pC, pZ]
    refine stTells (v := (.bool true)) S242 rfl (ex_fn (vs := #[(.slice xa222 (rootT (pairsN l0 16)).length xc223), (.slice xa249 (partsL 2 [([(b8 (bitT (pairsN l0 16)))] : By), (rootT ((pairsN l0 16).take n)), (rootT ((pairsN l0 16).drop n))]).length xc250)]) (map2 rfl rfl) rfl (ent_16 _ _)) (tells_bool (tells_same (same_spec _ _ _ _ (rootT (pairsN l0 16)) (partsL 2 [([(b8 (bitT (pairsN l0 16)))] : By), (rootT ((pairsN l0 16).take n)), (rootT ((pairsN l0 16).drop n))]) (S242).sat (r221.mono ((le232.trans le237).trans le244)) r248)) (beq_iff_eq.2 (hfk))) (fun w252 S253 => ?_)
    simp only [pS, pN, pA, pC, pZ]
    refine do_ rfl (.bool true) (ex_pick (b := true) rfl) ?_
    simp only [pS, pN, pA, pC, pZ]
    refine do_ rfl (.bool true) (ex_move _) ?_
    simp only [pS, pN, pA, pC, pZ]
    refine do_ rfl (.int .i64 ((n : Nat) : Int)) (ex_move _) ?_
    simp only [pS, pN, pA, pC, pZ]
    refine do_ rfl (.bool true) (ex_gtr (m := ((n : Nat) : Int)) (n := (0 : Int)) (b := true) rfl rfl (decide_eq_true (by omega))) ?_
    simp only [pS, pN, pA, pC, pZ]
    refine do_ rfl (.bool true) (ex_pick (b := true) rfl) ?_
    simp only [pS, pN, pA, pC, pZ]
    refine do_ rfl (.bool true) (ex_move _) ?_
    simp only [pS, pN, pA, pC, pZ]
    refine do_ rfl (.int .i64 ((n : Nat) : Int)) (ex_move _) ?_
    simp only [pS, pN, pA, pC, pZ]
    refine do_ rfl (.slice a112 (pairsN l0 16).length c113) (ex_move _) ?_
    simp only [pS, pN, pA, pC, pZ]
    refine do_ rfl (.int .i64 (((pairsN l0 16).length : Nat) : Int)) (ex_len Tryd.underlying40 rfl) ?_
    simp only [pS, pN, pA, pC, pZ]
    refine do_ rfl (.bool true) (ex_lss (m := ((n : Nat) : Int)) (n := (((pairsN l0 16).length : Nat) : Int)) (b := true) rfl rfl (decide_eq_true (by omega))) ?_
    simp only [pS, pN, pA, pC, pZ]
    refine do_ rfl (.bool true) (ex_pick (b := true) rfl) ?_
    simp only [pS, pN, pA, pC, pZ]
    refine do_ rfl (.bool true) (ex_assign _) ?_
    simp only [pS, pN, pA, pC, pZ]
    refine wl_nil (hK251 _ _ ?_)
    refine wp_ret ?_
    (try simp only [Exit.then, Exit.inBlock, ↓reduceIte, Nat.reduceEqDiff])
    refine bodyPost_ret (v := (.bool true)) ?_ rfl ?_
    ·exact res_t rfl rfl
    ·exact ⟨rfl, S253.gr.below⟩
   ·refine wp_skip ?_
    refine hK186 _ _ ?_
    refine region_wl ?_
    refine do_ rfl (.int .i64 ((n : Nat) : Int)) (ex_move _) ?_
    simp only [pS, pN, pA, pC, pZ]
    refine do_ rfl (.int .i64 (((n + 1) : Nat) : Int)) (ex_add (m := ((n : Nat) : Int)) (n := (1 : Int)) (r := (((n + 1) : Nat) : Int)) rfl rfl (by omega) (by omega) (by omega)) ?_
    simp only [pS, pN, pA, pC, pZ]
    refine do_ rfl (.int .i64 (((n + 1) : Nat) : Int)) (ex_assign _) ?_
    simp only [pS, pN, pA, pC, pZ]
    refine wl_nil ?_
    exact hK167 _ _ _ (by omega) ⟨(n + 1), _, rfl, rfl, rfl, S183, (by omega), (low_step hlo hp hc188)⟩
  ·refine do_ rfl (.bool false) (ex_lss (m := ((n : Nat) : Int)) (n := (((pairsN l0 16).length : Nat) : Int)) (b := false) rfl rfl (decide_eq_false (by omega))) ?_
   simp only [pS, pN, pA, pC, pZ]
   refine wl_nil (hK169 _ _ ?_)
   refine wp_cond_false rfl ?_
   refine wp_exit ?_
   refine hK159 _ _ ?_
   refine wp_seq_k (fun K254 hK254 => ?_)
   have hnl : leftN (bitT (pairsN l0 16)) (pairsN l0 16) = n := leftN_unique hn hlo (fun h => by omega)
   have hnn := leftN_spec hk hl2
   rw [hnl] at hnn
   have hfk := rootT_fork hk hl2
   rw [hnl] at hfk
   refine region_wl ?_
   refine do_ rfl (.slice a112 (pairsN l0 16).length c113) (ex_move _) ?_
   simp only [pS, pN, pA, pC, pZ]
   refine do_ rfl (.int .i64 ((n : Nat) : Int)) (ex_move _) ?_
   simp only [pS, pN, pA, pC, pZ]
   refine do_ rfl (.int .i64 ((n : Nat) : Int)) (ex_move _) ?_
   simp only [pS, pN, pA, pC, pZ]
   have r255 : Prs _ (.slice a112 n n) ((pairsN l0 16).take n) := Sl.cap3 hv111 (by omega)
   refine do_ rfl (.slice a112 n n) (ex_slice3_0 (h := n) (m := n) (sz := 2) Tryd.underlying40 rfl (sizeof_38 _) rfl rfl (by omega) (by omega) rfl) ?_
   simp only [pS, pN, pA, pC, pZ]
   refine stGives S165 rfl (ex_fn (vs := #[(.slice a112 n n)]) (map1 rfl) rfl (ent_22 _ _)) (Root_spec _ _ _ ((pairsN l0 16).take n) (S165).sat (hT.at S165.gr.below) r255 ((sides_ok hok n).1.mono (by omega))) ?_
   intro v261 w256 F258 S257 le259 R260
   obtain ⟨x262, rfl, r263⟩ := R260
   obtain ⟨xa264, xc265, rfl, _⟩ := r263.shape
   have r263 : Bs _ (.slice xa264 (rootT ((pairsN l0 16).take n)).length xc265) (rootT ((pairsN l0 16).take n)) := r263
   simp only [pS, pN, pA, pC, pZ]
   refine do_ rfl (.tuple #[(.slice xa264 (rootT ((pairsN l0 16).take n)).length xc265), (.int .i64 0)]) (ex_move _) ?_
   simp only [pS, pN, pA, pC, pZ]
   refine do_ rfl (.slice xa264 (rootT ((pairsN l0 16).take n)).length xc265) (ex_extract rfl rfl) ?_
   simp only [pS, pN, pA, pC, pZ]
   refine do_ rfl (.int .i64 0) (ex_extract rfl rfl) ?_
   simp only [pS, pN, pA, pC, pZ]
   refine do_ rfl (.slice xa264 (rootT ((pairsN l0 16).take n)).length xc265) (ex_assign _) ?_
   simp only [pS, pN, pA, pC, pZ]
   refine do_ rfl (.int .i64 0) (ex_assign _) ?_
   simp only [pS, pN, pA, pC, pZ]
   refine wl_nil (hK254 _ _ ?_)
   refine wp_seq_k (fun K266 hK266 => region_wl ?_)
   refine do_ rfl (.slice a112 (pairsN l0 16).length c113) (ex_move _) ?_
   simp only [pS, pN, pA, pC, pZ]
   refine do_ rfl (.int .i64 ((n : Nat) : Int)) (ex_move _) ?_
   simp only [pS, pN, pA, pC, pZ]
   have r267 : Prs _ (.slice (if c113 = n then a112 else a112.map (·.add (n * 2))) ((pairsN l0 16).length - n) (c113 - n)) ((pairsN l0 16).drop n) := Sl.dropD (by decide) (hv111.mono le259) (by omega)
   refine do_ rfl (.slice (if c113 = n then a112 else a112.map (·.add (n * 2))) ((pairsN l0 16).length - n) (c113 - n)) (ex_slice (l := n) (h := (pairsN l0 16).length) (sz := 2) Tryd.underlying40 rfl (sizeof_38 _) (.inr ⟨_, rfl, rfl⟩) (.inl ⟨rfl, rfl⟩) (by omega) (by omega) (rfl)) ?_
   simp only [pS, pN, pA, pC, pZ]
   refine stGives S257 rfl (ex_fn (vs := #[(.slice (if c113 = n then a112 else a112.map (·.add (n * 2))) ((pairsN l0 16).length - n) (c113 - n))]) (map1 rfl) rfl (ent_22 _ _)) (Root_spec _ _ _ ((pairsN l0 16).drop n) (S257).sat (hT.at S257.gr.below) r267 ((sides_ok hok n).2.mono (by omega))) ?_
   intro v273 w268 F270 S269 le271 R272
   obtain ⟨x274, rfl, r275⟩ := R272
   obtain ⟨xa276, xc277, rfl, _⟩ := r275.shape
   have r275 : Bs _ (.slice xa276 (rootT ((pairsN l0 16).drop n)).length xc277) (rootT ((pairsN l0 16).drop n)) := r275
   simp only [pS, pN, pA, pC, pZ]
   refine do_ rfl (.tuple #[(.slice xa276 (rootT ((pairsN l0 16).drop n)).length xc277), (.int .i64 0)]) (ex_move _) ?_
   simp only [pS, pN, pA, pC, pZ]
   refine do_ rfl (.slice xa276 (rootT ((pairsN l0 16).drop n)).length xc277) (ex_extract rfl rfl) ?_
   simp only [pS, pN, pA, pC, pZ]
   refine do_ rfl (.int .i64 0) (ex_extract rfl rfl) ?_
   simp only [pS, pN, pA, pC, pZ]
   refine do_ rfl (.slice xa276 (rootT ((pairsN l0 16).drop n)).length xc277) (ex_assign _) ?_
   simp only [pS, pN, pA, pC, pZ]
   refine do_ rfl (.int .i64 0) (ex_assign _) ?_
   simp only [pS, pN, pA, pC, pZ]
   refine wl_nil (hK266 _ _ ?_)
   refine wp_seq_k (fun K278 hK278 => region_wl ?_)
   refine do_ rfl (.slice a112 (pairsN l0 16).length c113) (ex_move _) ?_
   simp only [pS, pN, pA, pC, pZ]
   refine stGives S269 rfl (ex_fn (vs := #[(.slice a112 (pairsN l0 16).length c113)]) (map1 rfl) rfl (ent_22 _ _)) (Root_spec _ _ _ (pairsN l0 16) (S269).sat (hT.at S269.gr.below) (hv111.mono (le259.trans le271)) (TreeOk.mono (show TreeOk 16 (pairsN l0 16) from pairsN_ok l0 16) (by omega))) ?_
   intro v284 w279 F281 S280 le282 R283
   obtain ⟨x285, rfl, r286⟩ := R283
   obtain ⟨xa287, xc288, rfl, _⟩ := r286.shape
   have r286 : Bs _ (.slice xa287 (rootT (pairsN l0 16)).length xc288) (rootT (pairsN l0 16)) := r286
   simp only [pS, pN, pA, pC, pZ]
   refine do_ rfl (.tuple #[(.slice xa287 (rootT (pairsN l0 16)).length xc288), (.int .i64 0)]) (ex_move _) ?_
   simp only [pS, pN, pA, pC, pZ]
   refine do_ rfl (.slice xa287 (rootT (pairsN l0 16)).length xc288) (ex_extract rfl rfl) ?_
   simp only [pS, pN, pA, pC, pZ]
   refine do_ rfl (.int .i64 0) (ex_extract rfl rfl) ?_
   simp only [pS, pN, pA, pC, pZ]
   refine do_ rfl (.slice xa287 (rootT (pairsN l0 16)).length xc288) (ex_assign _) ?_
   simp only [pS, pN, pA, pC, pZ]
   refine do_ rfl (.int .i64 0) (ex_assign _) ?_
   simp only [pS, pN, pA, pC, pZ]
   refine wl_nil (hK278 _ _ ?_)
   refine wp_seq_k (fun K289 hK289 => region_wl ?_)
   refine do_ rfl (.int .i64 (((bitT (pairsN l0 16)) : Nat) : Int)) (ex_move _) ?_
   simp only [pS, pN, pA, pC, pZ]
   refine do_ rfl (bv (b8 (bitT (pairsN l0 16)))) (ex_convert (v := (.int .i64 (((bitT (pairsN l0 16)) : Nat) : Int))) rfl (conv_b8 (bitT (pairsN l0 16)) _)) ?_
   simp only [pS, pN, pA, pC, pZ]
   refine stNew S280 (v := fun n => .slice (some ⟨n, 0, none⟩) 1 1) rfl (ex_lit (ps := #[(0, (bv (b8 (bitT (pairsN l0 16)))))]) (cells := #[(bv (b8 (bitT (pairsN l0 16))))]) (E := 5) (bmap1 rfl) (fun w => by kernel_rfl)) (fun n290 w291 S292 => ?_)
   simp only [pS, pN, pA, pC, pZ]
   have S292 : St W (whole W) w291 F281 [⟨n290, [(bv (b8 (bitT (pairsN l0 16))))], 5⟩] [] := S292
   refine do_ rfl (.slice xa264 (rootT ((pairsN l0 16).take n)).length xc265) (ex_move _) ?_
   simp only [pS, pN, pA, pC, pZ]
   refine do_ rfl (.slice xa276 (rootT ((pairsN l0 16).drop n)).length xc277) (ex_move _) ?_
   simp only [pS, pN, pA, pC, pZ]
   refine stNew S292 (v := fun n => .slice (some ⟨n, 0, none⟩) 3 3) rfl (ex_lit (ps := #[(0, (.slice (some ⟨n290, 0, none⟩) 1 1)), (1, (.slice xa264 (rootT ((pairsN l0 16).take n)).length xc265)), (2, (.slice xa276 (rootT ((pairsN l0 16).drop n)).length xc277))]) (cells := #[(.slice (some ⟨n290, 0, none⟩) 1 1), (.slice xa264 (rootT ((pairsN l0 16).take n)).length xc265), (.slice xa276 (rootT ((pairsN l0 16).drop n)).length xc277)]) (E := 22) (bmap3 rfl rfl rfl) (fun w => by kernel_rfl)) (fun n293 w294 S295 => ?_)
   simp only [pS, pN, pA, pC, pZ]
   have S295 : St W (whole W) w294 F281 [⟨n293, [(.slice (some ⟨n290, 0, none⟩) 1 1), (.slice xa264 (rootT ((pairsN l0 16).take n)).length xc265), (.slice xa276 (rootT ((pairsN l0 16).drop n)).length xc277)], 22⟩, ⟨n290, [(bv (b8 (bitT (pairsN l0 16))))], 5⟩] [] := S295
   obtain ⟨S296, le297, hc298⟩ := St.freezeBlk S295 (i := 1) rfl
   have r300 : Bs _ (.slice (some ⟨n290, 0, none⟩) 1 1) ([(b8 (bitT (pairsN l0 16)))] : By) := bs_of_block (l := ([(b8 (bitT (pairsN l0 16)))] : By)) hc298 rfl (by unfold maxLen; simp)
   generalize addF F281 w294 n290 = F299 at *
   have S296 : St W (whole W) w294 F299 [⟨n293, [(.slice (some ⟨n290, 0, none⟩) 1 1), (.slice xa264 (rootT ((pairsN l0 16).take n)).length xc265), (.slice xa276 (rootT ((pairsN l0 16).drop n)).length xc277)], 22⟩] [] := S296
   obtain ⟨S301, le302, hc303⟩ := St.freezeBlk S296 (i := 0) rfl
   have r305 : Lss _ (.slice (some ⟨n293, 0, none⟩) 3 3) ([([(b8 (bitT (pairsN l0 16)))] : By), (rootT ((pairsN l0 16).take n)), (rootT ((pairsN l0 16).drop n))] : List By) := sl_of_block (R := LsC) (l := ([([(b8 (bitT (pairsN l0 16)))] : By), (rootT ((pairsN l0 16).take n)), (rootT ((pairsN l0 16).drop n))] : List By)) (el := [[(.slice (some ⟨n290, 0, none⟩) 1 1)], [(.slice xa264 (rootT ((pairsN l0 16).take n)).length xc265)], [(.slice xa276 (rootT ((pairsN l0 16).drop n)).length xc277)]]) hc303 rfl ⟨⟨_, rfl, (r300.mono le302)⟩, ⟨_, rfl, ((r263.mono ((le271.trans le282).trans le297)).mono le302)⟩, ⟨_, rfl, ((r275.mono (le282.trans le297)).mono le302)⟩, trivial⟩ (by simp) (by unfold maxLen; simp)
   generalize addF F299 w294 n293 = F304 at *
   have S301 : St W (whole W) w294 F304 [] [] := S301
   refine stGives S301 rfl (ex_fn (vs := #[(.int .u8 2), (.slice (some ⟨n293, 0, none⟩) 3 3)]) (map2 rfl rfl) rfl (ent_20 _ _)) (Parts_spec _ _ _ 2 [([(b8 (bitT (pairsN l0 16)))] : By), (rootT ((pairsN l0 16).take n)), (rootT ((pairsN l0 16).drop n))] (S301).sat (hT.at S301.gr.below) r305 (by simp [partB_len, rootT_len]; try omega)) ?_
   intro v311 w306 F308 S307 le309 R310
   obtain ⟨x312, rfl, r313⟩ := R310
   obtain ⟨xa314, xc315, rfl, _⟩ := r313.shape
   have r313 : Bs _ (.slice xa314 (partsL 2 [([(b8 (bitT (pairsN l0 16)))] : By), (rootT ((pairsN l0 16).take n)), (rootT ((pairsN l0 16).drop n))]).length xc315) (partsL 2 [([(b8 (bitT (pairsN l0 16)))] : By), (rootT ((pairsN l0 16).take n)), (rootT ((pairsN l0 16).drop n))]) := r313
   simp only [pS, pN, pA, pC, pZ]
   refine do_ rfl (.tuple #[(.slice xa314 (partsL 2 [([(b8 (bitT (pairsN l0 16)))] : By), (rootT ((pairsN l0 16).take n)), (rootT ((pairsN l0 16).drop n))]).length xc315), (.int .i64 0)]) (ex_move _) ?_
   simp only [pS, pN, pA, pC, pZ]
   refine do_ rfl (.slice xa314 (partsL 2 [([(b8 (bitT (pairsN l0 16)))] : By), (rootT ((pairsN l0 16).take n)), (rootT ((pairsN l0 16).drop n))]).length xc315) (ex_extract rfl rfl) ?_
   simp only [pS, pN, pA, pC, pZ]
   refine do_ rfl (.int .i64 0) (ex_extract rfl rfl) ?_
   simp only [pS, pN, pA, pC, pZ]
   refine do_ rfl (.slice xa314 (partsL 2 [([(b8 (bitT (pairsN l0 16)))] : By), (rootT ((pairsN l0 16).take n)), (rootT ((pairsN l0 16).drop n))]).length xc315) (ex_assign _) ?_
   simp only [pS, pN, pA, pC, pZ]
   refine do_ rfl (.int .i64 0) (ex_assign _) ?_
   simp only [pS, pN, pA, pC, pZ]
   refine wl_nil (hK289 _ _ ?_)
   refine wp_seq_k (fun K316 hK316 => region_wl ?_)
   refine do_ rfl (.int .i64 0) (ex_move _) ?_
   simp only [pS, pN, pA, pC, pZ]
   refine do_ rfl (.bool true) (ex_eql (b := true) rfl rfl (by decide)) ?_
   simp only [pS, pN, pA, pC, pZ]
   refine do_ rfl (.bool true) (ex_move _) ?_
   simp only [pS, pN, pA, pC, pZ]
   refine do_ rfl (.int .i64 0) (ex_move _) ?_
   simp only [pS, pN, pA, pC, pZ]
   refine do_ rfl (.bool true) (ex_eql (b := true) rfl rfl (by decide)) ?_
   simp only [pS, pN, pA, pC, pZ]
   refine do_ rfl (.bool true) (ex_pick (b := true) rfl) ?_
   simp only [pS, pN, pA, pC, pZ]
   refine do_ rfl (.bool true) (ex_move _) ?_
   simp only [pS, pN, pA, pC, pZ]
   refine do_ rfl (.int .i64 0) (ex_move _) ?_
   simp only [pS, pN, pA, pC, pZ]
   refine do_ rfl (.bool true) (ex_eql (b := true) rfl rfl (by decide)) ?_
   simp only [pS, pN, pA, pC, pZ]
   refine do_ rfl (.bool true) (ex_pick (b := true) rfl) ?_
   simp only [pS, pN, pA, pC, pZ]
   refine do_ rfl (.bool true) (ex_move _) ?_
   simp only [pS, pN, pA, pC, pZ]
   refine do_ rfl (.int .i64 0) (ex_move _) ?_
   simp only [pS, pN, pA, pC, pZ]
   refine do_ rfl (.bool true) (ex_eql (b := true) rfl rfl (by decide)) ?_
   simp only [pS, pN, pA, pC, pZ]
   refine do_ rfl (.bool true) (ex_pick (b := true) rfl) ?_
   simp only [pS, pN, pA, pC, pZ]
   refine do_ rfl (.bool true) (ex_move _) ?_
   simp only [pS, pN, pA, pC, pZ]
   refine do_ rfl (.int .i64 0) (ex_move _) ?_
   simp only [pS, pN, pA, pC, pZ]
   refine do_ rfl (.bool true) (ex_eql (b := true) rfl rfl (by decide)) ?_
   simp only [pS, pN, pA, pC, pZ]
   refine do_ rfl (.bool true) (ex_pick (b := true) rfl) ?_
   simp only [pS, pN, pA, pC, pZ]
   refine do_ rfl (.bool true) (ex_move _) ?_
   simp only [pS, pN, pA, pC, pZ]
   refine do_ rfl (.slice xa287 (rootT (pairsN l0 16)).length xc288) (ex_move _) ?_
   simp only [pS, pN, pA, pC, pZ]
   refine do_ rfl (.slice xa314 (partsL 2 [([(b8 (bitT (pairsN l0 16)))] : By), (rootT ((pairsN l0 16).take n)), (rootT ((pairsN l0 16).drop n))]).length xc315) (ex_move _) ?_
   simp only [pS, pN, pA, pC, pZ]
   refine stTells (v := (.bool true)) S307 rfl (ex_fn (vs := #[(.slice xa287 (rootT (pairsN l0 16)).length xc288), (.slice xa314 (partsL 2 [([(b8 (bitT (pairsN l0 16)))] : By), (rootT ((pairsN l0 16).take n)), (rootT ((pairsN l0 16).drop n))]).length xc315)]) (map2 rfl rfl) rfl (ent_16 _ _)) (tells_bool (tells_same (same_spec _ _ _ _ (rootT (pairsN l0 16)) (partsL 2 [([(b8 (bitT (pairsN l0 16)))] : By), (rootT ((pairsN l0 16).take n)), (rootT ((pairsN l0 16).drop n))]) (S307).sat (r286.mono ((le297.trans le302).trans le309)) r313)) (beq_iff_eq.2 (hfk))) (fun w317 S318 => ?_)
   simp only [pS, pN, pA, pC, pZ]
   refine do_ rfl (.bool true) (ex_pick (b := true) rfl) ?_
   simp only [pS, pN, pA, pC, pZ]
   refine do_ rfl (.bool true) (ex_move _) ?_
   simp only [pS, pN, pA, pC, pZ]
   refine do_ rfl (.int .i64 ((n : Nat) : Int)) (ex_move _) ?_
   simp only [pS, pN, pA, pC, pZ]
   refine do_ rfl (.bool true) (ex_gtr (m := ((n : Nat) : Int)) (n := (0 : Int)) (b := true) rfl rfl (decide_eq_true (by omega))) ?_
   simp only [pS, pN, pA, pC, pZ]
   refine do_ rfl (.bool true) (ex_pick (b := true) rfl) ?_
   simp only [pS, pN, pA, pC, pZ]
   refine do_ rfl (.bool true) (ex_move _) ?_
   simp only [pS, pN, pA, pC, pZ]
   refine do_ rfl (.int .i64 ((n : Nat) : Int)) (ex_move _) ?_
   simp only [pS, pN, pA, pC, pZ]
   refine do_ rfl (.slice a112 (pairsN l0 16).length c113) (ex_move _) ?_
   simp only [pS, pN, pA, pC, pZ]
   refine do_ rfl (.int .i64 (((pairsN l0 16).length : Nat) : Int)) (ex_len Tryd.underlying40 rfl) ?_
   simp only [pS, pN, pA, pC, pZ]
   refine do_ rfl (.bool true) (ex_lss (m := ((n : Nat) : Int)) (n := (((pairsN l0 16).length : Nat) : Int)) (b := true) rfl rfl (decide_eq_true (by omega))) ?_
   simp only [pS, pN, pA, pC, pZ]
   refine do_ rfl (.bool true) (ex_pick (b := true) rfl) ?_
   simp only [pS, pN, pA, pC, pZ]
   refine do_ rfl (.bool true) (ex_assign _) ?_
   simp only [pS, pN, pA, pC, pZ]
   refine wl_nil (hK316 _ _ ?_)
   refine wp_ret ?_
   (try simp only [Exit.then, Exit.inBlock, ↓reduceIte, Nat.reduceEqDiff])
   refine bodyPost_ret (v := (.bool true)) ?_ rfl ?_
   ·exact res_t rfl rfl
   ·exact ⟨rfl, S318.gr.below⟩
end Go.Proofs.YtcanckliggcllaaDoor
