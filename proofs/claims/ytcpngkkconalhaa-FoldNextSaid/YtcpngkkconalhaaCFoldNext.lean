/- The walk of FoldNext -/
import Derived.Test.YtcpngkkconalhaaY9
namespace Go.Proofs.Ytcpngkkconalhaa
open Go.RowKit
set_option maxRecDepth 100000
set_option linter.unusedVariables false
set_option linter.unusedSimpArgs false
theorem foldZero_spec (F : Fz) (w : World) (hs : Sat w F) :
    Calls Try.prog 33 #[.slice none 0 0, .int .i64 0] w (Gives w F (TnsE [] 0)) :=
  fold_spec F w _ [] 0 hs (Sl.nil _ _ _) (HistOk.nil 0) (by omega) (by simp) (by simp)
set_option maxHeartbeats 8000000 in
theorem foldNext_walk (W : World) (v0 : Value) (l0 : List Pl) (z0 : Pls (whole W) v0 l0) (x1 : Int) (b1 : -9223372036854775808 ≤ x1) (b1' : x1 ≤ 9223372036854775807) :
    Calls Try.prog 6 #[v0, .int .i64 x1] W (Tells W (.bool true)) := by
 obtain ⟨a0, c0, rfl, q0, q0'⟩ := Sl.shape z0
 have S := St.start (Sat.whole W)
 go_enter Try.func6, Try.ntmps6
 refine wp_seq_k (fun K1 hK1 => region_wl ?_)
 refine do_ rfl (.bool false) (ex_assign _) ?_
 simp only [pS, pN, pA, pC, pZ]
 refine wl_nil (hK1 _ _ ?_)
 refine wp_seq_k (fun K2 hK2 => region_wl ?_)
 refine do_ rfl (.slice a0 l0.length c0) (ex_move _) ?_
 simp only [pS, pN, pA, pC, pZ]
 refine stGives S rfl (ex_fn (vs := #[(.slice a0 l0.length c0), (.int .i64 16)]) (map2 rfl rfl) rfl (ent_32 _ _)) (commits_spec _ _ _ l0 16 (S).sat z0 (by omega)) ?_
 intro v8 w3 F5 S4 le6 R7
 obtain ⟨cs, R7, hh, hcl⟩ := R7
 obtain ⟨a9, c10, rfl, h11, h12⟩ := Sl.shape R7
 unfold maxLen at h12
 simp only [pS, pN, pA, pC, pZ]
 refine do_ rfl (.slice a9 cs.length c10) (ex_assign _) ?_
 simp only [pS, pN, pA, pC, pZ]
 refine wl_nil (hK2 _ _ ?_)
 refine wp_seq_k (fun K13 hK13 => ?_)
 refine wp_seq_k (fun K14 hK14 => region_wl ?_)
 refine do_ rfl (.slice a9 cs.length c10) (ex_move _) ?_
 simp only [pS, pN, pA, pC, pZ]
 refine do_ rfl (.int .i64 ((cs.length : Nat) : Int)) (ex_len Try.underlying60 rfl) ?_
 simp only [pS, pN, pA, pC, pZ]
 by_cases hc21 : cs.length = 0
 ·refine do_ rfl (.bool true) (ex_eql (m := ((cs.length : Nat) : Int)) (n := (0 : Int)) (b := true) rfl rfl (beq_iff_eq.2 (by omega))) ?_
  simp only [pS, pN, pA, pC, pZ]
  refine wl_nil (hK14 _ _ ?_)
  refine wp_cond_true rfl ?_
  refine wp_seq_k (fun K15 hK15 => region_wl ?_)
  refine stGives S4 rfl (ex_fn (vs := #[(.slice none 0 0), (.int .i64 0)]) (map2 rfl rfl) rfl (ent_33 _ _)) (foldZero_spec _ _ (S4).sat) ?_
  intro v21 w16 F18 S17 le19 R20
  obtain ⟨_, rfl, r24⟩ := R20
  obtain ⟨a22, c23, rfl, h25, h26⟩ := Sl.shape r24
  unfold maxLen at h26
  simp only [pS, pN, pA, pC, pZ]
  refine do_ rfl (.tuple #[(.slice a22 ([] : Forest).length c23), (.int .i64 0)]) (ex_move _) ?_
  simp only [pS, pN, pA, pC, pZ]
  refine do_ rfl (.slice a22 ([] : Forest).length c23) (ex_extract rfl rfl) ?_
  simp only [pS, pN, pA, pC, pZ]
  refine do_ rfl (.int .i64 0) (ex_extract rfl rfl) ?_
  simp only [pS, pN, pA, pC, pZ]
  refine do_ rfl (.slice a22 ([] : Forest).length c23) (ex_assign _) ?_
  simp only [pS, pN, pA, pC, pZ]
  refine do_ rfl (.int .i64 0) (ex_assign _) ?_
  simp only [pS, pN, pA, pC, pZ]
  refine wl_nil (hK15 _ _ ?_)
  refine wp_seq_k (fun K27 hK27 => region_wl ?_)
  refine stGives S17 rfl (ex_fn (vs := #[(.slice none 0 0), (.int .i64 1)]) (map2 rfl rfl) rfl (ent_33 _ _)) (foldNil_spec _ _ (S17).sat) ?_
  intro v33 w28 F30 S29 le31 R32
  obtain ⟨_, rfl, r36⟩ := R32
  obtain ⟨a34, c35, rfl, h37, h38⟩ := Sl.shape r36
  unfold maxLen at h38
  simp only [pS, pN, pA, pC, pZ]
  refine do_ rfl (.tuple #[(.slice a34 ([] : Forest).length c35), (.int .i64 2)]) (ex_move _) ?_
  simp only [pS, pN, pA, pC, pZ]
  refine do_ rfl (.slice a34 ([] : Forest).length c35) (ex_extract rfl rfl) ?_
  simp only [pS, pN, pA, pC, pZ]
  refine do_ rfl (.int .i64 2) (ex_extract rfl rfl) ?_
  simp only [pS, pN, pA, pC, pZ]
  refine do_ rfl (.slice a34 ([] : Forest).length c35) (ex_assign _) ?_
  simp only [pS, pN, pA, pC, pZ]
  refine do_ rfl (.int .i64 2) (ex_assign _) ?_
  simp only [pS, pN, pA, pC, pZ]
  refine wl_nil (hK27 _ _ ?_)
  refine wp_seq_k (fun K39 hK39 => region_wl ?_)
  refine do_ rfl (.int .i64 0) (ex_move _) ?_
  simp only [pS, pN, pA, pC, pZ]
  refine do_ rfl (.bool true) (ex_eql (b := true) rfl rfl (by decide)) ?_
  simp only [pS, pN, pA, pC, pZ]
  refine do_ rfl (.bool true) (ex_move _) ?_
  simp only [pS, pN, pA, pC, pZ]
  refine do_ rfl (.int .i64 2) (ex_move _) ?_
  simp only [pS, pN, pA, pC, pZ]
  refine do_ rfl (.bool true) (ex_eql (b := true) rfl rfl (by decide)) ?_
  simp only [pS, pN, pA, pC, pZ]
  refine do_ rfl (.bool true) (ex_pick (b := true) rfl) ?_
  simp only [pS, pN, pA, pC, pZ]
  refine do_ rfl (.bool true) (ex_move _) ?_
  simp only [pS, pN, pA, pC, pZ]
  refine do_ rfl (.slice a22 ([] : Forest).length c23) (ex_move _) ?_
  simp only [pS, pN, pA, pC, pZ]
  refine do_ rfl (.int .i64 ((([] : Forest).length : Nat) : Int)) (ex_len Try.underlying53 rfl) ?_
  simp only [pS, pN, pA, pC, pZ]
  refine do_ rfl (.bool true) (ex_eql (m := ((([] : Forest).length : Nat) : Int)) (n := (0 : Int)) (b := true) rfl rfl (beq_iff_eq.2 (rfl))) ?_
  simp only [pS, pN, pA, pC, pZ]
  refine do_ rfl (.bool true) (ex_pick (b := true) rfl) ?_
  simp only [pS, pN, pA, pC, pZ]
  refine do_ rfl (.bool true) (ex_assign _) ?_
  simp only [pS, pN, pA, pC, pZ]
  refine wl_nil (hK39 _ _ ?_)
  refine wp_ret ?_
  (try simp only [Exit.then, Exit.inBlock, ↓reduceIte, Nat.reduceEqDiff])
  refine bodyPost_ret (v := (.bool true)) ?_ rfl ?_
  ·exact res_t rfl rfl
  ·exact ⟨rfl, S29.gr.below⟩
 ·refine do_ rfl (.bool false) (ex_eql (m := ((cs.length : Nat) : Int)) (n := (0 : Int)) (b := false) rfl rfl (beq_eq_false_iff_ne.2 (by omega))) ?_
  simp only [pS, pN, pA, pC, pZ]
  refine wl_nil (hK14 _ _ ?_)
  refine wp_cond_false rfl ?_
  refine wp_skip ?_
  refine hK13 _ _ ?_
  refine wp_seq_k (fun K40 hK40 => ?_)
  obtain ⟨hp0, hp1⟩ := pick_bd x1 (cs.length : Nat) (by omega)
  obtain ⟨kn, hkn⟩ : ∃ kn : Nat, pick x1 (cs.length : Nat) = (kn : Int) := ⟨(pick x1 (cs.length : Nat)).toNat, (Int.toNat_of_nonneg hp0).symm⟩
  have hkb : kn < cs.length := by omega
  refine region_wl ?_
  refine do_ rfl (.int .i64 x1) (ex_move _) ?_
  simp only [pS, pN, pA, pC, pZ]
  refine do_ rfl (.slice a9 cs.length c10) (ex_move _) ?_
  simp only [pS, pN, pA, pC, pZ]
  refine do_ rfl (.int .i64 ((cs.length : Nat) : Int)) (ex_len Try.underlying60 rfl) ?_
  simp only [pS, pN, pA, pC, pZ]
  refine stTells (v := (.int .i64 ((kn : Nat) : Int))) S4 rfl (ex_fn (vs := #[(.int .i64 x1), (.int .i64 ((cs.length : Nat) : Int))]) (map2 rfl rfl) rfl (ent_25 _ _)) (hkn ▸ tells_same (picked_spec x1 ((cs.length : Nat) : Int) _ b1 b1' (by omega) (by omega))) (fun w41 S42 => ?_)
  simp only [pS, pN, pA, pC, pZ]
  refine do_ rfl (.int .i64 ((kn : Nat) : Int)) (ex_assign _) ?_
  simp only [pS, pN, pA, pC, pZ]
  refine wl_nil (hK40 _ _ ?_)
  refine wp_seq_k (fun K43 hK43 => region_wl ?_)
  refine do_ rfl (.slice a9 cs.length c10) (ex_move _) ?_
  simp only [pS, pN, pA, pC, pZ]
  refine do_ rfl (.int .i64 ((kn : Nat) : Int)) (ex_move _) ?_
  simp only [pS, pN, pA, pC, pZ]
  refine stGives S42 rfl (ex_fn (vs := #[(.slice a9 cs.length c10), (.int .i64 ((kn : Nat) : Int))]) (map2 rfl rfl) rfl (ent_33 _ _)) (fold_spec _ _ _ cs kn (S42).sat R7 hh (by omega) (by omega) (by omega)) ?_
  intro v49 w44 F46 S45 le47 R48
  obtain ⟨_, rfl, r52⟩ := R48
  obtain ⟨a50, c51, rfl, h53, h54⟩ := Sl.shape r52
  unfold maxLen at h54
  have h53 : (stateC cs kn).length ≤ c51 := h53
  have r52 : Tns _ (.slice a50 (stateC cs kn).length c51) (stateC cs kn) := r52
  simp only [pS, pN, pA, pC, pZ]
  refine do_ rfl (.tuple #[(.slice a50 (stateC cs kn).length c51), (.int .i64 0)]) (ex_move _) ?_
  simp only [pS, pN, pA, pC, pZ]
  refine do_ rfl (.slice a50 (stateC cs kn).length c51) (ex_extract rfl rfl) ?_
  simp only [pS, pN, pA, pC, pZ]
  refine do_ rfl (.int .i64 0) (ex_extract rfl rfl) ?_
  simp only [pS, pN, pA, pC, pZ]
  refine do_ rfl (.slice a50 (stateC cs kn).length c51) (ex_assign _) ?_
  simp only [pS, pN, pA, pC, pZ]
  refine do_ rfl (.int .i64 0) (ex_assign _) ?_
  simp only [pS, pN, pA, pC, pZ]
  refine wl_nil (hK43 _ _ ?_)
  refine wp_seq_k (fun K55 hK55 => region_wl ?_)
  refine do_ rfl (.slice a9 cs.length c10) (ex_move _) ?_
  simp only [pS, pN, pA, pC, pZ]
  refine do_ rfl (.int .i64 ((kn : Nat) : Int)) (ex_move _) ?_
  simp only [pS, pN, pA, pC, pZ]
  refine do_ rfl (.int .i64 (((kn + 1) : Nat) : Int)) (ex_add (m := ((kn : Nat) : Int)) (n := (1 : Int)) (r := (((kn + 1) : Nat) : Int)) rfl rfl (by omega) (by omega) (by omega)) ?_
  simp only [pS, pN, pA, pC, pZ]
  refine stGives S45 rfl (ex_fn (vs := #[(.slice a9 cs.length c10), (.int .i64 (((kn + 1) : Nat) : Int))]) (map2 rfl rfl) rfl (ent_33 _ _)) (fold_spec _ _ _ cs (kn + 1) (S45).sat (R7.mono le47) hh (by omega) (by omega) (by omega)) ?_
  intro v61 w56 F58 S57 le59 R60
  obtain ⟨_, rfl, r64⟩ := R60
  obtain ⟨a62, c63, rfl, h65, h66⟩ := Sl.shape r64
  unfold maxLen at h66
  have h65 : (stateC cs (kn + 1)).length ≤ c63 := h65
  have r64 : Tns _ (.slice a62 (stateC cs (kn + 1)).length c63) (stateC cs (kn + 1)) := r64
  simp only [pS, pN, pA, pC, pZ]
  refine do_ rfl (.tuple #[(.slice a62 (stateC cs (kn + 1)).length c63), (.int .i64 0)]) (ex_move _) ?_
  simp only [pS, pN, pA, pC, pZ]
  refine do_ rfl (.slice a62 (stateC cs (kn + 1)).length c63) (ex_extract rfl rfl) ?_
  simp only [pS, pN, pA, pC, pZ]
  refine do_ rfl (.int .i64 0) (ex_extract rfl rfl) ?_
  simp only [pS, pN, pA, pC, pZ]
  refine do_ rfl (.slice a62 (stateC cs (kn + 1)).length c63) (ex_assign _) ?_
  simp only [pS, pN, pA, pC, pZ]
  refine do_ rfl (.int .i64 0) (ex_assign _) ?_
  simp only [pS, pN, pA, pC, pZ]
  refine wl_nil (hK55 _ _ ?_)
  refine wp_seq_k (fun K67 hK67 => ?_)
  obtain ⟨p, hp⟩ : ∃ p, cs[kn]? = some p := ⟨cs[kn], List.getElem?_eq_getElem hkb⟩
  have hpo := hh.ok p (List.mem_of_getElem? hp)
  have okk := (state_ok hh kn).mono (show 16 ≤ 60 by omega)
  have okn := (state_ok hh (kn + 1)).mono (show 16 ≤ 60 by omega)
  have hae : applyE (stateC cs kn) p.writes = (0, stateC cs (kn + 1)) := by have h := state_next hh hkb; rw [List.getElem?_eq_getElem hkb] at hp; cases hp; rw [applyE_ok hpo.ok hpo.some.2, h]
  obtain ⟨b68, o69, ha70, xa73, xc74, c71, c72, r75⟩ := Cms.get (R7.mono (le47.trans le59)) hp
  refine region_wl ?_
  refine do_ rfl (.slice a50 (stateC cs kn).length c51) (ex_move _) ?_
  simp only [pS, pN, pA, pC, pZ]
  refine do_ rfl (.slice a9 cs.length c10) (ex_move _) ?_
  simp only [pS, pN, pA, pC, pZ]
  refine do_ rfl (.int .i64 ((kn : Nat) : Int)) (ex_move _) ?_
  simp only [pS, pN, pA, pC, pZ]
  refine do_ rfl (.pointer (some ⟨b68, o69 + kn * 2, none⟩)) (ex_at (i := kn) (sz := 2) Try.underlying60 (sizeof_50 _) rfl ha70 rfl (by omega) rfl) ?_
  simp only [pS, pN, pA, pC, pZ]
  refine do_ rfl (.pointer (some ⟨b68, o69 + kn * 2 + 1, none⟩)) (ex_field (q := ⟨b68, o69 + kn * 2 + 1, none⟩) rfl (fa_50_1 _ _)) ?_
  simp only [pS, pN, pA, pC, pZ]
  refine do_ rfl (.slice xa73 p.writes.length xc74) (ex_load rfl (load1 (nagg_44 _) (St.fz S57 c72))) ?_
  simp only [pS, pN, pA, pC, pZ]
  refine stGives S57 rfl (ex_fn (vs := #[(.slice a50 (stateC cs kn).length c51), (.slice xa73 p.writes.length xc74)]) (map2 rfl rfl) rfl (ent_34 _ _)) (apply_is (S57).sat (r52.mono le59) r75 okk hpo.ok hae) ?_
  intro v81 w76 F78 S77 le79 R80
  obtain ⟨_, rfl, r84⟩ := R80
  obtain ⟨a82, c83, rfl, h85, h86⟩ := Sl.shape r84
  unfold maxLen at h86
  have h85 : (stateC cs (kn + 1)).length ≤ c83 := h85
  have r84 : Tns _ (.slice a82 (stateC cs (kn + 1)).length c83) (stateC cs (kn + 1)) := r84
  simp only [pS, pN, pA, pC, pZ]
  refine do_ rfl (.tuple #[(.slice a82 (stateC cs (kn + 1)).length c83), (.int .i64 0)]) (ex_move _) ?_
  simp only [pS, pN, pA, pC, pZ]
  refine do_ rfl (.slice a82 (stateC cs (kn + 1)).length c83) (ex_extract rfl rfl) ?_
  simp only [pS, pN, pA, pC, pZ]
  refine do_ rfl (.int .i64 0) (ex_extract rfl rfl) ?_
  simp only [pS, pN, pA, pC, pZ]
  refine do_ rfl (.slice a82 (stateC cs (kn + 1)).length c83) (ex_assign _) ?_
  simp only [pS, pN, pA, pC, pZ]
  refine do_ rfl (.int .i64 0) (ex_assign _) ?_
  simp only [pS, pN, pA, pC, pZ]
  refine wl_nil (hK67 _ _ ?_)
  refine wp_seq_k (fun K87 hK87 => region_wl ?_)
  refine do_ rfl (.int .i64 0) (ex_move _) ?_
  simp only [pS, pN, pA, pC, pZ]
  refine do_ rfl (.bool true) (ex_eql (b := true) rfl rfl (by decide)) ?_
  simp only [pS, pN, pA, pC, pZ]
  refine do_ rfl (.bool true) (ex_move _) ?_
  simp only [pS, pN, pA, pC, pZ]
  refine do_ rfl (.int .i64 0) (ex_move _) ?_
  simp only [pS, pN, pA, pC, pZ]
  refine do_ rfl (.bool true) (ex_eql (b := true) rfl rfl (by decide)) ?_
  simp only [pS, pN, pA, pC, pZ]
  refine do_ rfl (.bool true) (ex_pick (b := true) rfl) ?_
  simp only [pS, pN, pA, pC, pZ]
  refine do_ rfl (.bool true) (ex_move _) ?_
  simp only [pS, pN, pA, pC, pZ]
  refine do_ rfl (.int .i64 0) (ex_move _) ?_
  simp only [pS, pN, pA, pC, pZ]
  refine do_ rfl (.bool true) (ex_eql (b := true) rfl rfl (by decide)) ?_
  simp only [pS, pN, pA, pC, pZ]
  refine do_ rfl (.bool true) (ex_pick (b := true) rfl) ?_
  simp only [pS, pN, pA, pC, pZ]
  refine do_ rfl (.bool true) (ex_move _) ?_
  simp only [pS, pN, pA, pC, pZ]
  refine do_ rfl (.slice a62 (stateC cs (kn + 1)).length c63) (ex_move _) ?_
  simp only [pS, pN, pA, pC, pZ]
  refine do_ rfl (.slice a82 (stateC cs (kn + 1)).length c83) (ex_move _) ?_
  simp only [pS, pN, pA, pC, pZ]
  refine stTells (v := (.bool true)) S77 rfl (ex_fn (vs := #[(.slice a62 (stateC cs (kn + 1)).length c63), (.slice a82 (stateC cs (kn + 1)).length c83)]) (map2 rfl rfl) rfl (ent_35 _ _)) (tells_bool (sameForest_spec _ _ _ _ (stateC cs (kn + 1)) (stateC cs (kn + 1)) (S77).sat (r64.mono le79) r84 (by have := ForestOk.len okn; omega) (fun t ht => by have := (ForestOk.tree okn t ht).len; omega)) (decide_eq_true (rfl))) (fun w88 S89 => ?_)
  simp only [pS, pN, pA, pC, pZ]
  refine do_ rfl (.bool true) (ex_pick (b := true) rfl) ?_
  simp only [pS, pN, pA, pC, pZ]
  refine do_ rfl (.bool true) (ex_move _) ?_
  simp only [pS, pN, pA, pC, pZ]
  refine do_ rfl (.slice a9 cs.length c10) (ex_move _) ?_
  simp only [pS, pN, pA, pC, pZ]
  refine stTells (v := (.int .i64 0)) S89 rfl (ex_fn (vs := #[(.slice a9 cs.length c10)]) (map1 rfl) rfl (ent_36 _ _)) (histCheck_spec _ _ _ cs (S89).sat (R7.mono ((le47.trans le59).trans le79)) hh (by omega) (by omega)) (fun w90 S91 => ?_)
  simp only [pS, pN, pA, pC, pZ]
  refine do_ rfl (.bool true) (ex_eql (b := true) rfl rfl (by decide)) ?_
  simp only [pS, pN, pA, pC, pZ]
  refine do_ rfl (.bool true) (ex_pick (b := true) rfl) ?_
  simp only [pS, pN, pA, pC, pZ]
  refine do_ rfl (.bool true) (ex_move _) ?_
  simp only [pS, pN, pA, pC, pZ]
  refine do_ rfl (.slice a62 (stateC cs (kn + 1)).length c63) (ex_move _) ?_
  simp only [pS, pN, pA, pC, pZ]
  refine stTells (v := (.int .i64 0)) S91 rfl (ex_fn (vs := #[(.slice a62 (stateC cs (kn + 1)).length c63)]) (map1 rfl) rfl (ent_37 _ _)) (forestCheckOk_spec _ _ _ (stateC cs (kn + 1)) (S91).sat (r64.mono le79) okn) (fun w92 S93 => ?_)
  simp only [pS, pN, pA, pC, pZ]
  refine do_ rfl (.bool true) (ex_eql (b := true) rfl rfl (by decide)) ?_
  simp only [pS, pN, pA, pC, pZ]
  refine do_ rfl (.bool true) (ex_pick (b := true) rfl) ?_
  simp only [pS, pN, pA, pC, pZ]
  refine do_ rfl (.bool true) (ex_assign _) ?_
  simp only [pS, pN, pA, pC, pZ]
  refine wl_nil (hK87 _ _ ?_)
  refine wp_ret ?_
  (try simp only [Exit.then, Exit.inBlock, ↓reduceIte, Nat.reduceEqDiff])
  refine bodyPost_ret (v := (.bool true)) ?_ rfl ?_
  ·exact res_t rfl rfl
  ·exact ⟨rfl, S93.gr.below⟩
end Go.Proofs.Ytcpngkkconalhaa
