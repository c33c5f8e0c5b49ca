/- Rules, plain laws and walks: PC HC -/
import Derived.Test.YtlimmmidfhpakaaGB8
import Derived.Test.YtlimmmidfhpakaaGB5
import Derived.Test.YtlimmmidfhpakaaGB7
namespace Go.Proofs.Ytlimmmidfhpakaa
open Go.RowKit
set_option maxRecDepth 100000
set_option linter.unusedVariables false
set_option linter.unusedSimpArgs false
theorem ent_59 (vs : Array Value) (w : World) : (callFunc 59 vs).run Try.prog w = .ok (.enter 59 vs) w := by kernel_rfl
theorem len0 (w : World) : Calls Try.prog 59 #[.int .u64 ((0 : Nat) : Int)] w (Tells w (.int .i64 0)) := by
  have h := Go.Proofs.Any.bits_Len (Go.Proofs.SlLaysF0.n15.bits (P := Try.prog) (ρ := sortW_ren) { sortW with }) ((0 : Nat) : Int) w (by omega) (by omega)
  exact tells_same h
set_option maxHeartbeats 8000000 in
theorem insertNil (w : World) (F : Fz) (hs : Sat w F) (a : Option Addr) (c : Nat) :
    Calls Try.prog 66 #[.slice a 0 c, .int .i64 0, .int .i64 0, .func (.func 47) #[] #[]] w (Tells w (.tuple #[])) := by
 have S := St.start hs
 go_enter Try.func66, Try.ntmps66
 refine wp_seq_k (fun K1 hK1 => region_wl ?_)
 refine do_ rfl (.int .i64 0) (ex_move _) ?_
 simp only [pS, pN, pA, pC, pZ]
 refine do_ rfl (.int .i64 1) (ex_add (m := (0 : Int)) (n := (1 : Int)) (r := (1 : Int)) rfl rfl (by omega) (by omega) (by omega)) ?_
 simp only [pS, pN, pA, pC, pZ]
 refine do_ rfl (.int .i64 1) (ex_assign _) ?_
 simp only [pS, pN, pA, pC, pZ]
 refine wl_nil (hK1 _ _ ?_)
 refine wp_block ?_
 refine wp_loop_rounds 1 ?_
 rw [rounds_succ]
 refine wp_seq_k (fun K2 hK2 => ?_)
 refine wp_seq_k (fun K3 hK3 => region_wl ?_)
 refine do_ rfl (.int .i64 1) (ex_move _) ?_
 simp only [pS, pN, pA, pC, pZ]
 refine do_ rfl (.int .i64 0) (ex_move _) ?_
 simp only [pS, pN, pA, pC, pZ]
 refine do_ rfl (.bool false) (ex_lss (b := false) rfl rfl (by decide)) ?_
 simp only [pS, pN, pA, pC, pZ]
 refine wl_nil (hK3 _ _ ?_)
 refine wp_cond_false rfl ?_
 refine wp_exit ?_
 (try simp only [Exit.then, Exit.inBlock, ↓reduceIte, Nat.reduceEqDiff])
 refine bodyPost_end (v := (.tuple #[])) ?_ rfl ?_
 ·exact res_ rfl 
 ·exact ⟨rfl, S.gr.below⟩
set_option maxHeartbeats 8000000 in
theorem pdqNil (w : World) (F : Fz) (hs : Sat w F) (a : Option Addr) (c : Nat) :
    Calls Try.prog 58 #[.slice a 0 c, .int .i64 0, .int .i64 0, .int .i64 0, .func (.func 47) #[] #[]] w (Tells w (.tuple #[])) := by
 have S := St.start hs
 go_enter Try.func58, Try.ntmps58
 refine wp_seq_k (fun K1 hK1 => region_wl ?_)
 refine do_ rfl (.bool true) (ex_assign _) ?_
 simp only [pS, pN, pA, pC, pZ]
 refine wl_nil (hK1 _ _ ?_)
 refine wp_seq_k (fun K2 hK2 => region_wl ?_)
 refine do_ rfl (.bool true) (ex_assign _) ?_
 simp only [pS, pN, pA, pC, pZ]
 refine wl_nil (hK2 _ _ ?_)
 refine wp_block ?_
 refine wp_loop_rounds 1 ?_
 rw [rounds_succ]
 refine wp_block ?_
 refine wp_seq_k (fun K3 hK3 => region_wl ?_)
 refine do_ rfl (.int .i64 0) (ex_move _) ?_
 simp only [pS, pN, pA, pC, pZ]
 refine do_ rfl (.int .i64 0) (ex_move _) ?_
 simp only [pS, pN, pA, pC, pZ]
 refine do_ rfl (.int .i64 0) (ex_sub (m := (0 : Int)) (n := (0 : Int)) (r := (0 : Int)) rfl rfl (by omega) (by omega) (by omega)) ?_
 simp only [pS, pN, pA, pC, pZ]
 refine do_ rfl (.int .i64 0) (ex_assign _) ?_
 simp only [pS, pN, pA, pC, pZ]
 refine wl_nil (hK3 _ _ ?_)
 refine wp_seq_k (fun K4 hK4 => ?_)
 refine wp_seq_k (fun K5 hK5 => region_wl ?_)
 refine do_ rfl (.int .i64 0) (ex_move _) ?_
 simp only [pS, pN, pA, pC, pZ]
 refine do_ rfl (.bool true) (ex_leq (b := true) rfl rfl (by decide)) ?_
 simp only [pS, pN, pA, pC, pZ]
 refine wl_nil (hK5 _ _ ?_)
 refine wp_cond_true rfl ?_
 refine wp_seq_k (fun K6 hK6 => region_wl ?_)
 refine do_ rfl (.slice a 0 c) (ex_move _) ?_
 simp only [pS, pN, pA, pC, pZ]
 refine do_ rfl (.int .i64 0) (ex_move _) ?_
 simp only [pS, pN, pA, pC, pZ]
 refine do_ rfl (.int .i64 0) (ex_move _) ?_
 simp only [pS, pN, pA, pC, pZ]
 refine do_ rfl (.func (.func 47) #[] #[]) (ex_move _) ?_
 simp only [pS, pN, pA, pC, pZ]
 refine stTells (v := (.tuple #[])) S rfl (ex_fn (vs := #[(.slice a 0 c), (.int .i64 0), (.int .i64 0), (.func (.func 47) #[] #[])]) (map4 rfl rfl rfl rfl) rfl (ent_66 _ _)) (insertNil _ _ (S).sat _ _) (fun w7 S8 => ?_)
 simp only [pS, pN, pA, pC, pZ]
 refine wl_nil (hK6 _ _ ?_)
 refine wp_ret ?_
 (try simp only [Exit.then, Exit.inBlock, ↓reduceIte, Nat.reduceEqDiff])
 refine bodyPost_ret (v := (.tuple #[])) ?_ rfl ?_
 ·exact res_ rfl 
 ·exact ⟨rfl, S8.gr.below⟩
set_option maxHeartbeats 8000000 in
theorem sortNil (w : World) (F : Fz) (hs : Sat w F) (a : Option Addr) (c : Nat) :
    Calls Try.prog 46 #[.slice a 0 c, .func (.func 47) #[] #[]] w (Tells w (.tuple #[])) := by
 have S := St.start hs
 go_enter Try.func46, Try.ntmps46
 refine wp_seq_k (fun K1 hK1 => region_wl ?_)
 refine do_ rfl (.slice a 0 c) (ex_move _) ?_
 simp only [pS, pN, pA, pC, pZ]
 refine do_ rfl (.int .i64 0) (ex_len Try.underlying47 rfl) ?_
 simp only [pS, pN, pA, pC, pZ]
 refine do_ rfl (.int .i64 0) (ex_assign _) ?_
 simp only [pS, pN, pA, pC, pZ]
 refine wl_nil (hK1 _ _ ?_)
 refine region_wl ?_
 refine do_ rfl (.slice a 0 c) (ex_move _) ?_
 simp only [pS, pN, pA, pC, pZ]
 refine do_ rfl (.int .i64 0) (ex_move _) ?_
 simp only [pS, pN, pA, pC, pZ]
 refine do_ rfl (.int .i64 0) (ex_move _) ?_
 simp only [pS, pN, pA, pC, pZ]
 refine do_ rfl (.int .u64 ((0 : Nat) : Int)) (ex_convert (v := (.int .i64 0)) rfl (conv_iu 0 (by omega) _)) ?_
 simp only [pS, pN, pA, pC, pZ]
 refine stTells (v := (.int .i64 0)) S rfl (ex_fn (vs := #[(.int .u64 ((0 : Nat) : Int))]) (map1 rfl) rfl (ent_59 _ _)) (len0 _) (fun w2 S3 => ?_)
 simp only [pS, pN, pA, pC, pZ]
 refine do_ rfl (.func (.func 47) #[] #[]) (ex_move _) ?_
 simp only [pS, pN, pA, pC, pZ]
 refine stTells (v := (.tuple #[])) S3 rfl (ex_fn (vs := #[(.slice a 0 c), (.int .i64 0), (.int .i64 0), (.int .i64 0), (.func (.func 47) #[] #[])]) (map5 rfl rfl rfl rfl rfl) rfl (ent_58 _ _)) (pdqNil _ _ (S3).sat _ _) (fun w4 S5 => ?_)
 simp only [pS, pN, pA, pC, pZ]
 refine wl_nil ?_
 (try simp only [Exit.then, Exit.inBlock, ↓reduceIte, Nat.reduceEqDiff])
 refine bodyPost_end (v := (.tuple #[])) ?_ rfl ?_
 ·exact res_ rfl 
 ·exact ⟨rfl, S5.gr.below⟩
theorem sortW_any {w0 w : World} {F0 F : Fz} {L0 : List Blk} {M0 : List RowP} {l : List Wr} {v : Value}
    (S : St w0 F0 w F L0 (ownP 4 WrC WrC.mono 27 w0.heap.size v l :: M0)) (hl : l.length ≤ 100000000) :
    Calls Try.prog 46 #[v, .func (.func 47) #[] #[]] w fun e w' => e = .returned (.tuple #[]) ∧
      ∃ l', l'.Perm l ∧ l'.Pairwise (fun x y => ¬ LtW y x) ∧ St w0 F0 w' F L0 (ownP 4 WrC WrC.mono 27 w0.heap.size v l' :: M0) := by
  by_cases hne : l = []
  · subst hne
    obtain ⟨a, c, rfl, _⟩ := (S.own (i := 0) rfl).shape
    exact (sortNil w F S.sat a c).mono fun e w' hh => ⟨hh.1, [], List.Perm.refl _, List.Pairwise.nil, S.tells hh.2⟩
  · obtain ⟨g, cap, rfl, _⟩ := (S.own (i := 0) rfl).form (List.length_pos_iff.2 hne)
    refine (sortW_own S hne hl).mono fun e w' hh => ?_
    obtain ⟨he, l', h1, h2, h3⟩ := hh
    refine ⟨he, l', h1, h2, ?_⟩
    rw [h1.length_eq] at h3
    exact h3
/-- A row of forests. -/
def FrC (F : Fz) (cs : List Value) (f : Forest) : Prop := ∃ v, cs = [v] ∧ Tns F v f
theorem FrC.mono (F F' : Fz) (x : List Value) (p : Forest) (hl : Le F F') (h : FrC F x p) : FrC F' x p := by
  obtain ⟨v, rfl, h⟩ := h
  exact ⟨v, rfl, h.mono hl⟩
abbrev Frs (F : Fz) (v : Value) (l : List Forest) : Prop := Sl 1 FrC F v l
theorem Frs.mono {F F' : Fz} {v : Value} {l : List Forest} (h : Frs F v l) (hl : Le F F') : Frs F' v l := Sl.mono FrC.mono h hl
theorem frs_get {F : Fz} {a : Option Addr} {n c : Nat} {l : List Forest} (h : Frs F (.slice a n c) l) {i : Nat} {p : Forest} (hp : l[i]? = some p) :
    ∃ b o, a = some ⟨b, o, none⟩ ∧ ∃ xa xc, cellF F b (o + i * 1) = some (.slice xa p.length xc) ∧ Tns F (.slice xa p.length xc) p := by
  obtain ⟨hi, rfl⟩ := List.getElem?_eq_some_iff.1 hp
  have hn := Sl.len h
  obtain ⟨b, o, e, h1⟩ := Sl.at h (by omega) (by omega)
  obtain ⟨cs, q1, ⟨a0, rfl, h0⟩, q3⟩ := h1 i hi
  obtain ⟨x0, y0, rfl, _⟩ := Sl.shape h0
  exact ⟨b, o, e, x0, y0, by simpa using q3 0 (by simp), h0⟩

theorem nilOk : ForestOk 60 [] := ⟨by simp, by simp, by simp, by simp, by simp [Rise]⟩
theorem nameOk_len {n : By} (h : NameOk n) : n.length ≤ 100000 := by unfold NameOk at h; omega
set_option maxHeartbeats 8000000 in
theorem places_spec (F : Fz) (w : World) (v : Value) (fs : List Forest) (hs : Sat w F) (hv : Frs F v fs) (hok : ∀ f ∈ fs, ForestOk 60 f) (hl : fs.length ≤ 2) :
    Calls Try.prog 33 #[v] w (Gives w F fun F' u => ∃ s : List Wr, s.Perm (fs.flatMap forW) ∧ s.Pairwise (fun x y => ¬ LtW y x) ∧ Wrs F' u (compactW s)) := by
 obtain ⟨a, c, rfl, hc1, hc2⟩ := Sl.shape hv
 unfold maxLen at hc2
 obtain ⟨i27, hi27, hz27, hs27, hb27⟩ := info_parts info_27
 have S := St.start hs
 go_enter Try.func33, Try.ntmps33
 refine wp_seq_k (fun K1 hK1 => region_wl ?_)
 refine do_ rfl (.slice none 0 0) (ex_assign _) ?_
 simp only [pS, pN, pA, pC, pZ]
 refine wl_nil (hK1 _ _ ?_)
 refine wp_seq_k (fun K2 hK2 => region_wl ?_)
 refine do_ rfl (.slice none 0 0) (ex_assign _) ?_
 simp only [pS, pN, pA, pC, pZ]
 refine wl_nil (hK2 _ _ ?_)
 refine wp_seq_k (fun K3 hK3 => ?_)
 refine wp_seq_k (fun K4 hK4 => region_wl ?_)
 refine do_ rfl (.slice a fs.length c) (ex_move _) ?_
 simp only [pS, pN, pA, pC, pZ]
 refine do_ rfl (.int .i64 ((fs.length : Nat) : Int)) (ex_len Try.underlying85 rfl) ?_
 simp only [pS, pN, pA, pC, pZ]
 refine do_ rfl (.int .i64 0) (ex_move _) ?_
 simp only [pS, pN, pA, pC, pZ]
 refine wl_nil (hK4 _ _ ?_)
 refine wp_block ?_
 have S5 := St.addNil S 4 WrC WrC.mono 27 w.heap.size
 have he6 : [] = (gat fs 0 [] 0 ([], []) 0) := (gat_zero _ _ _).symm
 rw [he6] at S5
 refine wp_loop_g (fun mm aa w9 => ∃ (g : Nat) (v : Value) (F7 : Fz) (u8 : Nat → Value), mm = fs.length - g ∧ u8 = slots aa ∧ aa = ⟨#[(.slice a fs.length c), undef, (.slice none 0 0), v, undef, (u8 5), undef, (u8 7), undef, (u8 9), (.slice a fs.length c), (.int .i64 ((fs.length : Nat) : Int)), (.int .i64 ((g : Nat) : Int)), (u8 13), (u8 14), (u8 15), (u8 16), (u8 17), (u8 18), (u8 19), (u8 20), (u8 21), (u8 22), (u8 23), (u8 24), (u8 25), (u8 26), (u8 27), (u8 28), (u8 29), (u8 30), (u8 31), (u8 32), (u8 33), (u8 34), (u8 35), (u8 36), (u8 37), (u8 38), (u8 39), (u8 40), (u8 41), undef, undef, undef, undef], []⟩ ∧ St w F w9 F7 [] [ownP 4 WrC WrC.mono 27 w.heap.size v (gat fs g [] 0 ([], []) 0)] ∧ Le F F7 ∧ (g ≤ fs.length)) _ ⟨0, (.slice none 0 0), F, _, rfl, rfl, rfl, S5, Le.refl _, (by omega)⟩ ?_
 rintro m10 a11 w12 ⟨g, v, F7, u8, rfl, -, rfl, S13, le14, hg⟩ K15 hK15
 refine wp_seq_k (fun K16 hK16 => region_wl ?_)
 by_cases hc13 : g < fs.length
 ·refine do_ rfl (.bool true) (ex_lss (m := ((g : Nat) : Int)) (n := ((fs.length : Nat) : Int)) (b := true) rfl rfl (decide_eq_true (by omega))) ?_
  simp only [pS, pN, pA, pC, pZ]
  refine wl_nil (hK16 _ _ ?_)
  refine wp_seq_k (fun K17 hK17 => ?_)
  refine wp_cond_true rfl ?_
  refine wp_skip ?_
  refine hK17 _ _ ?_
  refine wp_seq_k (fun K18 hK18 => ?_)
  refine wp_block ?_
  refine wp_seq_k (fun K19 hK19 => ?_)
  obtain ⟨f, hf⟩ : ∃ f, fs[g]? = some f := ⟨fs[g], List.getElem?_eq_getElem hc13⟩
  have hfo := hok f (List.mem_of_getElem? hf)
  have hfl := hfo.len
  obtain ⟨b20, o21, ha22, xa23, xc24, c25, r26⟩ := frs_get (hv.mono le14) hf
  refine region_wl ?_
  refine do_ rfl (.pointer (some ⟨b20, o21 + g * 1, none⟩)) (ex_at (i := g) (sz := 1) Try.underlying85 (sizeof_52 _) rfl ha22 rfl (by omega) rfl) ?_
  simp only [pS, pN, pA, pC, pZ]
  refine do_ rfl (.slice xa23 f.length xc24) (ex_load rfl (load1 (nagg_52 _) (St.fz S13 c25))) ?_
  simp only [pS, pN, pA, pC, pZ]
  refine do_ rfl (.slice xa23 f.length xc24) (ex_assign _) ?_
  simp only [pS, pN, pA, pC, pZ]
  refine wl_nil (hK19 _ _ ?_)
  refine wp_seq_k (fun K27 hK27 => region_wl ?_)
  refine do_ rfl (.slice xa23 f.length xc24) (ex_move _) ?_
  simp only [pS, pN, pA, pC, pZ]
  refine do_ rfl (.int .i64 ((f.length : Nat) : Int)) (ex_len Try.underlying52 rfl) ?_
  simp only [pS, pN, pA, pC, pZ]
  refine do_ rfl (.int .i64 0) (ex_move _) ?_
  simp only [pS, pN, pA, pC, pZ]
  refine wl_nil (hK27 _ _ ?_)
  refine wp_block ?_
  have he28 : (gat fs g [] 0 ([], []) 0) = (gat fs g f 0 ([], []) 0) := gat_any2 _ _ _ _ _
  rw [he28] at S13
  refine wp_loop_g (fun mm aa w31 => ∃ (i : Nat) (v2 : Value) (F29 : Fz) (u30 : Nat → Value), mm = f.length - i ∧ u30 = slots aa ∧ aa = ⟨#[(.slice a fs.length c), undef, (.slice none 0 0), v2, undef, (.slice xa23 f.length xc24), undef, (u30 7), undef, (u30 9), (.slice a fs.length c), (.int .i64 ((fs.length : Nat) : Int)), (.int .i64 ((g : Nat) : Int)), (.bool true), (.pointer (some ⟨b20, o21 + g * 1, none⟩)), (.slice xa23 f.length xc24), (.slice xa23 f.length xc24), (.int .i64 ((f.length : Nat) : Int)), (.int .i64 ((i : Nat) : Int)), (u30 19), (u30 20), (u30 21), (u30 22), (u30 23), (u30 24), (u30 25), (u30 26), (u30 27), (u30 28), (u30 29), (u30 30), (u30 31), (u30 32), (u30 33), (u30 34), (u30 35), (u30 36), (u30 37), (u30 38), (u30 39), (u30 40), (u8 41), undef, undef, undef, undef], []⟩ ∧ St w F w31 F29 [] [ownP 4 WrC WrC.mono 27 w.heap.size v2 (gat fs g f i ([], []) 0)] ∧ Le F7 F29 ∧ (i ≤ f.length)) _ ⟨0, v, F7, _, rfl, rfl, rfl, S13, Le.refl _, (by omega)⟩ ?_
  rintro m32 a33 w34 ⟨i, v2, F29, u30, rfl, -, rfl, S35, le36, hi⟩ K37 hK37
  refine wp_seq_k (fun K38 hK38 => region_wl ?_)
  by_cases hc19 : i < f.length
  ·refine do_ rfl (.bool true) (ex_lss (m := ((i : Nat) : Int)) (n := ((f.length : Nat) : Int)) (b := true) rfl rfl (decide_eq_true (by omega))) ?_
   simp only [pS, pN, pA, pC, pZ]
   refine wl_nil (hK38 _ _ ?_)
   refine wp_seq_k (fun K39 hK39 => ?_)
   refine wp_cond_true rfl ?_
   refine wp_skip ?_
   refine hK39 _ _ ?_
   refine wp_seq_k (fun K40 hK40 => ?_)
   refine wp_block ?_
   refine wp_seq_k (fun K41 hK41 => ?_)
   obtain ⟨t, ht⟩ : ∃ t, f[i]? = some t := ⟨f[i], List.getElem?_eq_getElem hc19⟩
   have hto := hfo.tree t (List.mem_of_getElem? ht)
   have htl := hto.len
   have htn := nameOk_len (hfo.name t (List.mem_of_getElem? ht))
   obtain ⟨b42, o43, ha44, xa46, xc47, xa50, xc51, c45, c49, r48, r52⟩ := Tns.get (r26.mono le36) ht
   refine region_wl ?_
   refine do_ rfl (.pointer (some ⟨b42, o43 + i * 2, none⟩)) (ex_at (i := i) (sz := 2) Try.underlying52 (sizeof_80 _) rfl ha44 rfl (by omega) rfl) ?_
   simp only [pS, pN, pA, pC, pZ]
   refine do_ rfl (.agg #[(.slice xa46 t.1.length xc47), (.slice xa50 t.2.length xc51)]) (ex_load rfl (loadN (cs := [(.slice xa46 t.1.length xc47), (.slice xa50 t.2.length xc51)]) Try.underlying80 rfl (size_80) (range2 (St.fz S35 c45) (St.fz S35 c49)))) ?_
   simp only [pS, pN, pA, pC, pZ]
   refine stNew S35 (v := fun n => .pointer (some ⟨n, 0, none⟩)) rfl (ex_alloc (zero_80 _)) (fun n53 w54 S55 => ?_)
   simp only [pS, pN, pA, pC, pZ]
   have S55 : St w F w54 F29 [⟨n53, [(.slice none 0 0), (.slice none 0 0)], 80⟩] [ownP 4 WrC WrC.mono 27 w.heap.size v2 (gat fs g f i ([], []) 0)] := S55
   refine stStore (i := 0) (v := (.agg #[(.slice xa46 t.1.length xc47), (.slice xa50 t.2.length xc51)])) S55 rfl rfl rfl rfl (size_80) (allc2 rfl rfl) (Nat.le_of_ble_eq_true rfl) (fun w56 S57 => ?_)
   simp only [pS, pN, pA, pC, pZ]
   have S57 : St w F w56 F29 [⟨n53, [(.slice xa46 t.1.length xc47), (.slice xa50 t.2.length xc51)], 80⟩] [ownP 4 WrC WrC.mono 27 w.heap.size v2 (gat fs g f i ([], []) 0)] := S57
   refine wl_nil (hK41 _ _ ?_)
   refine wp_seq_k (fun K58 hK58 => region_wl ?_)
   refine do_ rfl (.pointer (some ⟨n53, 1, none⟩)) (ex_field (q := ⟨n53, 1, none⟩) rfl (fa_80_1 _ _)) ?_
   simp only [pS, pN, pA, pC, pZ]
   refine do_ rfl (.slice xa50 t.2.length xc51) (ex_load rfl (load1 (nagg_23 _) (St.cell S57 (i := 0) rfl rfl))) ?_
   simp only [pS, pN, pA, pC, pZ]
   refine do_ rfl (.int .i64 ((t.2.length : Nat) : Int)) (ex_len Try.underlying23 rfl) ?_
   simp only [pS, pN, pA, pC, pZ]
   refine do_ rfl (.int .i64 0) (ex_move _) ?_
   simp only [pS, pN, pA, pC, pZ]
   refine wl_nil (hK58 _ _ ?_)
   refine wp_block ?_
   have he59 : (gat fs g f i ([], []) 0) = (gat fs g f i t 0) := gat_any _ _ _ _ _ _
   rw [he59] at S57
   refine wp_loop_g (fun mm aa w62 => ∃ (j : Nat) (v3 : Value) (F60 : Fz) (u61 : Nat → Value), mm = t.2.length - j ∧ u61 = slots aa ∧ aa = ⟨#[(.slice a fs.length c), undef, (.slice none 0 0), v3, undef, (.slice xa23 f.length xc24), undef, (.pointer (some ⟨n53, 0, none⟩)), undef, (u61 9), (.slice a fs.length c), (.int .i64 ((fs.length : Nat) : Int)), (.int .i64 ((g : Nat) : Int)), (.bool true), (.pointer (some ⟨b20, o21 + g * 1, none⟩)), (.slice xa23 f.length xc24), (.slice xa23 f.length xc24), (.int .i64 ((f.length : Nat) : Int)), (.int .i64 ((i : Nat) : Int)), (.bool true), (.pointer (some ⟨b42, o43 + i * 2, none⟩)), (.agg #[(.slice xa46 t.1.length xc47), (.slice xa50 t.2.length xc51)]), (.pointer (some ⟨n53, 1, none⟩)), (.slice xa50 t.2.length xc51), (.int .i64 ((t.2.length : Nat) : Int)), (.int .i64 ((j : Nat) : Int)), (u61 26), (u61 27), (u61 28), (u61 29), (u61 30), (u61 31), (u61 32), (u61 33), (u61 34), (u61 35), (u61 36), (u61 37), (u61 38), (u61 39), (u30 40), (u8 41), undef, undef, undef, undef], []⟩ ∧ St w F w62 F60 [⟨n53, [(.slice xa46 t.1.length xc47), (.slice xa50 t.2.length xc51)], 80⟩] [ownP 4 WrC WrC.mono 27 w.heap.size v3 (gat fs g f i t j)] ∧ Le F29 F60 ∧ (j ≤ t.2.length)) _ ⟨0, v2, F29, _, rfl, rfl, rfl, S57, Le.refl _, (by omega)⟩ ?_
   rintro m63 a64 w65 ⟨j, v3, F60, u61, rfl, -, rfl, S66, le67, hj⟩ K68 hK68
   refine wp_seq_k (fun K69 hK69 => region_wl ?_)
   by_cases hc26 : j < t.2.length
   ·refine do_ rfl (.bool true) (ex_lss (m := ((j : Nat) : Int)) (n := ((t.2.length : Nat) : Int)) (b := true) rfl rfl (decide_eq_true (by omega))) ?_
    simp only [pS, pN, pA, pC, pZ]
    refine wl_nil (hK69 _ _ ?_)
    refine wp_seq_k (fun K70 hK70 => ?_)
    refine wp_cond_true rfl ?_
    refine wp_skip ?_
    refine hK70 _ _ ?_
    refine wp_seq_k (fun K71 hK71 => ?_)
    refine wp_block ?_
    refine wp_seq_k (fun K72 hK72 => ?_)
    obtain ⟨p, hp⟩ : ∃ p, t.2[j]? = some p := ⟨t.2[j], List.getElem?_eq_getElem hc26⟩
    have hpo := hto.ok p (List.mem_of_getElem? hp)
    have hpl : p.1.length ≤ 100000 := by have := hpo.2.1; omega
    have hgl := gat_len hok hl g hfo i htl j
    obtain ⟨b73, o74, ha75, xa77, xc78, xa81, xc82, c76, c80, r79, r83⟩ := Prs.get (r52.mono le67) hp
    refine region_wl ?_
    refine do_ rfl (.pointer (some ⟨b73, o74 + j * 2, none⟩)) (ex_at (i := j) (sz := 2) Try.underlying23 (sizeof_36 _) rfl ha75 rfl (by omega) rfl) ?_
    simp only [pS, pN, pA, pC, pZ]
    refine do_ rfl (.agg #[(.slice xa77 p.1.length xc78), (.slice xa81 p.2.length xc82)]) (ex_load rfl (loadN (cs := [(.slice xa77 p.1.length xc78), (.slice xa81 p.2.length xc82)]) Try.underlying36 rfl (size_36) (range2 (St.fz S66 c76) (St.fz S66 c80)))) ?_
    simp only [pS, pN, pA, pC, pZ]
    refine stNew S66 (v := fun n => .pointer (some ⟨n, 0, none⟩)) rfl (ex_alloc (zero_36 _)) (fun n84 w85 S86 => ?_)
    simp only [pS, pN, pA, pC, pZ]
    have S86 : St w F w85 F60 [⟨n84, [(.slice none 0 0), (.slice none 0 0)], 36⟩, ⟨n53, [(.slice xa46 t.1.length xc47), (.slice xa50 t.2.length xc51)], 80⟩] [ownP 4 WrC WrC.mono 27 w.heap.size v3 (gat fs g f i t j)] := S86
    refine stStore (i := 0) (v := (.agg #[(.slice xa77 p.1.length xc78), (.slice xa81 p.2.length xc82)])) S86 rfl rfl rfl rfl (size_36) (allc2 rfl rfl) (Nat.le_of_ble_eq_true rfl) (fun w87 S88 => ?_)
    simp only [pS, pN, pA, pC, pZ]
    have S88 : St w F w87 F60 [⟨n84, [(.slice xa77 p.1.length xc78), (.slice xa81 p.2.length xc82)], 36⟩, ⟨n53, [(.slice xa46 t.1.length xc47), (.slice xa50 t.2.length xc51)], 80⟩] [ownP 4 WrC WrC.mono 27 w.heap.size v3 (gat fs g f i t j)] := S88
    refine wl_nil (hK72 _ _ ?_)
    refine region_gw F60 9 [(3, .made (fun F' u => Bs F' u t.1)), (6, .made (fun F' u => Bs F' u p.1)), (7, .made (fun F' u => WrV F' u (⟨t.1, p.1, false, ([] : By)⟩ : Wr))), (8, .made (fun F' u => Wrs F' u [(⟨t.1, p.1, false, ([] : By)⟩ : Wr)]))] (by kernel_rfl) (by kernel_rfl) ?_
    simp only [List.take_succ_cons, List.take_zero]
    refine gw_pure rfl rfl v3 (fun w89 hCw89 => pureAt_of (ex_move _)) ?_
    simp only [pS, pN, pA, pC, pZ]
    refine gw_pure rfl rfl (.pointer (some ⟨n53, 0, none⟩)) (fun w89 hCw89 => pureAt_of (ex_field (q := ⟨n53, 0, none⟩) rfl (fa_80_0 _ _))) ?_
    simp only [pS, pN, pA, pC, pZ]
    refine gw_pure rfl rfl (.slice xa46 t.1.length xc47) (fun w89 hCw89 => pureAt_of (ex_load rfl (load1 (nagg_25 _) (St.cell (St.tells S88 hCw89) (i := 1) rfl rfl)))) ?_
    simp only [pS, pN, pA, pC, pZ]
    refine gw_rel rfl rfl (fun w89 hCw89 hF => does_call (ex_fn (vs := #[(.slice xa46 t.1.length xc47)]) (map1 rfl) rfl (ent_30 _ _)) (call_made S88.sat hCw89 (clone_spec _ _ _ t.1 ((St.tells S88 hCw89)).sat (r48.mono le67) (by omega)))) (fun v90 => ?_)
    simp only [pS, pN, pA, pC, pZ]
    refine gw_pure rfl rfl (.pointer (some ⟨n84, 0, none⟩)) (fun w89 hCw89 => pureAt_of (ex_field (q := ⟨n84, 0, none⟩) rfl (fa_36_0 _ _))) ?_
    simp only [pS, pN, pA, pC, pZ]
    refine gw_pure rfl rfl (.slice xa77 p.1.length xc78) (fun w89 hCw89 => pureAt_of (ex_load rfl (load1 (nagg_25 _) (St.cell (St.tells S88 hCw89) (i := 0) rfl rfl)))) ?_
    simp only [pS, pN, pA, pC, pZ]
    refine gw_rel rfl rfl (fun w89 hCw89 hF => does_call (ex_fn (vs := #[(.slice xa77 p.1.length xc78)]) (map1 rfl) rfl (ent_30 _ _)) (call_made S88.sat hCw89 (clone_spec _ _ _ p.1 ((St.tells S88 hCw89)).sat r79 (by omega)))) (fun v91 => ?_)
    simp only [pS, pN, pA, pC, pZ]
    refine gw_rel rfl rfl (fun w89 hCw89 hF_ => ?_) (fun v92 => ?_)
    ·obtain ⟨F93, g94, R95⟩ := hF_.get 3 (by kernel_rfl) rfl rfl
     obtain ⟨F98, g99, R100⟩ := hF_.get 6 (by kernel_rfl) rfl rfl
     have hR0 := (R95.mono (both_left F93 F98))
     obtain ⟨xa103, xc104, rfl, _⟩ := hR0.shape
     have hR1 := (R100.mono (both_right g94.sat g99.sat))
     obtain ⟨xa105, xc106, rfl, _⟩ := hR1.shape
     have hR3 := Bs.nil (both F93 F98)
     exact does_val (ex_build (bmap2 rfl rfl) (by kernel_rfl)) ⟨(both F93 F98), (g94.both g99), ⟨_, _, _, _, _, _, rfl, hR0, hR1, hR3⟩⟩ (Below.refl _ _)
    simp only [pS, pN, pA, pC, pZ]
    refine gw_rel rfl rfl (fun w89 hCw89 hF_ => ?_) (fun v119 => ?_)
    ·obtain ⟨F116, g117, R118⟩ := hF_.get 7 (by kernel_rfl) rfl rfl
     obtain ⟨xa107, xc108, xa110, xc111, xa113, xc114, rfl, r109, r112, r115⟩ := R118
     exact does_lit (k := 4) (R := WrC) (hR := WrC.mono) (p := (⟨t.1, p.1, false, ([] : By)⟩ : Wr)) (cs := [.slice xa107 _ xc108, .slice xa110 _ xc111, _, .slice xa113 _ xc114]) (E := 27) g117 ⟨_, _, _, _, rfl, r109, r112, rfl, r115⟩ rfl (ex_lit (E := 27) (cells := #[.slice xa107 _ xc108, .slice xa110 _ xc111, _, .slice xa113 _ xc114]) (bmap1 rfl) (fun w => by kernel_rfl))
    simp only [pS, pN, pA, pC, pZ]
    refine gw_nil ?_
    intro w120 hC122 hF123
    obtain ⟨F124, g125, R126⟩ := hF123.get 8 rfl rfl
    have S121 := St.gives S88 g125
    have le128 : Le _ _ := g125.le S88.sat
    have R129 := R126
    generalize F124 = F127 at *
    obtain ⟨xa130, xc131, rfl, _⟩ := Sl.shape R129
    clear hF123
    simp only [List.drop_succ_cons, List.drop_zero]
    refine stAppendS (r := 0) (u := (.slice xa130 [(⟨t.1, p.1, false, ([] : By)⟩ : Wr)].length xc131)) S121 rfl i27 (.agg #[(.slice none 0 0), (.slice none 0 0), (.bool false), (.slice none 0 0)]) 80 Try.underlying47 hi27 hz27 hs27 hb27 rfl (by decide) rfl rfl rfl (Sl.toW R129 (S121).sat) (fun F cs p h => WrC.oneCell h) (Nat.le_refl _) S121.gr.below.size (by unfold maxLen; simp only [List.length_cons, List.length_nil]; omega) (by simp only [List.length_cons, List.length_nil]; omega) ?_
    intro v132 w133 S134 hn135
    simp only [pS, pN, pA, pC, pZ]
    have S134 : St w F w133 F127 [⟨n84, [(.slice xa77 p.1.length xc78), (.slice xa81 p.2.length xc82)], 36⟩, ⟨n53, [(.slice xa46 t.1.length xc47), (.slice xa50 t.2.length xc51)], 80⟩] [ownP 4 WrC WrC.mono 27 w.heap.size v132 ((gat fs g f i t j) ++ [(⟨t.1, p.1, false, ([] : By)⟩ : Wr)])] := S134
    refine do_ rfl v132 (ex_assign _) ?_
    simp only [pS, pN, pA, pC, pZ]
    refine wl_nil (hK71 _ _ ?_)
    refine region_wl ?_
    refine do_ rfl (.int .i64 (((j + 1) : Nat) : Int)) (ex_add (m := ((j : Nat) : Int)) (n := (1 : Int)) (r := (((j + 1) : Nat) : Int)) rfl rfl (by omega) (by omega) (by omega)) ?_
    simp only [pS, pN, pA, pC, pZ]
    refine do_ rfl (.int .i64 (((j + 1) : Nat) : Int)) (ex_move _) ?_
    simp only [pS, pN, pA, pC, pZ]
    refine wl_nil ?_
    have S134 := St.drop S134 (L' := [⟨n53, [(.slice xa46 t.1.length xc47), (.slice xa50 t.2.length xc51)], 80⟩]) (.cons _ (List.Sublist.refl _))
    have he136 : ((gat fs g f i t j) ++ [(⟨t.1, p.1, false, ([] : By)⟩ : Wr)]) = (gat fs g f i t (j + 1)) := gat_snoc hp
    rw [he136] at S134
    exact hK68 _ _ _ (by omega) ⟨(j + 1), v132, F127, _, rfl, rfl, rfl, S134, (le67.trans le128), (by omega)⟩
   ·refine do_ rfl (.bool false) (ex_lss (m := ((j : Nat) : Int)) (n := ((t.2.length : Nat) : Int)) (b := false) rfl rfl (decide_eq_false (by omega))) ?_
    simp only [pS, pN, pA, pC, pZ]
    refine wl_nil (hK69 _ _ ?_)
    refine wp_seq_k (fun K137 hK137 => ?_)
    refine wp_cond_false rfl ?_
    refine wp_exit ?_
    refine hK40 _ _ ?_
    refine region_wl ?_
    refine do_ rfl (.int .i64 (((i + 1) : Nat) : Int)) (ex_add (m := ((i : Nat) : Int)) (n := (1 : Int)) (r := (((i + 1) : Nat) : Int)) rfl rfl (by omega) (by omega) (by omega)) ?_
    simp only [pS, pN, pA, pC, pZ]
    refine do_ rfl (.int .i64 (((i + 1) : Nat) : Int)) (ex_move _) ?_
    simp only [pS, pN, pA, pC, pZ]
    refine wl_nil ?_
    have S66 := St.drop S66 (L' := []) (.cons _ (List.Sublist.refl _))
    have he138 : (gat fs g f i t j) = (gat fs g f (i + 1) ([], []) 0) := gat_tree ht (by omega) _
    rw [he138] at S66
    exact hK37 _ _ _ (by omega) ⟨(i + 1), v3, F60, _, rfl, rfl, rfl, S66, (le36.trans le67), (by omega)⟩
  ·refine do_ rfl (.bool false) (ex_lss (m := ((i : Nat) : Int)) (n := ((f.length : Nat) : Int)) (b := false) rfl rfl (decide_eq_false (by omega))) ?_
   simp only [pS, pN, pA, pC, pZ]
   refine wl_nil (hK38 _ _ ?_)
   refine wp_seq_k (fun K139 hK139 => ?_)
   refine wp_cond_false rfl ?_
   refine wp_exit ?_
   refine hK18 _ _ ?_
   refine region_wl ?_
   refine do_ rfl (.int .i64 (((g + 1) : Nat) : Int)) (ex_add (m := ((g : Nat) : Int)) (n := (1 : Int)) (r := (((g + 1) : Nat) : Int)) rfl rfl (by omega) (by omega) (by omega)) ?_
   simp only [pS, pN, pA, pC, pZ]
   refine do_ rfl (.int .i64 (((g + 1) : Nat) : Int)) (ex_move _) ?_
   simp only [pS, pN, pA, pC, pZ]
   refine wl_nil ?_
   have he140 : (gat fs g f i ([], []) 0) = (gat fs (g + 1) [] 0 ([], []) 0) := gat_forest hf (by omega) _
   rw [he140] at S35
   exact hK15 _ _ _ (by omega) ⟨(g + 1), v2, F29, _, rfl, rfl, rfl, S35, (le14.trans le36), (by omega)⟩
 ·refine do_ rfl (.bool false) (ex_lss (m := ((g : Nat) : Int)) (n := ((fs.length : Nat) : Int)) (b := false) rfl rfl (decide_eq_false (by omega))) ?_
  simp only [pS, pN, pA, pC, pZ]
  refine wl_nil (hK16 _ _ ?_)
  refine wp_seq_k (fun K141 hK141 => ?_)
  refine wp_cond_false rfl ?_
  refine wp_exit ?_
  refine hK3 _ _ ?_
  refine wp_seq_k (fun K142 hK142 => region_wl ?_)
  refine do_ rfl v (ex_move _) ?_
  simp only [pS, pN, pA, pC, pZ]
  have hgz := gat_len hok hl g (f := []) nilOk 0 (t := ([], [])) (by simp) 0
  refine doC rfl (ex_fn (vs := #[v, (.func (.func 47) #[] #[])]) (map2 rfl rfl) rfl (ent_46 _ _)) (sortW_any S13 (by omega)) (fun e_ w143 hh_ => ?_)
  obtain ⟨rfl, so, hperm, hsort, S144⟩ := hh_
  refine ⟨_, rfl, ?_⟩
  simp only [pS, pN, pA, pC, pZ]
  have S144 : St w F w143 F7 [] [ownP 4 WrC WrC.mono 27 w.heap.size v so] := S144
  have hsl := hperm.length_eq
  refine wl_nil (hK142 _ _ ?_)
  refine wp_seq_k (fun K145 hK145 => region_wl ?_)
  refine do_ rfl v (ex_move _) ?_
  simp only [pS, pN, pA, pC, pZ]
  refine doC rfl (ex_fn (vs := #[v, (.func (.func 49) #[] #[])]) (map2 rfl rfl) rfl (ent_48 _ _)) (compact_own S144 (by omega)) (fun e_ w146 hh_ => ?_)
  obtain ⟨v148, rfl, S147⟩ := hh_
  refine ⟨_, rfl, ?_⟩
  simp only [pS, pN, pA, pC, pZ]
  have S147 : St w F w146 F7 [] [ownP 4 WrC WrC.mono 27 w.heap.size v148 (compactW so)] := S147
  refine do_ rfl v148 (ex_assign _) ?_
  simp only [pS, pN, pA, pC, pZ]
  refine wl_nil (hK145 _ _ ?_)
  refine wp_ret ?_
  (try simp only [Exit.then, Exit.inBlock, ↓reduceIte, Nat.reduceEqDiff])
  refine bodyPost_ret (v := v148) ?_ rfl ?_
  ·exact res_t rfl rfl
  ·rw [gat_end (by omega)] at hperm
   obtain ⟨F9, S9, le9, hv9⟩ := St.freeze S147 (i := 0) rfl (Nat.le_refl _)
   exact ⟨_, _, rfl, S9.gr, so, hperm, hsort, hv9⟩
end Go.Proofs.Ytlimmmidfhpakaa
namespace Go.Proofs.Ytlimmmidfhpakaa
open Go.RowKit
set_option maxRecDepth 100000
set_option linter.unusedVariables false
set_option linter.unusedSimpArgs false
set_option maxHeartbeats 8000000 in
theorem equalH_spec (F : Fz) (w : World) (v u : Value) (l m : By) (hs : Sat w F) (hv : Bs F v l) (hu : Bs F u m) :
    Calls Try.prog 34 #[v, u] w (Tells w (.bool (l == m))) := by
 obtain ⟨a, c, rfl, _⟩ := hv.shape
 obtain ⟨a2, c2, rfl, _⟩ := hu.shape
 have S := St.start hs
 go_enter Try.func34, Try.ntmps34
 refine wp_seq_k (fun K1 hK1 => region_wl ?_)
 refine do_ rfl (.bool false) (ex_assign _) ?_
 simp only [pS, pN, pA, pC, pZ]
 refine wl_nil (hK1 _ _ ?_)
 refine wp_seq_k (fun K2 hK2 => region_wl ?_)
 refine do_ rfl (.slice a l.length c) (ex_move _) ?_
 simp only [pS, pN, pA, pC, pZ]
 refine do_ rfl (.string ⟨l.toArray⟩) (ex_convert (v := (.slice a l.length c)) rfl (run_string Try.underlying25 Try.underlying5 Try.underlying9 (S).sat hv)) ?_
 simp only [pS, pN, pA, pC, pZ]
 refine do_ rfl (.slice a2 m.length c2) (ex_move _) ?_
 simp only [pS, pN, pA, pC, pZ]
 refine do_ rfl (.string ⟨m.toArray⟩) (ex_convert (v := (.slice a2 m.length c2)) rfl (run_string Try.underlying25 Try.underlying5 Try.underlying9 (S).sat hu)) ?_
 simp only [pS, pN, pA, pC, pZ]
 refine do_ rfl (.bool (l == m)) (ex_strop (op := .eql) (l := l) (m := m) (b := (l == m)) (by simp) rfl rfl (rfl)) ?_
 simp only [pS, pN, pA, pC, pZ]
 refine do_ rfl (.bool (l == m)) (ex_assign _) ?_
 simp only [pS, pN, pA, pC, pZ]
 refine wl_nil (hK2 _ _ ?_)
 refine wp_ret ?_
 (try simp only [Exit.then, Exit.inBlock, ↓reduceIte, Nat.reduceEqDiff])
 refine bodyPost_ret (v := (.bool (l == m))) ?_ rfl ?_
 ·exact res_t rfl rfl
 ·exact ⟨rfl, S.gr.below⟩
set_option maxHeartbeats 8000000 in
theorem changes_spec (F : Fz) (w : World) (u : Value) (cs : List Cm) (i1 i2 : Nat) (hs : Sat w F) (hl : Cms F u cs) {m : Nat} (hh : HistOk m cs) (hm : m ≤ 60) (h300 : cs.length ≤ 300) (hi1 : i1 ≤ cs.length) (hi2 : i2 ≤ cs.length) :
    Calls Try.prog 13 #[u, .int .i64 (i1 : Int), .int .i64 (i2 : Int)] w (Gives w F fun F' u => ∃ ps x, IsPl (stateC cs i1) (stateC cs i2) ps ∧ u = .tuple #[x, .int .i64 0] ∧ Wrs F' x (chgs (stateC cs i1) (stateC cs i2) ps)) := by
 obtain ⟨a, c, rfl, hc1, hc2⟩ := Sl.shape hl
 unfold maxLen at hc2
 obtain ⟨i27, hi27, hz27, hs27, hb27⟩ := info_parts info_27
 have okA := (state_ok hh i1).mono hm
 have okB := (state_ok hh i2).mono hm
 have S := St.start hs
 go_enter Try.func13, Try.ntmps13
 refine wp_seq_k (fun K1 hK1 => region_wl ?_)
 refine do_ rfl (.slice none 0 0) (ex_assign _) ?_
 simp only [pS, pN, pA, pC, pZ]
 refine do_ rfl (.int .i64 0) (ex_assign _) ?_
 simp only [pS, pN, pA, pC, pZ]
 refine wl_nil (hK1 _ _ ?_)
 refine wp_seq_k (fun K2 hK2 => region_wl ?_)
 refine do_ rfl (.slice a cs.length c) (ex_move _) ?_
 simp only [pS, pN, pA, pC, pZ]
 refine do_ rfl (.int .i64 ((i1 : Nat) : Int)) (ex_move _) ?_
 simp only [pS, pN, pA, pC, pZ]
 refine stGives S rfl (ex_fn (vs := #[(.slice a cs.length c), (.int .i64 ((i1 : Nat) : Int))]) (map2 rfl rfl) rfl (ent_15 _ _)) (fold_spec _ _ _ cs i1 (S).sat hl hh hm h300 (by omega)) ?_
 intro v8 w3 F5 S4 le6 R7
 obtain ⟨_, rfl, r11⟩ := R7
 obtain ⟨a9, c10, rfl, h12, h13⟩ := Sl.shape r11
 unfold maxLen at h13
 have h12 : (stateC cs i1).length ≤ c10 := h12
 have r11 : Tns _ (.slice a9 (stateC cs i1).length c10) (stateC cs i1) := r11
 simp only [pS, pN, pA, pC, pZ]
 refine do_ rfl (.tuple #[(.slice a9 (stateC cs i1).length c10), (.int .i64 0)]) (ex_move _) ?_
 simp only [pS, pN, pA, pC, pZ]
 refine do_ rfl (.slice a9 (stateC cs i1).length c10) (ex_extract rfl rfl) ?_
 simp only [pS, pN, pA, pC, pZ]
 refine do_ rfl (.int .i64 0) (ex_extract rfl rfl) ?_
 simp only [pS, pN, pA, pC, pZ]
 refine do_ rfl (.slice a9 (stateC cs i1).length c10) (ex_assign _) ?_
 simp only [pS, pN, pA, pC, pZ]
 refine do_ rfl (.int .i64 0) (ex_assign _) ?_
 simp only [pS, pN, pA, pC, pZ]
 refine wl_nil (hK2 _ _ ?_)
 refine wp_seq_k (fun K14 hK14 => ?_)
 refine wp_seq_k (fun K15 hK15 => region_wl ?_)
 refine do_ rfl (.int .i64 0) (ex_move _) ?_
 simp only [pS, pN, pA, pC, pZ]
 refine do_ rfl (.bool false) (ex_neq (b := false) rfl rfl (by decide)) ?_
 simp only [pS, pN, pA, pC, pZ]
 refine wl_nil (hK15 _ _ ?_)
 refine wp_cond_false rfl ?_
 refine wp_skip ?_
 refine hK14 _ _ ?_
 refine wp_seq_k (fun K16 hK16 => region_wl ?_)
 refine do_ rfl (.slice a cs.length c) (ex_move _) ?_
 simp only [pS, pN, pA, pC, pZ]
 refine do_ rfl (.int .i64 ((i2 : Nat) : Int)) (ex_move _) ?_
 simp only [pS, pN, pA, pC, pZ]
 refine stGives S4 rfl (ex_fn (vs := #[(.slice a cs.length c), (.int .i64 ((i2 : Nat) : Int))]) (map2 rfl rfl) rfl (ent_15 _ _)) (fold_spec _ _ _ cs i2 (S4).sat (hl.mono le6) hh hm h300 (by omega)) ?_
 intro v22 w17 F19 S18 le20 R21
 obtain ⟨_, rfl, r25⟩ := R21
 obtain ⟨a23, c24, rfl, h26, h27⟩ := Sl.shape r25
 unfold maxLen at h27
 have h26 : (stateC cs i2).length ≤ c24 := h26
 have r25 : Tns _ (.slice a23 (stateC cs i2).length c24) (stateC cs i2) := r25
 simp only [pS, pN, pA, pC, pZ]
 refine do_ rfl (.tuple #[(.slice a23 (stateC cs i2).length c24), (.int .i64 0)]) (ex_move _) ?_
 simp only [pS, pN, pA, pC, pZ]
 refine do_ rfl (.slice a23 (stateC cs i2).length c24) (ex_extract rfl rfl) ?_
 simp only [pS, pN, pA, pC, pZ]
 refine do_ rfl (.int .i64 0) (ex_extract rfl rfl) ?_
 simp only [pS, pN, pA, pC, pZ]
 refine do_ rfl (.slice a23 (stateC cs i2).length c24) (ex_assign _) ?_
 simp only [pS, pN, pA, pC, pZ]
 refine do_ rfl (.int .i64 0) (ex_assign _) ?_
 simp only [pS, pN, pA, pC, pZ]
 refine wl_nil (hK16 _ _ ?_)
 refine wp_seq_k (fun K28 hK28 => ?_)
 refine wp_seq_k (fun K29 hK29 => region_wl ?_)
 refine do_ rfl (.int .i64 0) (ex_move _) ?_
 simp only [pS, pN, pA, pC, pZ]
 refine do_ rfl (.bool false) (ex_neq (b := false) rfl rfl (by decide)) ?_
 simp only [pS, pN, pA, pC, pZ]
 refine wl_nil (hK29 _ _ ?_)
 refine wp_cond_false rfl ?_
 refine wp_skip ?_
 refine hK28 _ _ ?_
 refine wp_seq_k (fun K30 hK30 => region_wl ?_)
 refine do_ rfl (.slice none 0 0) (ex_assign _) ?_
 simp only [pS, pN, pA, pC, pZ]
 refine wl_nil (hK30 _ _ ?_)
 refine wp_seq_k (fun K31 hK31 => ?_)
 refine wp_seq_k (fun K32 hK32 => region_wl ?_)
 refine do_ rfl (.slice a9 (stateC cs i1).length c10) (ex_move _) ?_
 simp only [pS, pN, pA, pC, pZ]
 refine do_ rfl (.slice a23 (stateC cs i2).length c24) (ex_move _) ?_
 simp only [pS, pN, pA, pC, pZ]
 refine stNew S18 (v := fun n => .slice (some ⟨n, 0, none⟩) 2 2) rfl (ex_lit (ps := #[(0, (.slice a9 (stateC cs i1).length c10)), (1, (.slice a23 (stateC cs i2).length c24))]) (cells := #[(.slice a9 (stateC cs i1).length c10), (.slice a23 (stateC cs i2).length c24)]) (E := 52) (bmap2 rfl rfl) (fun w => by kernel_rfl)) (fun n33 w34 S35 => ?_)
 simp only [pS, pN, pA, pC, pZ]
 have S35 : St w F w34 F19 [⟨n33, [(.slice a9 (stateC cs i1).length c10), (.slice a23 (stateC cs i2).length c24)], 52⟩] [] := S35
 obtain ⟨S36, le37, hc38⟩ := St.freezeBlk S35 (i := 0) rfl
 have r40 : Frs _ (.slice (some ⟨n33, 0, none⟩) 2 2) [(stateC cs i1), (stateC cs i2)] := sl_of_block (R := FrC) (l := [(stateC cs i1), (stateC cs i2)]) (el := [[(.slice a9 (stateC cs i1).length c10)], [(.slice a23 (stateC cs i2).length c24)]]) hc38 rfl ⟨⟨_, rfl, (r11.mono le20).mono le37⟩, ⟨_, rfl, r25.mono le37⟩, trivial⟩ (by simp) (by unfold maxLen; simp)
 generalize addF F19 w34 n33 = F39 at *
 have S36 : St w F w34 F39 [] [] := S36
 refine stGives S36 rfl (ex_fn (vs := #[(.slice (some ⟨n33, 0, none⟩) 2 2)]) (map1 rfl) rfl (ent_33 _ _)) (places_spec _ _ _ [(stateC cs i1), (stateC cs i2)] (S36).sat r40 (by intro f hf; rcases List.mem_cons.1 hf with rfl | hf; exact okA; rw [List.mem_singleton.1 hf]; exact okB) (by simp)) ?_
 intro v46 w41 F43 S42 le44 R45
 obtain ⟨so, hperm, hsort, R45⟩ := R45
 simp only [List.flatMap_cons, List.flatMap_nil, List.append_nil] at hperm
 have hpl := places_of okA okB hperm hsort
 have hpn := pls_len okA okB hperm
 generalize compactW so = ps at R45 hpl hpn
 obtain ⟨a47, c48, rfl, h49, h50⟩ := Sl.shape R45
 unfold maxLen at h50
 simp only [pS, pN, pA, pC, pZ]
 refine do_ rfl (.int .i64 ((ps.length : Nat) : Int)) (ex_len Try.underlying47 rfl) ?_
 simp only [pS, pN, pA, pC, pZ]
 refine do_ rfl (.int .i64 0) (ex_move _) ?_
 simp only [pS, pN, pA, pC, pZ]
 refine wl_nil (hK32 _ _ ?_)
 refine wp_block ?_
 have S51 := St.addNil S42 4 WrC WrC.mono 27 w.heap.size
 have S51 : St w F w41 F43 [] [ownP 4 WrC WrC.mono 27 w.heap.size (.slice none 0 0) (chgs (stateC cs i1) (stateC cs i2) (ps.take 0))] := S51
 refine wp_loop_g (fun mm aa w54 => ∃ (i : Nat) (v : Value) (F52 : Fz) (u53 : Nat → Value), mm = ps.length - i ∧ u53 = slots aa ∧ aa = ⟨#[(.slice a cs.length c), (.int .i64 ((i1 : Nat) : Int)), (.int .i64 ((i2 : Nat) : Int)), undef, undef, undef, (.slice none 0 0), (.int .i64 0), (.slice a9 (stateC cs i1).length c10), (.int .i64 0), (.slice a23 (stateC cs i2).length c24), v, undef, (u53 13), (u53 14), (u53 15), (u53 16), (u53 17), (.tuple #[(.slice a9 (stateC cs i1).length c10), (.int .i64 0)]), (.slice a cs.length c), (.int .i64 ((i1 : Nat) : Int)), (.tuple #[(.slice a9 (stateC cs i1).length c10), (.int .i64 0)]), (.slice a9 (stateC cs i1).length c10), (.int .i64 0), (.int .i64 0), (.bool false), undef, (.tuple #[(.slice a23 (stateC cs i2).length c24), (.int .i64 0)]), (.slice a cs.length c), (.int .i64 ((i2 : Nat) : Int)), (.tuple #[(.slice a23 (stateC cs i2).length c24), (.int .i64 0)]), (.slice a23 (stateC cs i2).length c24), (.int .i64 0), (.int .i64 0), (.bool false), undef, (.slice a9 (stateC cs i1).length c10), (.slice a23 (stateC cs i2).length c24), (.slice (some ⟨n33, 0, none⟩) 2 2), (.slice a47 ps.length c48), (.int .i64 ((ps.length : Nat) : Int)), (.int .i64 ((i : Nat) : Int)), (u53 42), (u53 43), (u53 44), (u53 45), (u53 46), (u53 47), (u53 48), (u53 49), (u53 50), (u53 51), (u53 52), (u53 53), (u53 54), (u53 55), (u53 56), (u53 57), (u53 58), (u53 59), (u53 60), (u53 61), (u53 62), (u53 63), (u53 64), (u53 65), (u53 66), (u53 67), (u53 68), (u53 69), (u53 70), (u53 71), (u53 72), (u53 73), (u53 74), (u53 75), (u53 76), (u53 77), (u53 78), (u53 79), (u53 80), (u53 81), (u53 82), (u53 83), (u53 84), (u53 85), (u53 86), undef], []⟩ ∧ St w F w54 F52 [] [ownP 4 WrC WrC.mono 27 w.heap.size v (chgs (stateC cs i1) (stateC cs i2) (ps.take i))] ∧ Le F43 F52 ∧ (i ≤ ps.length)) _ ⟨0, (.slice none 0 0), F43, _, rfl, rfl, rfl, S51, Le.refl _, (by omega)⟩ ?_
 rintro m55 a56 w57 ⟨i, v, F52, u53, rfl, -, rfl, S58, le59, hi⟩ K60 hK60
 refine wp_seq_k (fun K61 hK61 => region_wl ?_)
 by_cases hc42 : i < ps.length
 ·refine do_ rfl (.bool true) (ex_lss (m := ((i : Nat) : Int)) (n := ((ps.length : Nat) : Int)) (b := true) rfl rfl (decide_eq_true (by omega))) ?_
  simp only [pS, pN, pA, pC, pZ]
  refine wl_nil (hK61 _ _ ?_)
  refine wp_seq_k (fun K62 hK62 => ?_)
  refine wp_cond_true rfl ?_
  refine wp_skip ?_
  refine hK62 _ _ ?_
  refine wp_seq_k (fun K63 hK63 => ?_)
  refine wp_block ?_
  refine wp_seq_k (fun K64 hK64 => ?_)
  obtain ⟨p, hp⟩ : ∃ p, ps[i]? = some p := ⟨ps[i], List.getElem?_eq_getElem hc42⟩
  have hco := chg_ok okA okB hpl (List.mem_of_getElem? hp)
  obtain ⟨b65, o66, ha67, xa69, xc70, xa73, xc74, xa78, xc79, c68, c72, c76, c77, r71, r75, r80⟩ := Wrs.get (R45.mono le59) hp
  refine region_wl ?_
  refine do_ rfl (.pointer (some ⟨b65, o66 + i * 4, none⟩)) (ex_at (i := i) (sz := 4) Try.underlying47 (sizeof_27 _) rfl ha67 rfl (by omega) rfl) ?_
  simp only [pS, pN, pA, pC, pZ]
  refine do_ rfl (.agg #[(.slice xa69 p.name.length xc70), (.slice xa73 p.key.length xc74), (.bool p.gone), (.slice xa78 p.value.length xc79)]) (ex_load rfl (loadN (cs := [(.slice xa69 p.name.length xc70), (.slice xa73 p.key.length xc74), (.bool p.gone), (.slice xa78 p.value.length xc79)]) Try.underlying27 rfl (size_27) (range4 (St.fz S58 c68) (St.fz S58 c72) (St.fz S58 c76) (St.fz S58 c77)))) ?_
  simp only [pS, pN, pA, pC, pZ]
  refine stNew S58 (v := fun n => .pointer (some ⟨n, 0, none⟩)) rfl (ex_alloc (zero_27 _)) (fun n81 w82 S83 => ?_)
  simp only [pS, pN, pA, pC, pZ]
  have S83 : St w F w82 F52 [⟨n81, [(.slice none 0 0), (.slice none 0 0), (.bool false), (.slice none 0 0)], 27⟩] [ownP 4 WrC WrC.mono 27 w.heap.size v (chgs (stateC cs i1) (stateC cs i2) (ps.take i))] := S83
  refine stStore (i := 0) (v := (.agg #[(.slice xa69 p.name.length xc70), (.slice xa73 p.key.length xc74), (.bool p.gone), (.slice xa78 p.value.length xc79)])) S83 rfl rfl rfl rfl (size_27) (allc4 rfl rfl rfl rfl) (Nat.le_of_ble_eq_true rfl) (fun w84 S85 => ?_)
  simp only [pS, pN, pA, pC, pZ]
  have S85 : St w F w84 F52 [⟨n81, [(.slice xa69 p.name.length xc70), (.slice xa73 p.key.length xc74), (.bool p.gone), (.slice xa78 p.value.length xc79)], 27⟩] [ownP 4 WrC WrC.mono 27 w.heap.size v (chgs (stateC cs i1) (stateC cs i2) (ps.take i))] := S85
  refine wl_nil (hK64 _ _ ?_)
  refine wp_seq_k (fun K86 hK86 => region_wl ?_)
  refine do_ rfl (.slice a9 (stateC cs i1).length c10) (ex_move _) ?_
  simp only [pS, pN, pA, pC, pZ]
  refine do_ rfl (.pointer (some ⟨n81, 0, none⟩)) (ex_field (q := ⟨n81, 0, none⟩) rfl (fa_27_0 _ _)) ?_
  simp only [pS, pN, pA, pC, pZ]
  refine do_ rfl (.slice xa69 p.name.length xc70) (ex_load rfl (load1 (nagg_25 _) (St.cell S85 (i := 0) rfl rfl))) ?_
  simp only [pS, pN, pA, pC, pZ]
  refine do_ rfl (.pointer (some ⟨n81, 1, none⟩)) (ex_field (q := ⟨n81, 1, none⟩) rfl (fa_27_1 _ _)) ?_
  simp only [pS, pN, pA, pC, pZ]
  refine do_ rfl (.slice xa73 p.key.length xc74) (ex_load rfl (load1 (nagg_25 _) (St.cell S85 (i := 0) rfl rfl))) ?_
  simp only [pS, pN, pA, pC, pZ]
  refine stGives S85 rfl (ex_fn (vs := #[(.slice a9 (stateC cs i1).length c10), (.slice xa69 p.name.length xc70), (.slice xa73 p.key.length xc74)]) (map3 rfl rfl rfl) rfl (ent_16 _ _)) (getF_spec _ _ _ _ _ (stateC cs i1) p.name p.key (S85).sat (r11.mono (((le20.trans le37).trans le44).trans le59)) r71 r75 okA hco.1 hco.2) ?_
  intro v92 w87 F89 S88 le90 R91
  obtain ⟨_, rfl, a93, c94, rfl, r95⟩ := R91
  have r95 : Bs _ (.slice a93 ((getF (stateC cs i1) p.name p.key).getD []).length c94) ((getF (stateC cs i1) p.name p.key).getD []) := r95
  simp only [pS, pN, pA, pC, pZ]
  refine do_ rfl (.tuple #[(.agg #[(.bool (getF (stateC cs i1) p.name p.key).isSome), (.slice a93 ((getF (stateC cs i1) p.name p.key).getD []).length c94)]), (.int .i64 0)]) (ex_move _) ?_
  simp only [pS, pN, pA, pC, pZ]
  refine do_ rfl (.agg #[(.bool (getF (stateC cs i1) p.name p.key).isSome), (.slice a93 ((getF (stateC cs i1) p.name p.key).getD []).length c94)]) (ex_extract rfl rfl) ?_
  simp only [pS, pN, pA, pC, pZ]
  refine do_ rfl (.int .i64 0) (ex_extract rfl rfl) ?_
  simp only [pS, pN, pA, pC, pZ]
  refine stNew S88 (v := fun n => .pointer (some ⟨n, 0, none⟩)) rfl (ex_alloc (zero_38 _)) (fun n96 w97 S98 => ?_)
  simp only [pS, pN, pA, pC, pZ]
  have S98 : St w F w97 F89 [⟨n96, [(.bool false), (.slice none 0 0)], 38⟩, ⟨n81, [(.slice xa69 p.name.length xc70), (.slice xa73 p.key.length xc74), (.bool p.gone), (.slice xa78 p.value.length xc79)], 27⟩] [ownP 4 WrC WrC.mono 27 w.heap.size v (chgs (stateC cs i1) (stateC cs i2) (ps.take i))] := S98
  refine stStore (i := 0) (v := (.agg #[(.bool (getF (stateC cs i1) p.name p.key).isSome), (.slice a93 ((getF (stateC cs i1) p.name p.key).getD []).length c94)])) S98 rfl rfl rfl rfl (size_38) (allc2 rfl rfl) (Nat.le_of_ble_eq_true rfl) (fun w99 S100 => ?_)
  simp only [pS, pN, pA, pC, pZ]
  have S100 : St w F w99 F89 [⟨n96, [(.bool (getF (stateC cs i1) p.name p.key).isSome), (.slice a93 ((getF (stateC cs i1) p.name p.key).getD []).length c94)], 38⟩, ⟨n81, [(.slice xa69 p.name.length xc70), (.slice xa73 p.key.length xc74), (.bool p.gone), (.slice xa78 p.value.length xc79)], 27⟩] [ownP 4 WrC WrC.mono 27 w.heap.size v (chgs (stateC cs i1) (stateC cs i2) (ps.take i))] := S100
  refine do_ rfl (.int .i64 0) (ex_assign _) ?_
  simp only [pS, pN, pA, pC, pZ]
  refine wl_nil (hK86 _ _ ?_)
  refine wp_seq_k (fun K101 hK101 => region_wl ?_)
  refine do_ rfl (.slice a23 (stateC cs i2).length c24) (ex_move _) ?_
  simp only [pS, pN, pA, pC, pZ]
  refine do_ rfl (.pointer (some ⟨n81, 0, none⟩)) (ex_field (q := ⟨n81, 0, none⟩) rfl (fa_27_0 _ _)) ?_
  simp only [pS, pN, pA, pC, pZ]
  refine do_ rfl (.slice xa69 p.name.length xc70) (ex_load rfl (load1 (nagg_25 _) (St.cell S100 (i := 1) rfl rfl))) ?_
  simp only [pS, pN, pA, pC, pZ]
  refine do_ rfl (.pointer (some ⟨n81, 1, none⟩)) (ex_field (q := ⟨n81, 1, none⟩) rfl (fa_27_1 _ _)) ?_
  simp only [pS, pN, pA, pC, pZ]
  refine do_ rfl (.slice xa73 p.key.length xc74) (ex_load rfl (load1 (nagg_25 _) (St.cell S100 (i := 1) rfl rfl))) ?_
  simp only [pS, pN, pA, pC, pZ]
  refine stGives S100 rfl (ex_fn (vs := #[(.slice a23 (stateC cs i2).length c24), (.slice xa69 p.name.length xc70), (.slice xa73 p.key.length xc74)]) (map3 rfl rfl rfl) rfl (ent_16 _ _)) (getF_spec _ _ _ _ _ (stateC cs i2) p.name p.key (S100).sat (r25.mono (((le37.trans le44).trans le59).trans le90)) (r71.mono le90) (r75.mono le90) okB hco.1 hco.2) ?_
  intro v107 w102 F104 S103 le105 R106
  obtain ⟨_, rfl, a108, c109, rfl, r110⟩ := R106
  have r110 : Bs _ (.slice a108 ((getF (stateC cs i2) p.name p.key).getD []).length c109) ((getF (stateC cs i2) p.name p.key).getD []) := r110
  simp only [pS, pN, pA, pC, pZ]
  refine do_ rfl (.tuple #[(.agg #[(.bool (getF (stateC cs i2) p.name p.key).isSome), (.slice a108 ((getF (stateC cs i2) p.name p.key).getD []).length c109)]), (.int .i64 0)]) (ex_move _) ?_
  simp only [pS, pN, pA, pC, pZ]
  refine do_ rfl (.agg #[(.bool (getF (stateC cs i2) p.name p.key).isSome), (.slice a108 ((getF (stateC cs i2) p.name p.key).getD []).length c109)]) (ex_extract rfl rfl) ?_
  simp only [pS, pN, pA, pC, pZ]
  refine do_ rfl (.int .i64 0) (ex_extract rfl rfl) ?_
  simp only [pS, pN, pA, pC, pZ]
  refine stNew S103 (v := fun n => .pointer (some ⟨n, 0, none⟩)) rfl (ex_alloc (zero_38 _)) (fun n111 w112 S113 => ?_)
  simp only [pS, pN, pA, pC, pZ]
  have S113 : St w F w112 F104 [⟨n111, [(.bool false), (.slice none 0 0)], 38⟩, ⟨n96, [(.bool (getF (stateC cs i1) p.name p.key).isSome), (.slice a93 ((getF (stateC cs i1) p.name p.key).getD []).length c94)], 38⟩, ⟨n81, [(.slice xa69 p.name.length xc70), (.slice xa73 p.key.length xc74), (.bool p.gone), (.slice xa78 p.value.length xc79)], 27⟩] [ownP 4 WrC WrC.mono 27 w.heap.size v (chgs (stateC cs i1) (stateC cs i2) (ps.take i))] := S113
  refine stStore (i := 0) (v := (.agg #[(.bool (getF (stateC cs i2) p.name p.key).isSome), (.slice a108 ((getF (stateC cs i2) p.name p.key).getD []).length c109)])) S113 rfl rfl rfl rfl (size_38) (allc2 rfl rfl) (Nat.le_of_ble_eq_true rfl) (fun w114 S115 => ?_)
  simp only [pS, pN, pA, pC, pZ]
  have S115 : St w F w114 F104 [⟨n111, [(.bool (getF (stateC cs i2) p.name p.key).isSome), (.slice a108 ((getF (stateC cs i2) p.name p.key).getD []).length c109)], 38⟩, ⟨n96, [(.bool (getF (stateC cs i1) p.name p.key).isSome), (.slice a93 ((getF (stateC cs i1) p.name p.key).getD []).length c94)], 38⟩, ⟨n81, [(.slice xa69 p.name.length xc70), (.slice xa73 p.key.length xc74), (.bool p.gone), (.slice xa78 p.value.length xc79)], 27⟩] [ownP 4 WrC WrC.mono 27 w.heap.size v (chgs (stateC cs i1) (stateC cs i2) (ps.take i))] := S115
  refine do_ rfl (.int .i64 0) (ex_assign _) ?_
  simp only [pS, pN, pA, pC, pZ]
  refine wl_nil (hK101 _ _ ?_)
  refine wp_seq_k (fun K116 hK116 => ?_)
  refine wp_seq_k (fun K117 hK117 => ?_)
  by_cases hce : (getF (stateC cs i1) p.name p.key).isSome = (getF (stateC cs i2) p.name p.key).isSome
  ·by_cases hcv : (getF (stateC cs i1) p.name p.key).getD [] = (getF (stateC cs i2) p.name p.key).getD []
   ·have heq := chg_skip.1 ⟨hce, hcv⟩
    refine region_wl ?_
    refine do_ rfl (.pointer (some ⟨n96, 0, none⟩)) (ex_field (q := ⟨n96, 0, none⟩) rfl (fa_38_0 _ _)) ?_
    simp only [pS, pN, pA, pC, pZ]
    refine do_ rfl (.bool (getF (stateC cs i1) p.name p.key).isSome) (ex_load rfl (load1 (nagg_4 _) (St.cell S115 (i := 1) rfl rfl))) ?_
    simp only [pS, pN, pA, pC, pZ]
    refine do_ rfl (.pointer (some ⟨n111, 0, none⟩)) (ex_field (q := ⟨n111, 0, none⟩) rfl (fa_38_0 _ _)) ?_
    simp only [pS, pN, pA, pC, pZ]
    refine do_ rfl (.bool (getF (stateC cs i2) p.name p.key).isSome) (ex_load rfl (load1 (nagg_4 _) (St.cell S115 (i := 0) rfl rfl))) ?_
    simp only [pS, pN, pA, pC, pZ]
    refine do_ rfl (.bool true) (ex_eqlB Try.underlying4 rfl rfl (beq_iff_eq.2 hce)) ?_
    simp only [pS, pN, pA, pC, pZ]
    refine do_ rfl (.bool true) (ex_move _) ?_
    simp only [pS, pN, pA, pC, pZ]
    refine do_ rfl (.pointer (some ⟨n96, 1, none⟩)) (ex_field (q := ⟨n96, 1, none⟩) rfl (fa_38_1 _ _)) ?_
    simp only [pS, pN, pA, pC, pZ]
    refine do_ rfl (.slice a93 ((getF (stateC cs i1) p.name p.key).getD []).length c94) (ex_load rfl (load1 (nagg_25 _) (St.cell S115 (i := 1) rfl rfl))) ?_
    simp only [pS, pN, pA, pC, pZ]
    refine do_ rfl (.pointer (some ⟨n111, 1, none⟩)) (ex_field (q := ⟨n111, 1, none⟩) rfl (fa_38_1 _ _)) ?_
    simp only [pS, pN, pA, pC, pZ]
    refine do_ rfl (.slice a108 ((getF (stateC cs i2) p.name p.key).getD []).length c109) (ex_load rfl (load1 (nagg_25 _) (St.cell S115 (i := 0) rfl rfl))) ?_
    simp only [pS, pN, pA, pC, pZ]
    refine stTells (v := (.bool true)) S115 rfl (ex_fn (vs := #[(.slice a93 ((getF (stateC cs i1) p.name p.key).getD []).length c94), (.slice a108 ((getF (stateC cs i2) p.name p.key).getD []).length c109)]) (map2 rfl rfl) rfl (ent_34 _ _)) (tells_bool (equalH_spec _ _ _ _ ((getF (stateC cs i1) p.name p.key).getD []) ((getF (stateC cs i2) p.name p.key).getD []) (S115).sat (r95.mono le105) r110) (beq_iff_eq.2 hcv)) (fun w118 S119 => ?_)
    simp only [pS, pN, pA, pC, pZ]
    refine do_ rfl (.bool true) (ex_pick (b := true) rfl) ?_
    simp only [pS, pN, pA, pC, pZ]
    refine wl_nil (hK117 _ _ ?_)
    refine wp_cond_true rfl ?_
    refine wp_exit ?_
    refine hK63 _ _ ?_
    refine region_wl ?_
    refine do_ rfl (.int .i64 (((i + 1) : Nat) : Int)) (ex_add (m := ((i : Nat) : Int)) (n := (1 : Int)) (r := (((i + 1) : Nat) : Int)) rfl rfl (by omega) (by omega) (by omega)) ?_
    simp only [pS, pN, pA, pC, pZ]
    refine do_ rfl (.int .i64 (((i + 1) : Nat) : Int)) (ex_move _) ?_
    simp only [pS, pN, pA, pC, pZ]
    refine wl_nil ?_
    have S119 := St.drop S119 (L' := []) (.cons _ (.cons _ (.cons _ (List.Sublist.refl _))))
    have he120 := chgs_less hp heq
    rw [he120] at S119
    exact hK60 _ _ _ (by omega) ⟨(i + 1), v, F104, _, rfl, rfl, rfl, S119, ((le59.trans le90).trans le105), (by omega)⟩
   ·have hne : ¬ (getF (stateC cs i1) p.name p.key) = (getF (stateC cs i2) p.name p.key) := fun e => hcv (by rw [e])
    refine region_wl ?_
    refine do_ rfl (.pointer (some ⟨n96, 0, none⟩)) (ex_field (q := ⟨n96, 0, none⟩) rfl (fa_38_0 _ _)) ?_
    simp only [pS, pN, pA, pC, pZ]
    refine do_ rfl (.bool (getF (stateC cs i1) p.name p.key).isSome) (ex_load rfl (load1 (nagg_4 _) (St.cell S115 (i := 1) rfl rfl))) ?_
    simp only [pS, pN, pA, pC, pZ]
    refine do_ rfl (.pointer (some ⟨n111, 0, none⟩)) (ex_field (q := ⟨n111, 0, none⟩) rfl (fa_38_0 _ _)) ?_
    simp only [pS, pN, pA, pC, pZ]
    refine do_ rfl (.bool (getF (stateC cs i2) p.name p.key).isSome) (ex_load rfl (load1 (nagg_4 _) (St.cell S115 (i := 0) rfl rfl))) ?_
    simp only [pS, pN, pA, pC, pZ]
    refine do_ rfl (.bool true) (ex_eqlB Try.underlying4 rfl rfl (beq_iff_eq.2 hce)) ?_
    simp only [pS, pN, pA, pC, pZ]
    refine do_ rfl (.bool true) (ex_move _) ?_
    simp only [pS, pN, pA, pC, pZ]
    refine do_ rfl (.pointer (some ⟨n96, 1, none⟩)) (ex_field (q := ⟨n96, 1, none⟩) rfl (fa_38_1 _ _)) ?_
    simp only [pS, pN, pA, pC, pZ]
    refine do_ rfl (.slice a93 ((getF (stateC cs i1) p.name p.key).getD []).length c94) (ex_load rfl (load1 (nagg_25 _) (St.cell S115 (i := 1) rfl rfl))) ?_
    simp only [pS, pN, pA, pC, pZ]
    refine do_ rfl (.pointer (some ⟨n111, 1, none⟩)) (ex_field (q := ⟨n111, 1, none⟩) rfl (fa_38_1 _ _)) ?_
    simp only [pS, pN, pA, pC, pZ]
    refine do_ rfl (.slice a108 ((getF (stateC cs i2) p.name p.key).getD []).length c109) (ex_load rfl (load1 (nagg_25 _) (St.cell S115 (i := 0) rfl rfl))) ?_
    simp only [pS, pN, pA, pC, pZ]
    refine stTells (v := (.bool false)) S115 rfl (ex_fn (vs := #[(.slice a93 ((getF (stateC cs i1) p.name p.key).getD []).length c94), (.slice a108 ((getF (stateC cs i2) p.name p.key).getD []).length c109)]) (map2 rfl rfl) rfl (ent_34 _ _)) (tells_bool (equalH_spec _ _ _ _ ((getF (stateC cs i1) p.name p.key).getD []) ((getF (stateC cs i2) p.name p.key).getD []) (S115).sat (r95.mono le105) r110) (beq_eq_false_iff_ne.2 hcv)) (fun w121 S122 => ?_)
    simp only [pS, pN, pA, pC, pZ]
    refine do_ rfl (.bool false) (ex_pick (b := true) rfl) ?_
    simp only [pS, pN, pA, pC, pZ]
    refine wl_nil (hK117 _ _ ?_)
    refine wp_cond_false rfl ?_
    refine wp_skip ?_
    refine hK116 _ _ ?_
    refine wp_seq_k (fun K123 hK123 => ?_)
    obtain ⟨S124, le125, hc126⟩ := St.freezeBlk S122 (i := 0) rfl
    generalize addF F104 w121 n111 = F127 at *
    have S124 : St w F w121 F127 [⟨n96, [(.bool (getF (stateC cs i1) p.name p.key).isSome), (.slice a93 ((getF (stateC cs i1) p.name p.key).getD []).length c94)], 38⟩, ⟨n81, [(.slice xa69 p.name.length xc70), (.slice xa73 p.key.length xc74), (.bool p.gone), (.slice xa78 p.value.length xc79)], 27⟩] [ownP 4 WrC WrC.mono 27 w.heap.size v (chgs (stateC cs i1) (stateC cs i2) (ps.take i))] := S124
    refine region_hl S124 (by kernel_rfl) (fun w129 S128 => ?_)
    refine hl_take 0 rfl (by kernel_rfl) (v := (.pointer (some ⟨n111, 0, none⟩))) (fun _ _ _ h => h) S128.sat rfl (fun w130 hs131 => ex_field (q := ⟨n111, 0, none⟩) rfl (fa_38_0 _ _)) ?_
    simp only [pS, pN, pA, pC, pZ]
    refine hl_take 1 rfl (by kernel_rfl) (v := (.bool (getF (stateC cs i2) p.name p.key).isSome)) (fun _ _ _ h => h) S128.sat rfl (fun w132 hs133 => ex_load rfl (load1 (nagg_4 _) (St.fz (St.start hs133) (hc126 0 _ rfl)))) ?_
    simp only [pS, pN, pA, pC, pZ]
    refine hl_take 2 rfl (by kernel_rfl) (v := (.bool (!(getF (stateC cs i2) p.name p.key).isSome))) (fun _ _ _ h => h) S128.sat rfl (fun w134 hs135 => ex_not rfl rfl) ?_
    simp only [pS, pN, pA, pC, pZ]
    refine hl_take 3 rfl (by kernel_rfl) (v := (.pointer (some ⟨n111, 1, none⟩))) (fun _ _ _ h => h) S128.sat rfl (fun w136 hs137 => ex_field (q := ⟨n111, 1, none⟩) rfl (fa_38_1 _ _)) ?_
    simp only [pS, pN, pA, pC, pZ]
    refine hl_take 4 rfl (by kernel_rfl) (v := (.slice a108 ((getF (stateC cs i2) p.name p.key).getD []).length c109)) (fun _ _ _ h => h) S128.sat rfl (fun w138 hs139 => ex_load rfl (load1 (nagg_25 _) (St.fz (St.start hs139) (hc126 1 _ rfl)))) ?_
    simp only [pS, pN, pA, pC, pZ]
    refine hl_take 5 rfl (by kernel_rfl) (v := (.pointer (some ⟨n81, 2, none⟩))) (fun _ _ _ h => h) S128.sat rfl (fun w140 hs141 => ex_field (q := ⟨n81, 2, none⟩) rfl (fa_27_2 _ _)) ?_
    simp only [pS, pN, pA, pC, pZ]
    refine hl_next 6 (by kernel_rfl) rfl ?_
    refine stStore (i := 1) (v := (.bool (!(getF (stateC cs i2) p.name p.key).isSome))) S128 rfl rfl rfl rfl (size_4) (allc1 rfl) (Nat.le_of_ble_eq_true rfl) (fun w142 S143 => ?_)
    simp only [pS, pN, pA, pC, pZ]
    have S143 : St w F w142 F127 [⟨n96, [(.bool (getF (stateC cs i1) p.name p.key).isSome), (.slice a93 ((getF (stateC cs i1) p.name p.key).getD []).length c94)], 38⟩, ⟨n81, [(.slice xa69 p.name.length xc70), (.slice xa73 p.key.length xc74), (.bool (!(getF (stateC cs i2) p.name p.key).isSome)), (.slice xa78 p.value.length xc79)], 27⟩] [ownP 4 WrC WrC.mono 27 w.heap.size v (chgs (stateC cs i1) (stateC cs i2) (ps.take i))] := S143
    refine wl_nil (hl_back S143.sat ?_)
    refine hl_take 7 rfl (by kernel_rfl) (v := (.pointer (some ⟨n81, 3, none⟩))) (fun _ _ _ h => h) S143.sat rfl (fun w144 hs145 => ex_field (q := ⟨n81, 3, none⟩) rfl (fa_27_3 _ _)) ?_
    simp only [pS, pN, pA, pC, pZ]
    refine hl_next 8 (by kernel_rfl) rfl ?_
    refine stStore (i := 1) (v := (.slice a108 ((getF (stateC cs i2) p.name p.key).getD []).length c109)) S143 rfl rfl rfl rfl (size_25) (allc1 rfl) (Nat.le_of_ble_eq_true rfl) (fun w146 S147 => ?_)
    simp only [pS, pN, pA, pC, pZ]
    have S147 : St w F w146 F127 [⟨n96, [(.bool (getF (stateC cs i1) p.name p.key).isSome), (.slice a93 ((getF (stateC cs i1) p.name p.key).getD []).length c94)], 38⟩, ⟨n81, [(.slice xa69 p.name.length xc70), (.slice xa73 p.key.length xc74), (.bool (!(getF (stateC cs i2) p.name p.key).isSome)), (.slice a108 ((getF (stateC cs i2) p.name p.key).getD []).length c109)], 27⟩] [ownP 4 WrC WrC.mono 27 w.heap.size v (chgs (stateC cs i1) (stateC cs i2) (ps.take i))] := S147
    refine wl_nil (hl_back S147.sat ?_)
    refine hl_done (by kernel_rfl) ?_
    refine hK123 _ _ ?_
    refine region_wl ?_
    refine do_ rfl v (ex_move _) ?_
    simp only [pS, pN, pA, pC, pZ]
    refine do_ rfl (.agg #[(.slice xa69 p.name.length xc70), (.slice xa73 p.key.length xc74), (.bool (!(getF (stateC cs i2) p.name p.key).isSome)), (.slice a108 ((getF (stateC cs i2) p.name p.key).getD []).length c109)]) (ex_load rfl (loadN (cs := [(.slice xa69 p.name.length xc70), (.slice xa73 p.key.length xc74), (.bool (!(getF (stateC cs i2) p.name p.key).isSome)), (.slice a108 ((getF (stateC cs i2) p.name p.key).getD []).length c109)]) Try.underlying27 rfl (size_27) (St.range S147 (i := 1) rfl 0 [(.slice xa69 p.name.length xc70), (.slice xa73 p.key.length xc74), (.bool (!(getF (stateC cs i2) p.name p.key).isSome)), (.slice a108 ((getF (stateC cs i2) p.name p.key).getD []).length c109)] (sub_range 0 rfl)))) ?_
    simp only [pS, pN, pA, pC, pZ]
    refine stNew S147 (v := fun n => .slice (some ⟨n, 0, none⟩) 1 1) rfl (ex_lit (ps := #[(0, (.agg #[(.slice xa69 p.name.length xc70), (.slice xa73 p.key.length xc74), (.bool (!(getF (stateC cs i2) p.name p.key).isSome)), (.slice a108 ((getF (stateC cs i2) p.name p.key).getD []).length c109)]))]) (cells := #[(.slice xa69 p.name.length xc70), (.slice xa73 p.key.length xc74), (.bool (!(getF (stateC cs i2) p.name p.key).isSome)), (.slice a108 ((getF (stateC cs i2) p.name p.key).getD []).length c109)]) (E := 27) (bmap1 rfl) (fun w => by kernel_rfl)) (fun n148 w149 S150 => ?_)
    simp only [pS, pN, pA, pC, pZ]
    have S150 : St w F w149 F127 [⟨n148, [(.slice xa69 p.name.length xc70), (.slice xa73 p.key.length xc74), (.bool (!(getF (stateC cs i2) p.name p.key).isSome)), (.slice a108 ((getF (stateC cs i2) p.name p.key).getD []).length c109)], 27⟩, ⟨n96, [(.bool (getF (stateC cs i1) p.name p.key).isSome), (.slice a93 ((getF (stateC cs i1) p.name p.key).getD []).length c94)], 38⟩, ⟨n81, [(.slice xa69 p.name.length xc70), (.slice xa73 p.key.length xc74), (.bool (!(getF (stateC cs i2) p.name p.key).isSome)), (.slice a108 ((getF (stateC cs i2) p.name p.key).getD []).length c109)], 27⟩] [ownP 4 WrC WrC.mono 27 w.heap.size v (chgs (stateC cs i1) (stateC cs i2) (ps.take i))] := S150
    have hcg := chgs_len (stateC cs i1) (stateC cs i2) (ps.take i)
    have hcl2 := List.length_take_le i ps
    refine stPush (i := 0) (r := 0) (p := (chgW (stateC cs i2) p)) (cs := [(.slice xa69 p.name.length xc70), (.slice xa73 p.key.length xc74), (.bool (!(getF (stateC cs i2) p.name p.key).isSome)), (.slice a108 ((getF (stateC cs i2) p.name p.key).getD []).length c109)]) S150 rfl i27 (.agg #[(.slice none 0 0), (.slice none 0 0), (.bool false), (.slice none 0 0)]) 80 Try.underlying47 hi27 hz27 hs27 hb27 rfl (by decide) rfl rfl rfl rfl rfl (WrC.oneCell (p := chgW (stateC cs i2) p) ⟨_, _, _, _, rfl, (r71.mono ((le90.trans le105).trans le125)), (r75.mono ((le90.trans le105).trans le125)), rfl, (r110.mono le125)⟩) (⟨_, _, _, _, rfl, (r71.mono ((le90.trans le105).trans le125)), (r75.mono ((le90.trans le105).trans le125)), rfl, (r110.mono le125)⟩) (Nat.le_refl _) S150.gr.below.size (by unfold maxLen; omega) (by omega) ?_
    intro v151 w152 S153 hn154
    simp only [pS, pN, pA, pC, pZ]
    have S153 := St.drop S153 (L' := [⟨n96, [(.bool (getF (stateC cs i1) p.name p.key).isSome), (.slice a93 ((getF (stateC cs i1) p.name p.key).getD []).length c94)], 38⟩, ⟨n81, [(.slice xa69 p.name.length xc70), (.slice xa73 p.key.length xc74), (.bool (!(getF (stateC cs i2) p.name p.key).isSome)), (.slice a108 ((getF (stateC cs i2) p.name p.key).getD []).length c109)], 27⟩]) (.cons _ (List.Sublist.refl _))
    have S153 : St w F w152 F127 [⟨n96, [(.bool (getF (stateC cs i1) p.name p.key).isSome), (.slice a93 ((getF (stateC cs i1) p.name p.key).getD []).length c94)], 38⟩, ⟨n81, [(.slice xa69 p.name.length xc70), (.slice xa73 p.key.length xc74), (.bool (!(getF (stateC cs i2) p.name p.key).isSome)), (.slice a108 ((getF (stateC cs i2) p.name p.key).getD []).length c109)], 27⟩] [ownP 4 WrC WrC.mono 27 w.heap.size v151 ((chgs (stateC cs i1) (stateC cs i2) (ps.take i)) ++ [(chgW (stateC cs i2) p)])] := S153
    refine do_ rfl v151 (ex_assign _) ?_
    simp only [pS, pN, pA, pC, pZ]
    refine wl_nil (hK63 _ _ ?_)
    refine region_wl ?_
    refine do_ rfl (.int .i64 (((i + 1) : Nat) : Int)) (ex_add (m := ((i : Nat) : Int)) (n := (1 : Int)) (r := (((i + 1) : Nat) : Int)) rfl rfl (by omega) (by omega) (by omega)) ?_
    simp only [pS, pN, pA, pC, pZ]
    refine do_ rfl (.int .i64 (((i + 1) : Nat) : Int)) (ex_move _) ?_
    simp only [pS, pN, pA, pC, pZ]
    refine wl_nil ?_
    have S153 := St.drop S153 (L' := []) (.cons _ (.cons _ (List.Sublist.refl _)))
    have he155 := chgs_more hp hne
    rw [he155] at S153
    exact hK60 _ _ _ (by omega) ⟨(i + 1), v151, F127, _, rfl, rfl, rfl, S153, (((le59.trans le90).trans le105).trans le125), (by omega)⟩
  ·have hne : ¬ (getF (stateC cs i1) p.name p.key) = (getF (stateC cs i2) p.name p.key) := fun e => hce (by rw [e])
   refine region_wl ?_
   refine do_ rfl (.pointer (some ⟨n96, 0, none⟩)) (ex_field (q := ⟨n96, 0, none⟩) rfl (fa_38_0 _ _)) ?_
   simp only [pS, pN, pA, pC, pZ]
   refine do_ rfl (.bool (getF (stateC cs i1) p.name p.key).isSome) (ex_load rfl (load1 (nagg_4 _) (St.cell S115 (i := 1) rfl rfl))) ?_
   simp only [pS, pN, pA, pC, pZ]
   refine do_ rfl (.pointer (some ⟨n111, 0, none⟩)) (ex_field (q := ⟨n111, 0, none⟩) rfl (fa_38_0 _ _)) ?_
   simp only [pS, pN, pA, pC, pZ]
   refine do_ rfl (.bool (getF (stateC cs i2) p.name p.key).isSome) (ex_load rfl (load1 (nagg_4 _) (St.cell S115 (i := 0) rfl rfl))) ?_
   simp only [pS, pN, pA, pC, pZ]
   refine do_ rfl (.bool false) (ex_eqlB Try.underlying4 rfl rfl (beq_eq_false_iff_ne.2 hce)) ?_
   simp only [pS, pN, pA, pC, pZ]
   refine do_ rfl (.bool false) (ex_move _) ?_
   simp only [pS, pN, pA, pC, pZ]
   refine doN (wanted_no rfl rfl rfl (c := false) rfl (by decide)) ?_
   simp only [pS, pN, pA, pC, pZ]
   refine doN (wanted_no rfl rfl rfl (c := false) rfl (by decide)) ?_
   simp only [pS, pN, pA, pC, pZ]
   refine doN (wanted_no rfl rfl rfl (c := false) rfl (by decide)) ?_
   simp only [pS, pN, pA, pC, pZ]
   refine doN (wanted_no rfl rfl rfl (c := false) rfl (by decide)) ?_
   simp only [pS, pN, pA, pC, pZ]
   refine doN (wanted_no rfl rfl rfl (c := false) rfl (by decide)) ?_
   simp only [pS, pN, pA, pC, pZ]
   refine do_ rfl (.bool false) (ex_pick (b := false) rfl) ?_
   simp only [pS, pN, pA, pC, pZ]
   refine wl_nil (hK117 _ _ ?_)
   refine wp_cond_false rfl ?_
   refine wp_skip ?_
   refine hK116 _ _ ?_
   refine wp_seq_k (fun K156 hK156 => ?_)
   obtain ⟨S157, le158, hc159⟩ := St.freezeBlk S115 (i := 0) rfl
   generalize addF F104 w114 n111 = F160 at *
   have S157 : St w F w114 F160 [⟨n96, [(.bool (getF (stateC cs i1) p.name p.key).isSome), (.slice a93 ((getF (stateC cs i1) p.name p.key).getD []).length c94)], 38⟩, ⟨n81, [(.slice xa69 p.name.length xc70), (.slice xa73 p.key.length xc74), (.bool p.gone), (.slice xa78 p.value.length xc79)], 27⟩] [ownP 4 WrC WrC.mono 27 w.heap.size v (chgs (stateC cs i1) (stateC cs i2) (ps.take i))] := S157
   refine region_hl S157 (by kernel_rfl) (fun w162 S161 => ?_)
   refine hl_take 0 rfl (by kernel_rfl) (v := (.pointer (some ⟨n111, 0, none⟩))) (fun _ _ _ h => h) S161.sat rfl (fun w163 hs164 => ex_field (q := ⟨n111, 0, none⟩) rfl (fa_38_0 _ _)) ?_
   simp only [pS, pN, pA, pC, pZ]
   refine hl_take 1 rfl (by kernel_rfl) (v := (.bool (getF (stateC cs i2) p.name p.key).isSome)) (fun _ _ _ h => h) S161.sat rfl (fun w165 hs166 => ex_load rfl (load1 (nagg_4 _) (St.fz (St.start hs166) (hc159 0 _ rfl)))) ?_
   simp only [pS, pN, pA, pC, pZ]
   refine hl_take 2 rfl (by kernel_rfl) (v := (.bool (!(getF (stateC cs i2) p.name p.key).isSome))) (fun _ _ _ h => h) S161.sat rfl (fun w167 hs168 => ex_not rfl rfl) ?_
   simp only [pS, pN, pA, pC, pZ]
   refine hl_take 3 rfl (by kernel_rfl) (v := (.pointer (some ⟨n111, 1, none⟩))) (fun _ _ _ h => h) S161.sat rfl (fun w169 hs170 => ex_field (q := ⟨n111, 1, none⟩) rfl (fa_38_1 _ _)) ?_
   simp only [pS, pN, pA, pC, pZ]
   refine hl_take 4 rfl (by kernel_rfl) (v := (.slice a108 ((getF (stateC cs i2) p.name p.key).getD []).length c109)) (fun _ _ _ h => h) S161.sat rfl (fun w171 hs172 => ex_load rfl (load1 (nagg_25 _) (St.fz (St.start hs172) (hc159 1 _ rfl)))) ?_
   simp only [pS, pN, pA, pC, pZ]
   refine hl_take 5 rfl (by kernel_rfl) (v := (.pointer (some ⟨n81, 2, none⟩))) (fun _ _ _ h => h) S161.sat rfl (fun w173 hs174 => ex_field (q := ⟨n81, 2, none⟩) rfl (fa_27_2 _ _)) ?_
   simp only [pS, pN, pA, pC, pZ]
   refine hl_next 6 (by kernel_rfl) rfl ?_
   refine stStore (i := 1) (v := (.bool (!(getF (stateC cs i2) p.name p.key).isSome))) S161 rfl rfl rfl rfl (size_4) (allc1 rfl) (Nat.le_of_ble_eq_true rfl) (fun w175 S176 => ?_)
   simp only [pS, pN, pA, pC, pZ]
   have S176 : St w F w175 F160 [⟨n96, [(.bool (getF (stateC cs i1) p.name p.key).isSome), (.slice a93 ((getF (stateC cs i1) p.name p.key).getD []).length c94)], 38⟩, ⟨n81, [(.slice xa69 p.name.length xc70), (.slice xa73 p.key.length xc74), (.bool (!(getF (stateC cs i2) p.name p.key).isSome)), (.slice xa78 p.value.length xc79)], 27⟩] [ownP 4 WrC WrC.mono 27 w.heap.size v (chgs (stateC cs i1) (stateC cs i2) (ps.take i))] := S176
   refine wl_nil (hl_back S176.sat ?_)
   refine hl_take 7 rfl (by kernel_rfl) (v := (.pointer (some ⟨n81, 3, none⟩))) (fun _ _ _ h => h) S176.sat rfl (fun w177 hs178 => ex_field (q := ⟨n81, 3, none⟩) rfl (fa_27_3 _ _)) ?_
   simp only [pS, pN, pA, pC, pZ]
   refine hl_next 8 (by kernel_rfl) rfl ?_
   refine stStore (i := 1) (v := (.slice a108 ((getF (stateC cs i2) p.name p.key).getD []).length c109)) S176 rfl rfl rfl rfl (size_25) (allc1 rfl) (Nat.le_of_ble_eq_true rfl) (fun w179 S180 => ?_)
   simp only [pS, pN, pA, pC, pZ]
   have S180 : St w F w179 F160 [⟨n96, [(.bool (getF (stateC cs i1) p.name p.key).isSome), (.slice a93 ((getF (stateC cs i1) p.name p.key).getD []).length c94)], 38⟩, ⟨n81, [(.slice xa69 p.name.length xc70), (.slice xa73 p.key.length xc74), (.bool (!(getF (stateC cs i2) p.name p.key).isSome)), (.slice a108 ((getF (stateC cs i2) p.name p.key).getD []).length c109)], 27⟩] [ownP 4 WrC WrC.mono 27 w.heap.size v (chgs (stateC cs i1) (stateC cs i2) (ps.take i))] := S180
   refine wl_nil (hl_back S180.sat ?_)
   refine hl_done (by kernel_rfl) ?_
   refine hK156 _ _ ?_
   refine region_wl ?_
   refine do_ rfl v (ex_move _) ?_
   simp only [pS, pN, pA, pC, pZ]
   refine do_ rfl (.agg #[(.slice xa69 p.name.length xc70), (.slice xa73 p.key.length xc74), (.bool (!(getF (stateC cs i2) p.name p.key).isSome)), (.slice a108 ((getF (stateC cs i2) p.name p.key).getD []).length c109)]) (ex_load rfl (loadN (cs := [(.slice xa69 p.name.length xc70), (.slice xa73 p.key.length xc74), (.bool (!(getF (stateC cs i2) p.name p.key).isSome)), (.slice a108 ((getF (stateC cs i2) p.name p.key).getD []).length c109)]) Try.underlying27 rfl (size_27) (St.range S180 (i := 1) rfl 0 [(.slice xa69 p.name.length xc70), (.slice xa73 p.key.length xc74), (.bool (!(getF (stateC cs i2) p.name p.key).isSome)), (.slice a108 ((getF (stateC cs i2) p.name p.key).getD []).length c109)] (sub_range 0 rfl)))) ?_
   simp only [pS, pN, pA, pC, pZ]
   refine stNew S180 (v := fun n => .slice (some ⟨n, 0, none⟩) 1 1) rfl (ex_lit (ps := #[(0, (.agg #[(.slice xa69 p.name.length xc70), (.slice xa73 p.key.length xc74), (.bool (!(getF (stateC cs i2) p.name p.key).isSome)), (.slice a108 ((getF (stateC cs i2) p.name p.key).getD []).length c109)]))]) (cells := #[(.slice xa69 p.name.length xc70), (.slice xa73 p.key.length xc74), (.bool (!(getF (stateC cs i2) p.name p.key).isSome)), (.slice a108 ((getF (stateC cs i2) p.name p.key).getD []).length c109)]) (E := 27) (bmap1 rfl) (fun w => by kernel_rfl)) (fun n181 w182 S183 => ?_)
   simp only [pS, pN, pA, pC, pZ]
   have S183 : St w F w182 F160 [⟨n181, [(.slice xa69 p.name.length xc70), (.slice xa73 p.key.length xc74), (.bool (!(getF (stateC cs i2) p.name p.key).isSome)), (.slice a108 ((getF (stateC cs i2) p.name p.key).getD []).length c109)], 27⟩, ⟨n96, [(.bool (getF (stateC cs i1) p.name p.key).isSome), (.slice a93 ((getF (stateC cs i1) p.name p.key).getD []).length c94)], 38⟩, ⟨n81, [(.slice xa69 p.name.length xc70), (.slice xa73 p.key.length xc74), (.bool (!(getF (stateC cs i2) p.name p.key).isSome)), (.slice a108 ((getF (stateC cs i2) p.name p.key).getD []).length c109)], 27⟩] [ownP 4 WrC WrC.mono 27 w.heap.size v (chgs (stateC cs i1) (stateC cs i2) (ps.take i))] := S183
   have hcg := chgs_len (stateC cs i1) (stateC cs i2) (ps.take i)
   have hcl2 := List.length_take_le i ps
   refine stPush (i := 0) (r := 0) (p := (chgW (stateC cs i2) p)) (cs := [(.slice xa69 p.name.length xc70), (.slice xa73 p.key.length xc74), (.bool (!(getF (stateC cs i2) p.name p.key).isSome)), (.slice a108 ((getF (stateC cs i2) p.name p.key).getD []).length c109)]) S183 rfl i27 (.agg #[(.slice none 0 0), (.slice none 0 0), (.bool false), (.slice none 0 0)]) 80 Try.underlying47 hi27 hz27 hs27 hb27 rfl (by decide) rfl rfl rfl rfl rfl (WrC.oneCell (p := chgW (stateC cs i2) p) ⟨_, _, _, _, rfl, (r71.mono ((le90.trans le105).trans le158)), (r75.mono ((le90.trans le105).trans le158)), rfl, (r110.mono le158)⟩) (⟨_, _, _, _, rfl, (r71.mono ((le90.trans le105).trans le158)), (r75.mono ((le90.trans le105).trans le158)), rfl, (r110.mono le158)⟩) (Nat.le_refl _) S183.gr.below.size (by unfold maxLen; omega) (by omega) ?_
   intro v184 w185 S186 hn187
   simp only [pS, pN, pA, pC, pZ]
   have S186 := St.drop S186 (L' := [⟨n96, [(.bool (getF (stateC cs i1) p.name p.key).isSome), (.slice a93 ((getF (stateC cs i1) p.name p.key).getD []).length c94)], 38⟩, ⟨n81, [(.slice xa69 p.name.length xc70), (.slice xa73 p.key.length xc74), (.bool (!(getF (stateC cs i2) p.name p.key).isSome)), (.slice a108 ((getF (stateC cs i2) p.name p.key).getD []).length c109)], 27⟩]) (.cons _ (List.Sublist.refl _))
   have S186 : St w F w185 F160 [⟨n96, [(.bool (getF (stateC cs i1) p.name p.key).isSome), (.slice a93 ((getF (stateC cs i1) p.name p.key).getD []).length c94)], 38⟩, ⟨n81, [(.slice xa69 p.name.length xc70), (.slice xa73 p.key.length xc74), (.bool (!(getF (stateC cs i2) p.name p.key).isSome)), (.slice a108 ((getF (stateC cs i2) p.name p.key).getD []).length c109)], 27⟩] [ownP 4 WrC WrC.mono 27 w.heap.size v184 ((chgs (stateC cs i1) (stateC cs i2) (ps.take i)) ++ [(chgW (stateC cs i2) p)])] := S186
   refine do_ rfl v184 (ex_assign _) ?_
   simp only [pS, pN, pA, pC, pZ]
   refine wl_nil (hK63 _ _ ?_)
   refine region_wl ?_
   refine do_ rfl (.int .i64 (((i + 1) : Nat) : Int)) (ex_add (m := ((i : Nat) : Int)) (n := (1 : Int)) (r := (((i + 1) : Nat) : Int)) rfl rfl (by omega) (by omega) (by omega)) ?_
   simp only [pS, pN, pA, pC, pZ]
   refine do_ rfl (.int .i64 (((i + 1) : Nat) : Int)) (ex_move _) ?_
   simp only [pS, pN, pA, pC, pZ]
   refine wl_nil ?_
   have S186 := St.drop S186 (L' := []) (.cons _ (.cons _ (List.Sublist.refl _)))
   have he188 := chgs_more hp hne
   rw [he188] at S186
   exact hK60 _ _ _ (by omega) ⟨(i + 1), v184, F160, _, rfl, rfl, rfl, S186, (((le59.trans le90).trans le105).trans le158), (by omega)⟩
 ·refine do_ rfl (.bool false) (ex_lss (m := ((i : Nat) : Int)) (n := ((ps.length : Nat) : Int)) (b := false) rfl rfl (decide_eq_false (by omega))) ?_
  simp only [pS, pN, pA, pC, pZ]
  refine wl_nil (hK61 _ _ ?_)
  refine wp_seq_k (fun K189 hK189 => ?_)
  refine wp_cond_false rfl ?_
  refine wp_exit ?_
  refine hK31 _ _ ?_
  refine wp_seq_k (fun K190 hK190 => region_wl ?_)
  refine do_ rfl v (ex_move _) ?_
  simp only [pS, pN, pA, pC, pZ]
  refine do_ rfl v (ex_assign _) ?_
  simp only [pS, pN, pA, pC, pZ]
  refine do_ rfl (.int .i64 0) (ex_assign _) ?_
  simp only [pS, pN, pA, pC, pZ]
  refine wl_nil (hK190 _ _ ?_)
  refine wp_ret ?_
  (try simp only [Exit.then, Exit.inBlock, ↓reduceIte, Nat.reduceEqDiff])
  refine bodyPost_ret (v := (.tuple #[v, (.int .i64 0)])) ?_ rfl ?_
  ·exact res_tt rfl rfl rfl
  ·rw [List.take_of_length_le (by omega)] at S58
   obtain ⟨F9, S9, le9, hv9⟩ := St.freeze S58 (i := 0) rfl (Nat.le_refl _)
   exact ⟨_, _, rfl, S9.gr, ps, _, hpl, rfl, hv9⟩
end Go.Proofs.Ytlimmmidfhpakaa
