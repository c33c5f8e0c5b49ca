/- Rules, plain laws and walks: SV10 SV11 P17 SV12 TW SV13 IN P22 P23 S11 SV14 SV16 SV17 -/
import Derived.Test.YtilgpdpooildcaaGreatDoorBV11
import Derived.Test.YtilgpdpooildcaaGreatDoorBV2
import Derived.Test.YtilgpdpooildcaaGreatDoorBV7
import Derived.Test.YtilgpdpooildcaaGreatDoorBV10
import Derived.Test.YtilgpdpooildcaaGreatDoorBV9
import Derived.Test.YtilgpdpooildcaaGreatDoorBV3
import Derived.Test.YtilgpdpooildcaaGreatDoorBV5
namespace Go.Proofs.YtilgpdpooildcaaGreatDoor
set_option maxHeartbeats 8000000
open Go.RowKit
set_option maxRecDepth 100000
set_option linter.unusedVariables false
set_option linter.unusedSimpArgs false
def AcC (F : Fz) (cs : List Value) (a : Ac) : Prop := ∃ x, cs = [.int .i64 ((a.kind : Nat) : Int), .int .i64 ((a.sess : Nat) : Int), .int .i64 ((a.keep : Nat) : Int), x] ∧ Bs F x a.data
theorem AcC.mono (F F' : Fz) (x : List Value) (p : Ac) (hl : Le F F') (h : AcC F x p) : AcC F' x p := by
 obtain ⟨v, e, h⟩ := h; exact ⟨v, e, h.mono hl⟩
theorem AcC.oneCell {F : Fz} {cs : List Value} {p : Ac} (h : AcC F cs p) : ∀ u ∈ cs, u.oneCell' = true := by
 obtain ⟨v, rfl, h⟩ := h
 intro u hu
 simp only [List.mem_cons, List.not_mem_nil, or_false] at hu
 rcases hu with rfl | rfl | rfl | rfl
 ·rfl
 ·rfl
 ·rfl
 ·exact h.oneCell
abbrev Acs (F : Fz) (v : Value) (l : List Ac) : Prop := Sl 4 AcC F v l
theorem Acs.mono {F F' : Fz} {v : Value} {l : List Ac} (h : Acs F v l) (hl : Le F F') : Acs F' v l := Sl.mono AcC.mono h hl
theorem made_nil : (madeCells (Value.slice none 0 0).cells (1 * 1)).toList = [Value.slice none 0 0] := by
 rw [show (Value.slice none 0 0).cells = #[.slice none 0 0] from rfl, toList_madeCells_one]; rfl
theorem Acs.get {F : Fz} {a : Option Addr} {n c : Nat} {l : List Ac} (h : Acs F (.slice a n c) l) {i : Nat} {p : Ac} (hp : l[i]? = some p) :
    ∃ b o, a = some ⟨b, o, none⟩ ∧ ∃ x y, cellF F b (o + i * 4) = some (.int .i64 ((p.kind : Nat) : Int)) ∧ cellF F b (o + i * 4 + 1) = some (.int .i64 ((p.sess : Nat) : Int)) ∧ cellF F b (o + i * 4 + 2) = some (.int .i64 ((p.keep : Nat) : Int)) ∧ cellF F b (o + i * 4 + 3) = some (.slice x p.data.length y) ∧ Bs F (.slice x p.data.length y) p.data := by
 obtain ⟨hi, rfl⟩ := List.getElem?_eq_some_iff.1 hp
 have hn := Sl.len h
 obtain ⟨b, o, e, h1⟩ := Sl.at h (by omega) (by omega)
 obtain ⟨cs, q1, ⟨a0, rfl, h0⟩, q3⟩ := h1 i hi
 obtain ⟨x, y, rfl, _⟩ := h0.shape
 exact ⟨b, o, e, x, y, by have := q3 0 (by simp); simpa [Nat.add_assoc] using this, by have := q3 1 (by simp); simpa [Nat.add_assoc] using this, by have := q3 2 (by simp); simpa [Nat.add_assoc] using this, by have := q3 3 (by simp); simpa [Nat.add_assoc] using this, h0⟩
/-- The walk of crash, as it is asked for. -/
def CrashS : Prop := ∀ (w0 : World) (F0 : Fz) (w : World) (F : Fz) (n : Nat) (g : Eng) (L : List Blk) {m : Nat} (k : Nat), EngM w0 F0 w F n g L → Tabs w0 → EngOk m g → m ≤ 149 → k ≤ 100000 →
    Calls Tryz.prog 70 #[.pointer (some ⟨n, 0, none⟩), .int .i64 ((k : Nat) : Int)] w (EngP w0 F0 F n (g.crash k) L)
theorem doAsk_eng (w0 : World) (F0 : Fz) (w : World) (F : Fz) (n : Nat) (g : Eng) (L : List Blk) {m : Nat} (hM : EngM w0 F0 w F n g L) (hh : Has w0) (hT : Tabs w0) (hg : EngOk m g) (hm : m ≤ 149) (hq : g.replies.length + g.waiting.length ≤ 100000) (s : Nat) (hs8 : s < 8) (b : By) {u : Value} (hu : Bs F u b) (hP : wdE b = 0 → (wdR b).1 = 8 → ProveS) :
    Calls Tryz.prog 52 #[.pointer (some ⟨n, 0, none⟩), .agg #[.int .i64 1, .int .i64 ((s : Nat) : Int), .int .i64 0, u]] w (EngP w0 F0 F n (g.ask s b) L) := by
 obtain ⟨da, dc, rfl, _⟩ := hu.shape
 obtain ⟨ad, cd, ac, cc, af, cf, aw, cw, ar, cr, pv, S, hd, ht⟩ := hM
 go_enter Tryz.func52, Tryz.ntmps52
 refine sk fun K4 hK4 => ?_
 refine stNew S (v := fun n => .pointer (aA n 0)) rfl (ex_box (v := (.agg #[(iI 1), (nI s), (iI 0), (.slice da b.length dc)])) rfl) (fun n5 w6 S7 => ?_)
 refine wn hK4 ?_
 refine sk fun K8 hK8 => ?_
 refine df (fa_33_0 _ _) ?_
 refine dl (nagg_3 _) S7 0 ?_
 refine wn hK8 ?_
 refine wp_block ?_
 refine sk fun K9 hK9 => ?_
 refine dr bT (ex_eql (b := true) rfl rfl (by decide)) ?_
 refine dy ?_
 simp only [pq]
 refine wn hK9 ?_
 refine wp_cond_true rfl ?_
 refine region_wl ?_
 refine dx ?_
 refine df (fa_33_1 _ _) ?_
 refine dl (nagg_3 _) S7 0 ?_
 simp only [pq]
 refine df (fa_33_3 _ _) ?_
 refine dl (nagg_25 _) S7 0 ?_
 simp only [pq]
 have S10 := St.perm S7 (List.perm_middle (l₁ := [_]))
 have hM11 : EngM _ _ _ _ n g _ := ⟨_, _, _, _, _, _, _, _, _, _, _, S10, hd, ht⟩
 refine doC rfl (fn3 (ent_68 _ _)) (ask_eng _ _ _ _ _ _ _ s hs8 _ b hM11 hh hT hg hm hu hP (by omega)) ?_
 rintro _ w12 ⟨rfl, F13, le14, hM15⟩
 refine ⟨_, rfl, ?_⟩
 obtain ⟨ad16, cd17, ac18, cc19, af20, cf21, aw22, cw23, ar24, cr25, pv26, S27, hd28, ht29⟩ := hM15
 refine wl_nil ?_
 (try simp only [Exit.then, Exit.inBlock, ↓reduceIte, Nat.reduceEqDiff])
 refine bE (res_ rfl) ?_
 have hM30 : EngM _ _ _ _ n (g.ask s b) _ := ⟨_, _, _, _, _, _, _, _, _, _, _, S27, hd28, ht29⟩
 exact ⟨rfl, _, le14, (hM30.drop (.cons _ (List.Sublist.refl _)))⟩
theorem doSync_eng (w0 : World) (F0 : Fz) (w : World) (F : Fz) (n : Nat) (g : Eng) (L : List Blk) {m : Nat} (hM : EngM w0 F0 w F n g L) (hh : Has w0) (hT : Tabs w0) (hg : EngOk m g) (hm : m ≤ 149) (hq : g.replies.length + g.waiting.length ≤ 100000) (u : Value) :
    Calls Tryz.prog 52 #[.pointer (some ⟨n, 0, none⟩), .agg #[.int .i64 2, .int .i64 0, .int .i64 0, u]] w (EngP w0 F0 F n g.sync L) := by
 obtain ⟨ad, cd, ac, cc, af, cf, aw, cw, ar, cr, pv, S, hd, ht⟩ := hM
 go_enter Tryz.func52, Tryz.ntmps52
 refine sk fun K4 hK4 => ?_
 refine stNew S (v := fun n => .pointer (aA n 0)) rfl (ex_box (v := (.agg #[(iI 2), (iI 0), (iI 0), u])) rfl) (fun n5 w6 S7 => ?_)
 refine wn hK4 ?_
 refine sk fun K8 hK8 => ?_
 refine df (fa_33_0 _ _) ?_
 refine dl (nagg_3 _) S7 0 ?_
 refine wn hK8 ?_
 refine wp_block ?_
 refine sk fun K9 hK9 => ?_
 refine dr bF (ex_eql (b := false) rfl rfl (by decide)) ?_
 refine dy ?_
 simp only [pq]
 refine wn hK9 ?_
 refine wp_cond_false rfl ?_
 refine sk fun K10 hK10 => ?_
 refine dr bT (ex_eql (b := true) rfl rfl (by decide)) ?_
 refine dy ?_
 refine wn hK10 ?_
 refine wp_cond_true rfl ?_
 refine region_wl ?_
 refine dx ?_
 simp only [pq]
 have S11 := St.perm S7 (List.perm_middle (l₁ := [_]))
 have hM12 : EngM _ _ _ _ n g _ := ⟨_, _, _, _, _, _, _, _, _, _, _, S11, hd, ht⟩
 refine doC rfl (fn1 (ent_69 _ _)) (sync_eng _ _ _ _ _ _ _ hM12 hg hm hq) ?_
 rintro _ w13 ⟨rfl, F14, le15, hM16⟩
 refine ⟨_, rfl, ?_⟩
 obtain ⟨ad17, cd18, ac19, cc20, af21, cf22, aw23, cw24, ar25, cr26, pv27, S28, hd29, ht30⟩ := hM16
 refine wl_nil ?_
 (try simp only [Exit.then, Exit.inBlock, ↓reduceIte, Nat.reduceEqDiff])
 refine bE (res_ rfl) ?_
 have hM31 : EngM _ _ _ _ n g.sync _ := ⟨_, _, _, _, _, _, _, _, _, _, _, S28, hd29, ht30⟩
 exact ⟨rfl, _, le15, (hM31.drop (.cons _ (List.Sublist.refl _)))⟩
theorem doCrash_eng (w0 : World) (F0 : Fz) (w : World) (F : Fz) (n : Nat) (g : Eng) (L : List Blk) {m : Nat} (hM : EngM w0 F0 w F n g L) (hh : Has w0) (hT : Tabs w0) (hg : EngOk m g) (hm : m ≤ 149) (hq : g.replies.length + g.waiting.length ≤ 100000) (u : Value) (k : Nat) (hk : k ≤ 100000) (hC : CrashS) :
    Calls Tryz.prog 52 #[.pointer (some ⟨n, 0, none⟩), .agg #[.int .i64 3, .int .i64 0, .int .i64 ((k : Nat) : Int), u]] w (EngP w0 F0 F n (g.crash k) L) := by
 obtain ⟨ad, cd, ac, cc, af, cf, aw, cw, ar, cr, pv, S, hd, ht⟩ := hM
 go_enter Tryz.func52, Tryz.ntmps52
 refine sk fun K4 hK4 => ?_
 refine stNew S (v := fun n => .pointer (aA n 0)) rfl (ex_box (v := (.agg #[(iI 3), (iI 0), (nI k), u])) rfl) (fun n5 w6 S7 => ?_)
 refine wn hK4 ?_
 refine sk fun K8 hK8 => ?_
 refine df (fa_33_0 _ _) ?_
 refine dl (nagg_3 _) S7 0 ?_
 refine wn hK8 ?_
 refine wp_block ?_
 refine sk fun K9 hK9 => ?_
 refine dr bF (ex_eql (b := false) rfl rfl (by decide)) ?_
 refine dy ?_
 simp only [pq]
 refine wn hK9 ?_
 refine wp_cond_false rfl ?_
 refine sk fun K10 hK10 => ?_
 refine dr bF (ex_eql (b := false) rfl rfl (by decide)) ?_
 refine dy ?_
 refine wn hK10 ?_
 refine wp_cond_false rfl ?_
 refine sk fun K11 hK11 => ?_
 refine dr bT (ex_eql (b := true) rfl rfl (by decide)) ?_
 refine dy ?_
 simp only [pq]
 refine wn hK11 ?_
 refine wp_cond_true rfl ?_
 refine region_wl ?_
 refine dx ?_
 refine df (fa_33_2 _ _) ?_
 refine dl (nagg_3 _) S7 0 ?_
 simp only [pq]
 have S12 := St.perm S7 (List.perm_middle (l₁ := [_]))
 have hM13 : EngM _ _ _ _ n g _ := ⟨_, _, _, _, _, _, _, _, _, _, _, S12, hd, ht⟩
 refine doC rfl (fn2 (ent_70 _ _)) (hC _ _ _ _ _ _ _ k hM13 hT hg hm hk) ?_
 rintro _ w14 ⟨rfl, F15, le16, hM17⟩
 refine ⟨_, rfl, ?_⟩
 obtain ⟨ad18, cd19, ac20, cc21, af22, cf23, aw24, cw25, ar26, cr27, pv28, S29, hd30, ht31⟩ := hM17
 refine wl_nil ?_
 (try simp only [Exit.then, Exit.inBlock, ↓reduceIte, Nat.reduceEqDiff])
 refine bE (res_ rfl) ?_
 have hM32 : EngM _ _ _ _ n (g.crash k) _ := ⟨_, _, _, _, _, _, _, _, _, _, _, S29, hd30, ht31⟩
 exact ⟨rfl, _, le16, (hM32.drop (.cons _ (List.Sublist.refl _)))⟩
theorem doStart_eng (w0 : World) (F0 : Fz) (w : World) (F : Fz) (n : Nat) (g : Eng) (L : List Blk) {m : Nat} (hM : EngM w0 F0 w F n g L) (hh : Has w0) (hT : Tabs w0) (hg : EngOk m g) (hm : m ≤ 149) (hq : g.replies.length + g.waiting.length ≤ 100000) (u : Value) :
    Calls Tryz.prog 52 #[.pointer (some ⟨n, 0, none⟩), .agg #[.int .i64 4, .int .i64 0, .int .i64 0, u]] w (EngP w0 F0 F n g.start L) := by
 obtain ⟨ad, cd, ac, cc, af, cf, aw, cw, ar, cr, pv, S, hd, ht⟩ := hM
 go_enter Tryz.func52, Tryz.ntmps52
 refine sk fun K4 hK4 => ?_
 refine stNew S (v := fun n => .pointer (aA n 0)) rfl (ex_box (v := (.agg #[(iI 4), (iI 0), (iI 0), u])) rfl) (fun n5 w6 S7 => ?_)
 refine wn hK4 ?_
 refine sk fun K8 hK8 => ?_
 refine df (fa_33_0 _ _) ?_
 refine dl (nagg_3 _) S7 0 ?_
 refine wn hK8 ?_
 refine wp_block ?_
 refine sk fun K9 hK9 => ?_
 refine dr bF (ex_eql (b := false) rfl rfl (by decide)) ?_
 refine dy ?_
 simp only [pq]
 refine wn hK9 ?_
 refine wp_cond_false rfl ?_
 refine sk fun K10 hK10 => ?_
 refine dr bF (ex_eql (b := false) rfl rfl (by decide)) ?_
 refine dy ?_
 refine wn hK10 ?_
 refine wp_cond_false rfl ?_
 refine sk fun K11 hK11 => ?_
 refine dr bF (ex_eql (b := false) rfl rfl (by decide)) ?_
 refine dy ?_
 simp only [pq]
 refine wn hK11 ?_
 refine wp_cond_false rfl ?_
 refine region_wl ?_
 refine dx ?_
 refine di ?_
 refine df (fa_115_0 _ _) ?_
 simp only [pq]
 refine sW 1 S7 (size_4) fun w12 S13 => ?_
 refine wl_nil ?_
 (try simp only [Exit.then, Exit.inBlock, ↓reduceIte, Nat.reduceEqDiff])
 refine bE (res_ rfl) ?_
 have S14 := St.perm S13 (List.perm_middle (l₁ := [_]))
 have hM15 : EngM _ _ _ _ n g.start _ := ⟨_, _, _, _, _, _, _, _, _, _, _, S14, hd, ht⟩
 exact ⟨rfl, _, Le.refl _, (hM15.drop (.cons _ (List.Sublist.refl _)))⟩
theorem do_eng (w0 : World) (F0 : Fz) (w : World) (F : Fz) (n : Nat) (g : Eng) (L : List Blk) {m : Nat} (hM : EngM w0 F0 w F n g L) (hh : Has w0) (hT : Tabs w0) (hg : EngOk m g) (hm : m ≤ 149) (hq : g.replies.length + g.waiting.length ≤ 100000) {a : Ac} (ha : AcOk a) {u : Value} (hu : Bs F u a.data) (hP : isP a = true → ProveS) (hK : isK a = true → CrashS) :
    Calls Tryz.prog 52 #[.pointer (some ⟨n, 0, none⟩), .agg #[.int .i64 ((a.kind : Nat) : Int), .int .i64 ((a.sess : Nat) : Int), .int .i64 ((a.keep : Nat) : Int), u]] w (EngP w0 F0 F n (g.act a) L) := by
 cases a with
 | ask s b => exact doAsk_eng _ _ _ _ _ _ _ hM hh hT hg hm hq s ha.1 b hu (fun h1 h2 => hP (by unfold isP; simp [h1, h2]))
 | sync => exact doSync_eng _ _ _ _ _ _ _ hM hh hT hg hm hq u
 | crash k => exact doCrash_eng _ _ _ _ _ _ _ hM hh hT hg hm hq u k ha (hK rfl)
 | start => exact doStart_eng _ _ _ _ _ _ _ hM hh hT hg hm hq u
theorem eng_start {w0 w : World} {F0 F : Fz} {n k : Nat} {L : List Blk} (S : St w0 F0 w F (⟨n, engC true (.slice none 0 0) 0 (.slice none 0 0) (.slice (some ⟨k, 0, none⟩) 1 1) 0 (fun _ => .pointer none) (fun _ => false) (.slice none 0 0) (.slice none 0 0), 115⟩ :: ⟨k, [.slice none 0 0], 24⟩ :: L) []) : EngM w0 F0 w F n eng0 L := by
 have hb := (S.blk ⟨k, [.slice none 0 0], 24⟩ (by simp)).2.2
 have S1 := S.perm (List.Perm.swap _ _ _)
 have S2 := St.blkRow (k := 1) (cap := 1) (hR := FoC.mono) (base := w0.heap.size) (l := [([] : Forest)]) (el := [[.slice none 0 0]]) S1 rfl ⟨⟨_, rfl, Sl.nil _ _ _⟩, trivial⟩ (by simp) rfl (by simp) (by unfold maxLen; decide) hb
 have S3 := ((S2.addNil 2 CmC CmC.mono 168 w0.heap.size).addNil 1 NtC NtC.mono 3 w0.heap.size).addNil 15 RpC RpC.mono 54 w0.heap.size
 have S4 := S3.permR (M' := engR w0.heap.size (.slice none 0 0) [] (.slice (some ⟨k, 0, none⟩) 1 1) [[]] (.slice none 0 0) [] (.slice none 0 0) []) (by
  refine (List.perm_middle (l₁ := [_, _]) (l₂ := [_])).trans ?_
  refine List.Perm.cons _ ?_
  exact (List.perm_middle (l₁ := [_, _]) (l₂ := [])).trans (List.Perm.cons _ (List.Perm.swap _ _ _)))
 exact ⟨_, _, _, _, _, _, _, _, _, _, fun _ => .pointer none, S4, Bs.nil _, fun _ _ => rfl⟩
/-- What comes of a script. -/
def OutV (F : Fz) (u : Value) (g : Eng) : Prop := ∃ a c b d, u = .agg #[.bool g.up, .int .i64 ((g.synced : Nat) : Int), .int .i64 ((g.waiting.length : Nat) : Int), .slice a (g.forest g.synced).length c, .slice b g.replies.length d] ∧ Tns F (.slice a (g.forest g.synced).length c) (g.forest g.synced) ∧ Rps F (.slice b g.replies.length d) g.replies
def RunV (g : Eng) (F : Fz) (u : Value) : Prop := ∃ x, u = .tuple #[x, .int .i64 0] ∧ OutV F x g
theorem run_spec (F : Fz) (w : World) (v : Value) (l : List Ac) (hs : Sat w F) (hh : Has w) (hT : Tabs w) (hv : Acs F v l) (hok : ∀ a ∈ l, AcOk a) (hc : countC l ≤ 149) (hlen : l.length ≤ 100000) (hP : ∀ a ∈ l, isP a = true → ProveS) (hK : ∀ a ∈ l, isK a = true → CrashS) :
    Calls Tryz.prog 35 #[v] w (Gives w F (RunV (runE l))) := by
 obtain ⟨a, c, rfl, hc1, hc2⟩ := Sl.shape hv
 unfold maxLen at hc2
 obtain ⟨i24, hi24, hz24, hs24, hb24⟩ := info_parts info_24
 have S := St.start hs
 go_enter Tryz.func35, Tryz.ntmps35
 refine sk fun K1 hK1 => ?_
 refine sA S (zero_43 _) fun n2 w3 S4 => ?_
 refine dy ?_
 refine wn hK1 ?_
 refine wp_seq_k (fun K5 hK5 => ?_)
 refine sk fun K6 hK6 => ?_
 refine dx ?_
 refine dn Tryz.underlying23 ?_
 refine gtrF ?_
 simp only [pq]
 refine wn hK6 ?_
 refine wp_cond_false rfl ?_
 refine wp_skip ?_
 refine hK5 _ _ ?_
 refine wp_seq_k (fun K7 hK7 => ?_)
 refine sk fun K8 hK8 => ?_
 refine dx ?_
 refine dn Tryz.underlying23 ?_
 refine dx ?_
 simp only [pq]
 refine wn hK8 ?_
 refine wp_block ?_
 refine wp_loop_g (fun mm aa w11 => ∃ (i : Nat) (F9 : Fz) (u10 : Nat → Value), mm = l.length - i ∧ u10 = slots aa ∧ aa = ⟨#[(.slice a l.length c), undef, (pP n2 0), (u10 3), undef, (u10 5), (u10 6), undef, undef, undef, undef, undef, (.slice a l.length c), (nI l.length), bF, undef, (.slice a l.length c), (nI l.length), (nI i), (u10 19), (u10 20), (u10 21), (u10 22), (u10 23), (u10 24), (u10 25), (u10 26), (u10 27), (u10 28), undef, undef, undef, undef, undef, undef, undef, undef, undef, undef, undef, undef, undef, undef, undef, undef, undef, undef, undef, undef, undef, undef, undef, undef, undef, undef, undef, undef, undef, undef, undef, undef, undef, undef, undef, undef, undef, undef, undef, undef, undef, undef, undef, undef, undef, undef], []⟩ ∧ St w F w11 F9 [⟨n2, [bF, (iI 0), (iI 0), Zn, Zn], 43⟩] [] ∧ Le F F9 ∧ (i ≤ l.length)) _ ⟨0, F, _, rfl, rfl, rfl, S4, Le.refl _, (by omega)⟩ ?_
 rintro m12 a13 w14 ⟨i, F9, u10, rfl, -, rfl, S15, le16, hi⟩ K17 hK17
 refine sk fun K18 hK18 => ?_
 by_cases hc19 : i < l.length
 refine lssT ?_
 refine wn hK18 ?_
 refine wp_seq_k (fun K19 hK19 => ?_)
 refine wp_cond_true rfl ?_
 refine wp_skip ?_
 refine hK19 _ _ ?_
 refine wp_seq_k (fun K20 hK20 => ?_)
 refine wp_block ?_
 refine wp_seq_k (fun K21 hK21 => ?_)
 obtain ⟨p, hp⟩ : ∃ p, l[i]? = some p := ⟨l[i], List.getElem?_eq_getElem hc19⟩
 have hpo := hok p (List.mem_of_getElem? hp)
 obtain ⟨b22, o23, ha24, xa29, xc30, c25, c26, c27, c28, r31⟩ := Acs.get (hv.mono le16) hp
 have hpo2 : p.data.length ≤ 4000 := by cases p <;> first | exact hpo.2 | exact Nat.zero_le _
 refine region_wl ?_
 refine dr (pP b22 (o23 + i * 4)) (ex_at (i := i) (sz := 4) Tryz.underlying23 (sizeof_33 _) rfl ha24 rfl (by omega) rfl) ?_
 refine dr _ (ex_load rfl (loadM Tryz.underlying33 rfl (size_33) (range4 (St.fz S15 c25) (St.fz S15 c26) (St.fz S15 c27) (St.fz S15 c28)))) ?_
 simp only [pq]
 refine sA S15 (zero_33 _) fun n32 w33 S34 => ?_
 refine sW 0 S34 (size_33) fun w35 S36 => ?_
 refine wl_nil (hK21 _ _ ?_)
 refine sk fun K37 hK37 => ?_
 refine dR S36 0 Tryz.underlying33 (size_33) ?_
 simp only [pq]
 refine stTells (v := (iI 0)) S36 rfl (fn1 (ent_51 _ _)) (actN_ok hpo ▸ actCheck_spec _ _ _ _ _ _ _ (by have := hpo2; omega)) (fun w38 S39 => ?_)
 refine dy ?_
 refine wn hK37 ?_
 refine sk fun K40 hK40 => ?_
 refine dx ?_
 refine dr bF (ex_neq (m := (0 : Int)) (n := (0 : Int)) (b := false) rfl rfl (bne_eq_false_iff_eq.2 (by simp))) ?_
 simp only [pq]
 refine wn hK40 ?_
 refine wp_cond_false rfl ?_
 refine wp_skip ?_
 refine hK20 _ _ ?_
 refine region_wl ?_
 refine dAdd (i + 1) ?_
 refine dx ?_
 refine wl_nil ?_
 have S39 := St.drop S39 (.cons _ (List.Sublist.refl _))
 exact hK17 _ _ _ (by omega) ⟨(i + 1), F9, _, rfl, rfl, rfl, S39, le16, (by omega)⟩
 refine lssF ?_
 simp only [pq]
 refine wn hK18 ?_
 refine wp_seq_k (fun K41 hK41 => ?_)
 refine wp_cond_false rfl ?_
 refine wp_exit ?_
 refine hK7 _ _ ?_
 refine sk fun K42 hK42 => ?_
 refine stMake (k := 1) (n := 1) (m := 1) S15 rfl i24 Zn 24 Tryz.underlying106 hi24 hz24 hs24 hb24 rfl rfl (by omega) (by omega) (by omega) ?_
 intro g43 w44 S45
 rw [made_nil] at S45
 refine dr (.agg #[bT, Zn, (iI 0), Zn, (.slice (aA g43 0) 1 1), (iI 0), (.pointer none), bF, (.pointer none), bF, (.pointer none), bF, (.pointer none), bF, (.pointer none), bF, (.pointer none), bF, (.pointer none), bF, (.pointer none), bF, Zn, Zn]) (ex_build (bmap2 rfl rfl) (by kernel_rfl)) ?_
 refine stNew S45 (v := fun n => .pointer (aA n 0)) rfl (ex_box (v := (.agg #[bT, Zn, (iI 0), Zn, (.slice (aA g43 0) 1 1), (iI 0), (.pointer none), bF, (.pointer none), bF, (.pointer none), bF, (.pointer none), bF, (.pointer none), bF, (.pointer none), bF, (.pointer none), bF, (.pointer none), bF, Zn, Zn])) rfl) (fun n46 w47 S48 => ?_)
 simp only [pq]
 refine dy ?_
 refine wn hK42 ?_
 refine wp_seq_k (fun K49 hK49 => ?_)
 refine sk fun K50 hK50 => ?_
 refine dx ?_
 refine dn Tryz.underlying23 ?_
 refine dx ?_
 simp only [pq]
 refine wn hK50 ?_
 refine wp_block ?_
 have hM51 := eng_start S48
 obtain ⟨ad52, cd53, ac54, cc55, af56, cf57, aw58, cw59, ar60, cr61, pv62, S63, hd64, ht65⟩ := hM51
 have hM69 : EngM _ _ _ _ n46 (runE (l.take 0)) _ := ⟨_, _, _, _, _, _, _, _, _, _, _, S63, hd64, ht65⟩
 refine wp_loop_g (fun mm aa w68 => ∃ (j : Nat) (F66 : Fz) (u67 : Nat → Value), mm = l.length - j ∧ u67 = slots aa ∧ aa = ⟨#[(.slice a l.length c), undef, (pP n2 0), (u10 3), undef, (u10 5), (u10 6), (pP n46 0), undef, (u67 9), undef, undef, (.slice a l.length c), (nI l.length), bF, undef, (.slice a l.length c), (nI l.length), (nI i), bF, (u10 20), (u10 21), (u10 22), (u10 23), (u10 24), (u10 25), (u10 26), (u10 27), (u10 28), (.slice (aA g43 0) 1 1), (.agg #[bT, Zn, (iI 0), Zn, (.slice (aA g43 0) 1 1), (iI 0), (.pointer none), bF, (.pointer none), bF, (.pointer none), bF, (.pointer none), bF, (.pointer none), bF, (.pointer none), bF, (.pointer none), bF, (.pointer none), bF, Zn, Zn]), (pP n46 0), (.slice a l.length c), (nI l.length), (nI j), (u67 35), (u67 36), (u67 37), (u67 38), (u67 39), (u67 40), (u67 41), undef, undef, undef, undef, undef, undef, undef, undef, undef, undef, undef, undef, undef, undef, undef, undef, undef, undef, undef, undef, undef, undef, undef, undef, undef, undef, undef, undef, undef, undef, undef, undef, undef], []⟩ ∧ EngM w F w68 F66 n46 (runE (l.take j)) [⟨n2, [bF, (iI 0), (iI 0), Zn, Zn], 43⟩] ∧ Le F9 F66 ∧ (j ≤ l.length)) _ ⟨0, _, _, rfl, rfl, rfl, hM69, Le.refl _, (by omega)⟩ ?_
 rintro m70 a71 w72 ⟨j, F66, u67, rfl, -, rfl, hM75, le73, hj⟩ K74 hK74
 obtain ⟨ad76, cd77, ac78, cc79, af80, cf81, aw82, cw83, ar84, cr85, pv86, S87, hd88, ht89⟩ := hM75
 refine sk fun K90 hK90 => ?_
 by_cases hc35 : j < l.length
 refine lssT ?_
 refine wn hK90 ?_
 refine wp_seq_k (fun K91 hK91 => ?_)
 refine wp_cond_true rfl ?_
 refine wp_skip ?_
 refine hK91 _ _ ?_
 refine wp_seq_k (fun K92 hK92 => ?_)
 refine wp_block ?_
 refine wp_seq_k (fun K93 hK93 => ?_)
 obtain ⟨p, hp⟩ : ∃ p, l[j]? = some p := ⟨l[j], List.getElem?_eq_getElem hc35⟩
 have hpo := hok p (List.mem_of_getElem? hp)
 obtain ⟨b94, o95, ha96, xa101, xc102, c97, c98, c99, c100, r103⟩ := Acs.get (hv.mono (le16.trans le73)) hp
 have hgi := run_take_ok hc hok j
 have hri := run_take_room l j hlen
 refine region_wl ?_
 refine dr (pP b94 (o95 + j * 4)) (ex_at (i := j) (sz := 4) Tryz.underlying23 (sizeof_33 _) rfl ha96 rfl (by omega) rfl) ?_
 refine dr _ (ex_load rfl (loadM Tryz.underlying33 rfl (size_33) (range4 (St.fz S87 c97) (St.fz S87 c98) (St.fz S87 c99) (St.fz S87 c100)))) ?_
 simp only [pq]
 refine sA S87 (zero_33 _) fun n104 w105 S106 => ?_
 refine sW 0 S106 (size_33) fun w107 S108 => ?_
 refine wl_nil (hK93 _ _ ?_)
 refine region_wl ?_
 refine dx ?_
 refine dR S108 0 Tryz.underlying33 (size_33) ?_
 simp only [pq]
 have S109 := St.perm S108 (List.perm_middle (l₁ := [_]))
 have hM110 : EngM _ _ _ _ n46 (runE (l.take j)) _ := ⟨_, _, _, _, _, _, _, _, _, _, _, S109, hd88, ht89⟩
 refine doC rfl (fn2 (ent_52 _ _)) (do_eng _ _ _ _ _ _ _ hM110 hh hT hgi.1 hgi.2 hri hpo (u := (.slice xa101 p.data.length xc102)) r103 (hP p (List.mem_of_getElem? hp)) (hK p (List.mem_of_getElem? hp))) ?_
 rintro _ w111 ⟨rfl, F112, le113, hM114⟩
 refine ⟨_, rfl, ?_⟩
 obtain ⟨ad115, cd116, ac117, cc118, af119, cf120, aw121, cw122, ar123, cr124, pv125, S126, hd127, ht128⟩ := hM114
 refine wl_nil (hK92 _ _ ?_)
 refine region_wl ?_
 refine dAdd (j + 1) ?_
 refine dx ?_
 refine wl_nil ?_
 have hM129 : EngM _ _ _ _ n46 ((runE (l.take j)).act p) _ := ⟨_, _, _, _, _, _, _, _, _, _, _, S126, hd127, ht128⟩
 have hM130 := hM129.drop (.cons _ (List.Sublist.refl _))
 rw [(show (runE (l.take j)).act p = runE (l.take (j + 1)) from (runE_take hp).symm)] at hM130
 exact hK74 _ _ _ (by omega) ⟨(j + 1), _, _, rfl, rfl, rfl, hM130, (le73.trans le113), (by omega)⟩
 refine lssF ?_
 simp only [pq]
 refine wn hK90 ?_
 refine wp_seq_k (fun K131 hK131 => ?_)
 refine wp_cond_false rfl ?_
 refine wp_exit ?_
 refine hK49 _ _ ?_
 refine wp_seq_k (fun K132 hK132 => ?_)
 have hil : l.take j = l := List.take_of_length_le (by omega)
 have hM133 : EngM _ _ _ _ n46 (runE (l.take j)) _ := ⟨_, _, _, _, _, _, _, _, _, _, _, S87, hd88, ht89⟩
 rw [hil] at hM133
 obtain ⟨ad134, cd135, ac136, cc137, af138, cf139, aw140, cw141, ar142, cr143, pv144, S145, hd146, ht147⟩ := hM133
 have hge := run_ok (l := l) (by omega) hok
 have hsy := hge.sync
 have hst := hge.states
 have hsl : (runE l).synced ≤ (runE l).commits.length := by omega
 have hfa := forest_at hge hsl
 have hfo := forest_ok hge hsl
 obtain ⟨g148, ha149, xa150, xc151, c152, r153⟩ := fo_at (S145.own (i := 1) rfl) hfa
 refine region_gw F66 15 [(10, .made (fun F' u => TnsE ((runE l).forest (runE l).synced) 0 F' u)), (12, .made (fun F' u => Tns F' u ((runE l).forest (runE l).synced))), (13, .is (iI 0))] (by kernel_rfl) (by kernel_rfl) ?_
 simp only [List.take_succ_cons, List.take_zero]
 refine gm ?_
 refine gi ?_
 refine gf (fa_115_3 _ _) ?_
 simp only [pq]
 refine gl nagg_106 S145 0 ?_
 refine gm ?_
 refine gi ?_
 simp only [pq]
 refine gf (fa_115_4 _ _) ?_
 refine gl nagg_3 S145 0 ?_
 refine gv (pP g148 (0 + ((runE l).synced) * 1)) (fun _ _ => ex_at (i := (runE l).synced) (sz := 1) Tryz.underlying106 (sizeof_24 _) rfl ha149 rfl (by omega) rfl) ?_
 simp only [pq]
 refine gv _ (fun _ C154 => ex_load rfl (load1 (nagg_24 _) (cell_kept C154 c152))) ?_
 simp only [pq]
 refine gw_rel rfl rfl (fun w154 C154 hF => does_call (ex_fn (vs := #[(.slice xa150 ((runE l).forest (runE l).synced).length xc151), Zn]) (map2 rfl rfl) rfl (ent_22 _ _)) (call_made S145.sat C154 (apply_is ((St.tells S145 C154)).sat r153 (Sl.nil _ _ _) hfo (by simp) (show applyE ((runE l).forest (runE l).synced) [] = (0, ((runE l).forest (runE l).synced)) from rfl)))) (fun v155 => ?_)
 refine gm ?_
 simp only [pq]
 refine gw_rel rfl rfl (fun w154 C154 hF_ => ?_) (fun v160 => ?_)
 obtain ⟨F156, g157, _, rfl, hx159⟩ := hF_.get 10 (by kernel_rfl) rfl rfl
 exact does_val (ex_extract rfl rfl) ⟨F156, g157, hx159⟩ (Below.refl _ _)
 simp only [pq]
 refine gw_const rfl rfl (v := (iI 0)) (fun w154 C154 hF_ => ?_) ?_
 obtain ⟨F161, g162, _, rfl, hx164⟩ := hF_.get 10 (by kernel_rfl) rfl rfl
 exact does_is (ex_extract rfl rfl)
 refine ga ?_
 refine gw_nil ?_
 intro w165 hC167 hF168
 obtain ⟨F169, g170, R171⟩ := hF168.get 12 rfl rfl
 have S166 := St.gives S145 g170
 have le173 : Le _ _ := g170.le S145.sat
 have R174 := R171
 generalize F169 = F172 at *
 obtain ⟨a175, c176, rfl, h177, h178⟩ := Sl.shape R174
 have R174 : Tns _ (.slice a175 ((runE l).forest (runE l).synced).length c176) ((runE l).forest (runE l).synced) := R174
 clear hF168
 simp only [List.drop_succ_cons, List.drop_zero]
 refine dy ?_
 simp only [pq]
 refine wl_nil (hK132 _ _ ?_)
 refine wp_seq_k (fun K179 hK179 => ?_)
 refine region_gw F172 18 [] (by kernel_rfl) (by kernel_rfl) ?_
 simp only [List.take_succ_cons, List.take_zero]
 refine gm ?_
 refine gi ?_
 refine gf (fa_115_0 _ _) ?_
 simp only [pq]
 refine gl nagg_4 S166 0 ?_
 refine gm ?_
 refine gi ?_
 simp only [pq]
 refine gf (fa_115_4 _ _) ?_
 refine gl nagg_3 S166 0 ?_
 refine gm ?_
 simp only [pq]
 refine gi ?_
 refine gf (fa_115_6 _ _) ?_
 refine gl nagg_60 S166 0 ?_
 simp only [pq]
 refine gv (.int .i64 (((runE l).waiting.length : Nat) : Int)) (fun _ _ => ex_len Tryz.underlying60 rfl) ?_
 iterate 2 refine gm ?_
 simp only [pq]
 refine gi ?_
 refine gf (fa_115_7 _ _) ?_
 refine gl nagg_41 S166 0 ?_
 simp only [pq]
 refine gw_nil ?_
 intro w181 hC183 hF184
 clear hF184
 have S182 := St.tells S166 hC183
 simp only [List.drop_succ_cons, List.drop_zero]
 refine dr (.agg #[(.bool (runE l).up), (.int .i64 (((runE l).synced : Nat) : Int)), (.int .i64 (((runE l).waiting.length : Nat) : Int)), (.slice a175 ((runE l).forest (runE l).synced).length c176), (.slice ar142 (runE l).replies.length cr143)]) (ex_build (bmap5 rfl rfl rfl rfl rfl) (by kernel_rfl)) ?_
 refine sW 1 S182 (size_43) fun w185 S186 => ?_
 refine dy ?_
 simp only [pq]
 refine wl_nil (hK179 _ _ ?_)
 refine wp_ret ?_
 (try simp only [Exit.then, Exit.inBlock, ↓reduceIte, Nat.reduceEqDiff])
 refine bR (res_ct rfl ⟨_, rfl, lR S186 1 Tryz.underlying43 (size_43)⟩ (gD rfl)) ?_
 obtain ⟨F187, S188, le189, hv190⟩ := St.freeze S186 (i := 3) rfl (Nat.le_refl _)
 have hv190 : Rps _ (.slice ar142 (runE l).replies.length cr143) ((runE l).replies) := hv190
 exact ⟨_, _, rfl, S188.gr, _, rfl, _, _, _, _, rfl, (R174.mono le189), hv190⟩
def AcV (F : Fz) (u : Value) (a : Ac) : Prop := ∃ x y, u = .agg #[.int .i64 ((a.kind : Nat) : Int), .int .i64 ((a.sess : Nat) : Int), .int .i64 ((a.keep : Nat) : Int), .slice x a.data.length y] ∧ Bs F (.slice x a.data.length y) a.data
def RanV (g : Eng) (F : Fz) (u : Value) : Prop := ∃ x, u = .tuple #[x, .bool true] ∧ OutV F x g
theorem Rps.mono {F F' : Fz} {v : Value} {l : List Rep} (h : Rps F v l) (hl : Le F F') : Rps F' v l := Sl.mono RpC.mono h hl
theorem AcC.one (F : Fz) (cs : List Value) (p : Ac) (h : AcC F cs p) : ∀ u ∈ cs, u.oneCell' = true := h.oneCell
theorem topAsk_spec (F : Fz) (w : World) (u : Value) (s k : Nat) (r : Rq) (hs : Sat w F) (hh : Has w) (hv : ReqV F u k r.name r.key r.last r.value) (ok : RqOk k r) :
    Calls Tryz.prog 21 #[.int .i64 ((s : Nat) : Int), u] w (Gives w F fun F' u => AcV F' u (.ask s (encQ k r))) := by
 obtain ⟨_, _, _, _, rfl, q0, q1, q2, q3⟩ := hv
 obtain ⟨a0, c0, rfl, _⟩ := q0.shape
 obtain ⟨a1, c1, rfl, _⟩ := q1.shape
 obtain ⟨a2, c2, rfl, _⟩ := q2.shape
 obtain ⟨a3, c3, rfl, _⟩ := q3.shape
 have S := St.start hs
 go_enter Tryz.func21, Tryz.ntmps21
 refine sk fun K1 hK1 => ?_
 refine stNew S (v := fun n => .pointer (aA n 0)) rfl (ex_box (v := (.agg #[(nI k), (.slice a0 r.name.length c0), (.slice a1 r.key.length c1), (.slice a2 r.last.length c2), (.slice a3 r.value.length c3)])) rfl) (fun n2 w3 S4 => ?_)
 refine sA S4 (zero_33 _) fun n5 w6 S7 => ?_
 refine wn hK1 ?_
 refine sk fun K8 hK8 => ?_
 refine dR S7 1 Tryz.underlying27 (size_27) ?_
 refine stGives S7 rfl (fn1 (ent_31 _ _)) (wireEncode_spec _ _ _ k r (S7).sat (hh.below S7.gr.below) ⟨_, _, _, _, rfl, q0, q1, q2, q3⟩ ok) ?_
 intro v14 w9 F11 S10 le12 R13
 obtain ⟨_, rfl, r15⟩ := R13
 obtain ⟨xa16, xc17, rfl, _⟩ := r15.shape
 simp only [pq]
 refine dx ?_
 iterate 2 refine de ?_
 simp only [pq]
 iterate 2 refine dy ?_
 refine wn hK8 ?_
 refine sk fun K18 hK18 => ?_
 iterate 2 refine dx ?_
 refine dr (.agg #[(iI 1), (nI s), (iI 0), (.slice xa16 (encQ k r).length xc17)]) (ex_build (bmap3 rfl rfl rfl) (by kernel_rfl)) ?_
 simp only [pq]
 refine sW 0 S10 (size_33) fun w19 S20 => ?_
 refine wn hK18 ?_
 refine wp_ret ?_
 try simp only [xt]
 refine bR (res_c rfl ⟨_, rfl, lR S20 0 Tryz.underlying33 (size_33)⟩) ?_
 exact ⟨_, _, rfl, S20.gr, _, _, rfl, r15⟩
theorem ran_spec (F : Fz) (w : World) (v : Value) (l : List Ac) (hs : Sat w F) (hh : Has w) (hT : Tabs w) (hv : Acs F v l) (hok : ∀ a ∈ l, AcOk a) (hc : countC l ≤ 149) (hlen : l.length ≤ 100000) (hP : ∀ a ∈ l, isP a = true → ProveS) (hK : ∀ a ∈ l, isK a = true → CrashS) :
    Calls Tryz.prog 23 #[v] w (Gives w F (RanV (runE l))) := by
 obtain ⟨a, c, rfl, hc1, hc2⟩ := Sl.shape hv
 have S := St.start hs
 go_enter Tryz.func23, Tryz.ntmps23
 refine sk fun K1 hK1 => ?_
 refine sA S (zero_43 _) fun n2 w3 S4 => ?_
 refine dy ?_
 refine wn hK1 ?_
 refine sk fun K5 hK5 => ?_
 refine dx ?_
 simp only [pq]
 refine stGives S4 rfl (fn1 (ent_35 _ _)) (run_spec _ _ _ l (S4).sat (hh.below S4.gr.below) (hT.at S4.gr.below) hv hok hc hlen hP hK) ?_
 intro v11 w6 F8 S7 le9 R10
 obtain ⟨_, rfl, R12⟩ := R10
 obtain ⟨a13, c14, a15, c16, rfl, r17, r18⟩ := R12
 refine dx ?_
 iterate 2 refine de ?_
 simp only [pq]
 refine sA S7 (zero_43 _) fun n19 w20 S21 => ?_
 refine sW 0 S21 (size_43) fun w22 S23 => ?_
 refine dy ?_
 simp only [pq]
 refine wn hK5 ?_
 refine sk fun K24 hK24 => ?_
 refine stGives S23 rfl (fn1 (ent_35 _ _)) (run_spec _ _ _ [] (S23).sat (hh.below S23.gr.below) (hT.at S23.gr.below) (Sl.nil _ _ _) (by simp) (by decide) (by simp) (by simp) (by simp)) ?_
 intro v30 w25 F27 S26 le28 R29
 obtain ⟨_, rfl, R31⟩ := R29
 obtain ⟨a32, c33, a34, c35, rfl, r36, r37⟩ := R31
 refine dx ?_
 iterate 2 refine de ?_
 simp only [pq]
 refine sA S26 (zero_43 _) fun n38 w39 S40 => ?_
 refine sW 0 S40 (size_43) fun w41 S42 => ?_
 refine dy ?_
 simp only [pq]
 refine wn hK24 ?_
 refine wp_seq_k (fun K43 hK43 => ?_)
 obtain ⟨S44, le45, hc46⟩ := St.freezeBlk S42 (i := 1) rfl
 generalize addF F27 w41 n19 = F47 at *
 obtain ⟨S48, le49, hc50⟩ := St.freezeBlk S44 (i := 0) rfl
 generalize addF F47 w41 n38 = F51 at *
 refine region_hl S48 (by kernel_rfl) (fun w53 S52 => ?_)
 refine hl_take 0 rfl (by kernel_rfl) (v := (.agg #[(.bool (runE l).up), (.int .i64 (((runE l).synced : Nat) : Int)), (.int .i64 (((runE l).waiting.length : Nat) : Int)), (.slice a13 ((runE l).forest (runE l).synced).length c14), (.slice a15 (runE l).replies.length c16)])) (fun _ _ _ h => h) S52.sat rfl (fun w54 hs55 => ex_load rfl (loadN (cs := [(.bool (runE l).up), (.int .i64 (((runE l).synced : Nat) : Int)), (.int .i64 (((runE l).waiting.length : Nat) : Int)), (.slice a13 ((runE l).forest (runE l).synced).length c14), (.slice a15 (runE l).replies.length c16)]) Tryz.underlying43 rfl (size_43) (rangeF (c := [(.bool (runE l).up), (.int .i64 (((runE l).synced : Nat) : Int)), (.int .i64 (((runE l).waiting.length : Nat) : Int)), (.slice a13 ((runE l).forest (runE l).synced).length c14), (.slice a15 (runE l).replies.length c16)]) (St.start hs55).sat (Le.cells le49 hc46)))) ?_
 simp only [pq]
 refine hl_take 1 rfl (by kernel_rfl) (v := (iI 0)) (fun _ _ _ h => h) S52.sat rfl (fun w56 hs57 => ex_move _) ?_
 simp only [pq]
 refine hl_take 2 rfl (by kernel_rfl) (v := bT) (fun _ _ _ h => h) S52.sat rfl (fun w58 hs59 => ex_eql (b := true) rfl rfl (by decide)) ?_
 simp only [pq]
 refine hl_take 3 rfl (by kernel_rfl) (v := bT) (fun _ _ _ h => h) S52.sat rfl (fun w60 hs61 => ex_move _) ?_
 simp only [pq]
 refine hl_take 4 rfl (by kernel_rfl) (v := (iI 0)) (fun _ _ _ h => h) S52.sat rfl (fun w62 hs63 => ex_move _) ?_
 simp only [pq]
 refine hl_take 5 rfl (by kernel_rfl) (v := bT) (fun _ _ _ h => h) S52.sat rfl (fun w64 hs65 => ex_eql (b := true) rfl rfl (by decide)) ?_
 simp only [pq]
 refine hl_take 6 rfl (by kernel_rfl) (v := bT) (fun _ _ _ h => h) S52.sat rfl (fun w66 hs67 => ex_pick (b := true) rfl) ?_
 simp only [pq]
 refine hl_take 7 rfl (by kernel_rfl) (v := bT) (fun _ _ _ h => h) S52.sat rfl (fun w68 hs69 => ex_move _) ?_
 simp only [pq]
 refine hl_take 8 rfl (by kernel_rfl) (v := (pP n38 0)) (fun _ _ _ h => h) S52.sat rfl (fun w70 hs71 => ef (fa_43_0 _ _)) ?_
 simp only [pq]
 refine hl_take 9 rfl (by kernel_rfl) (v := bT) (fun _ _ _ h => h) S52.sat rfl (fun w72 hs73 => ex_load rfl (load1 (nagg_4 _) (St.fz (St.start hs73) (hc50 0 _ rfl)))) ?_
 simp only [pq]
 refine hl_take 10 rfl (by kernel_rfl) (v := bT) (fun _ _ _ h => h) S52.sat rfl (fun w74 hs75 => ex_pick (b := true) rfl) ?_
 simp only [pq]
 refine hl_next 11 (by kernel_rfl) rfl ?_
 refine sW 0 S52 (size_43) fun w76 S77 => ?_
 refine wl_nil (hl_back S77.sat ?_)
 refine hl_take 12 rfl (by kernel_rfl) (v := bT) (fun _ _ _ h => h) S77.sat rfl (fun w78 hs79 => ex_assign _) ?_
 simp only [pq]
 refine hl_done (by kernel_rfl) ?_
 refine hK43 _ _ ?_
 refine wp_ret ?_
 try simp only [xt]
 refine bR (res_ct rfl ⟨_, rfl, lR S77 0 Tryz.underlying43 (size_43)⟩ (gD rfl)) ?_
 exact ⟨_, _, rfl, S77.gr, _, rfl, _, _, _, _, rfl, (r17.mono ((le28.trans le45).trans le49)), (r18.mono ((le28.trans le45).trans le49))⟩
structure ScrOk (l : List Ac) : Prop where
  ok : ∀ a ∈ l, AcOk a
  c : countC l ≤ 149
  len : l.length ≤ 100000
  P : ∀ a ∈ l, isP a = true → ProveS
  K : ∀ a ∈ l, isK a = true → CrashS
theorem ranIs_spec (F : Fz) (w : World) (v : Value) (l : List Ac) {g : Eng} (hs : Sat w F) (hh : Has w) (hT : Tabs w) (hv : Acs F v l) (h : ScrOk l) (hg : runE l = g) :
    Calls Tryz.prog 23 #[v] w (Gives w F (RanV g)) := hg ▸ ran_spec F w v l hs hh hT hv h.ok h.c h.len h.P h.K
def rq0 : Rq := ⟨[], [], [], []⟩
/-- A byte of any number. -/
def u8of (z : Int) : UInt8 := UInt8.ofNat (z % 256).toNat
theorem ask_enc {g : Eng} {s k : Nat} {r : Rq} (ok : RqOk k r) : g.act (.ask s (encQ k r)) = if g.up then g.req s k r else g.reply (repC s 13) := by
 unfold Eng.act Eng.ask
 simp only [(wd_back ok).1, (wd_back ok).2]
 rfl
/-- A script of whole requests. -/
inductive Rc where
  | rq (s k : Nat) (r : Rq)
  | sync
  | crash (k : Nat)
  | start
def Rc.ac : Rc → Ac
  | .rq s k r => .ask s (encQ k r)
  | .sync => .sync
  | .crash k => .crash k
  | .start => .start
def Eng.rc (g : Eng) : Rc → Eng
  | .rq s k r => if g.up then g.req s k r else g.reply (repC s 13)
  | .sync => g.sync
  | .crash k => g.crash k
  | .start => g.start
def RcOk : Rc → Prop
  | .rq s k r => s < 8 ∧ RqOk k r
  | .crash k => k ≤ 100000
  | _ => True
theorem rc_act (g : Eng) {a : Rc} (h : RcOk a) : g.act a.ac = g.rc a := by
 cases a with
 | rq s k r => exact ask_enc h.2
 | sync => rfl
 | crash k => rfl
 | start => rfl
theorem rc_run : ∀ (l : List Rc) (g : Eng), (∀ a ∈ l, RcOk a) → (l.map Rc.ac).foldl Eng.act g = l.foldl Eng.rc g
  | [], g, _ => rfl
  | a :: l, g, h => by
    rw [List.map_cons, List.foldl_cons, List.foldl_cons, rc_act g (h a (by simp)), rc_run l _ (fun x hx => h x (by simp [hx]))]
def runR (l : List Rc) : Eng := l.foldl Eng.rc eng0
theorem runE_rc {l : List Rc} (h : ∀ a ∈ l, RcOk a) : runE (l.map Rc.ac) = runR l := rc_run l eng0 h
def rcP : Rc → Bool
  | .rq _ k _ => k == 8
  | _ => false
def rcK : Rc → Bool
  | .crash _ => true
  | _ => false
def rcC : Rc → Bool
  | .rq _ k _ => k == 6
  | _ => false
theorem isP_rc {a : Rc} (h : RcOk a) : isP a.ac = rcP a := by
 cases a with
 | rq s k r => unfold Rc.ac isP rcP; simp only [(wd_back h.2).1, (wd_back h.2).2]; rfl
 | _ => rfl
theorem isK_rc (a : Rc) : isK a.ac = rcK a := by cases a <;> rfl
theorem isC_rc {a : Rc} (h : RcOk a) : isC a.ac = rcC a := by
 cases a with
 | rq s k r => unfold Rc.ac isC rcC; simp only [(wd_back h.2).1, (wd_back h.2).2]; rfl
 | _ => rfl
theorem AcOk_rc {a : Rc} (h : RcOk a) : AcOk a.ac := by
 cases a with
 | rq s k r =>
  refine ⟨h.1, ?_⟩
  have := encQ_len h.2
  omega
 | sync => trivial
 | crash k => exact h
 | start => trivial
theorem countC_rc {l : List Rc} (h : ∀ a ∈ l, RcOk a) : countC (l.map Rc.ac) = (l.map fun a => if rcC a then 1 else 0).sum := by
 unfold countC
 rw [List.map_map]
 congr 1
 refine List.map_congr_left fun a ha => ?_
 simp only [Function.comp_apply, isC_rc (h a ha)]
theorem conv_u8 (z : Int) (w : World) : (convert 3 5 (.int .i64 z)).run Tryz.prog w = .ok (.int .u8 (((u8of z).toNat : Nat) : Int)) w := by
 have e : IntKind.u8.wrap z = (((u8of z).toNat : Nat) : Int) := by
  rw [show IntKind.u8.wrap z = z % 256 from rfl]
  have h : (u8of z).toNat = (z % 256).toNat := by
   have hm : (z % 256).toNat < 256 := by omega
   unfold u8of
   simp only [UInt8.toNat_ofNat']
   exact Nat.mod_eq_of_lt hm
  rw [h]; omega
 rw [← e]
 go_simp
theorem Rps.get {F : Fz} {a : Option Addr} {n c : Nat} {l : List Rep} (h : Rps F (.slice a n c) l) {i : Nat} {r : Rep} (hp : l[i]? = some r) :
    ∃ b o, a = some ⟨b, o, none⟩ ∧ ∃ va vc pa pc ra rc, cellF F b (o + i * 15) = some (.int .i64 ((r.s : Nat) : Int)) ∧ cellF F b (o + i * 15 + 1) = some (.int .i64 r.code) ∧ cellF F b (o + i * 15 + 2) = some (.int .i64 r.turn) ∧ cellF F b (o + i * 15 + 3) = some (.bool r.found) ∧ cellF F b (o + i * 15 + 4) = some (.slice va r.value.length vc) ∧ cellF F b (o + i * 15 + 5) = some (.slice pa r.pairs.length pc) ∧ cellF F b (o + i * 15 + 6) = some (.slice ra r.root.length rc) ∧ Bs F (.slice va r.value.length vc) r.value ∧ Prs F (.slice pa r.pairs.length pc) r.pairs ∧ Bs F (.slice ra r.root.length rc) r.root := by
 obtain ⟨hi, rfl⟩ := List.getElem?_eq_some_iff.1 hp
 have hn := Sl.len h
 obtain ⟨b, o, e, h1⟩ := Sl.at h (by omega) (by omega)
 obtain ⟨cs, q1, ⟨v, p, q, a1, a2, a3, b1, b2, b3, rfl, r1, r2, r3, _⟩, q3⟩ := h1 i hi
 obtain ⟨va, vc, rfl, _⟩ := r1.shape
 obtain ⟨pa, pc, rfl, _⟩ := Sl.shape r2
 obtain ⟨ra, rc, rfl, _⟩ := r3.shape
 refine ⟨b, o, e, va, vc, pa, pc, ra, rc, ?_, ?_, ?_, ?_, ?_, ?_, ?_, r1, r2, r3⟩
 have := q3 0 (by simp); simpa [Nat.add_assoc] using this
 have := q3 1 (by simp); simpa [Nat.add_assoc] using this
 have := q3 2 (by simp); simpa [Nat.add_assoc] using this
 have := q3 3 (by simp); simpa [Nat.add_assoc] using this
 have := q3 4 (by simp); simpa [Nat.add_assoc] using this
 have := q3 5 (by simp); simpa [Nat.add_assoc] using this
 have := q3 6 (by simp); simpa [Nat.add_assoc] using this
def rcB : Rc → Bool
  | .rq s k r => decide (s < 8) && decide (1 ≤ k) && decide (k ≤ 8) && (wireN k r.name.length r.key.length r.last.length r.value.length == 0)
  | .crash k => decide (k ≤ 100000)
  | _ => true
theorem rcB_ok {a : Rc} (h : rcB a = true) : RcOk a := by
 cases a with
 | rq s k r =>
  simp only [rcB, Bool.and_eq_true, decide_eq_true_eq, beq_iff_eq] at h
  exact ⟨h.1.1.1, ⟨h.1.1.2, h.1.2⟩, h.2⟩
 | crash k => simpa [rcB, RcOk] using h
 | sync => trivial
 | start => trivial
def scrB (l : List Rc) : Bool := l.all rcB && decide ((l.map fun a => if rcC a then 1 else 0).sum ≤ 149) && decide (l.length ≤ 100000)
theorem scr_of {l : List Rc} (h : scrB l = true) (hP : l.any rcP = true → ProveS) (hK : l.any rcK = true → CrashS) : ScrOk (l.map Rc.ac) := by
 simp only [scrB, Bool.and_eq_true, decide_eq_true_eq] at h
 have hok : ∀ a ∈ l, RcOk a := fun a ha => rcB_ok (List.all_eq_true.1 h.1.1 a ha)
 refine ⟨fun a ha => ?_, by rw [countC_rc hok]; exact h.1.2, by rw [List.length_map]; exact h.2, fun a ha hp => ?_, fun a ha hk => ?_⟩
 obtain ⟨x, hx, rfl⟩ := List.mem_map.1 ha; exact AcOk_rc (hok x hx)
 obtain ⟨x, hx, rfl⟩ := List.mem_map.1 ha
 exact hP (List.any_eq_true.2 ⟨x, hx, by rw [← isP_rc (hok x hx)]; exact hp⟩)
 obtain ⟨x, hx, rfl⟩ := List.mem_map.1 ha
 exact hK (List.any_eq_true.2 ⟨x, hx, by rw [← isK_rc]; exact hk⟩)
theorem scr_no {l : List Rc} (h : (scrB l && !l.any rcP && !l.any rcK) = true) : ScrOk (l.map Rc.ac) ∧ runE (l.map Rc.ac) = runR l := by
 simp only [Bool.and_eq_true, Bool.not_eq_true'] at h
 have h1 := h.1.1
 simp only [scrB, Bool.and_eq_true, decide_eq_true_eq] at h1
 exact ⟨scr_of h.1.1 (fun k => by rw [h.1.2] at k; cases k) (fun k => by rw [h.2] at k; cases k), runE_rc fun a ha => rcB_ok (List.all_eq_true.1 h1.1.1 a ha)⟩
theorem getD_some {α : Type} {l : List α} {i : Nat} {x : α} (h : l[i]? = some x) : i < l.length := (List.getElem?_eq_some_iff.1 h).1
open Go.ChangeShapes Go.WideShapes Go.ChangeAt Go.RowKit
abbrev laid4 : List (String × DataW Unit) := [("canopy/digest.rounds", Rows.laid_canopy_digest_rounds), ("canopy/digest.goes", Rows.laid_canopy_digest_goes), ("canopy/digest.turns", Rows.laid_canopy_digest_turns), ("canopy/wire.has", Rows.laid_canopy_wire_has)]
theorem dig_met4 {W : World} (h : laidMetH Tryz.prog laid4 W) : Tabs W := by
 have hr : Lib.TabIs Tryz.prog W "canopy/digest.rounds" .u64 roundsZ :=
  tabIs_at (l := laid4) h 0 _ _ _ rfl gRounds gRoundsType Tryz.underlying218 Tryz.underlying215 gRoundsOne gRoundsCells
 have hg : Lib.TabIs Tryz.prog W "canopy/digest.goes" .i64 goesZ :=
  tabIs_at (l := laid4) h 1 _ _ _ rfl gGoes gGoesType Tryz.underlying235 Tryz.underlying3 gGoesOne gGoesCells
 have ht : Lib.TabIs Tryz.prog W "canopy/digest.turns" .i64 turnsZ :=
  tabIs_at (l := laid4) h 2 _ _ _ rfl gTurns gTurnsType Tryz.underlying235 Tryz.underlying3 gTurnsOne gTurnsCells
 refine ⟨fun i hi => ?_, fun i hi => ?_, fun i hi => ?_⟩
 rw [tab_at hg gGoes (n := 24) rfl hi, goes_are i hi]
 rw [tab_at ht gTurns (n := 24) rfl hi, turns_are i hi]
 rw [tab_at hr gRounds (n := 24) rfl hi, rounds_are i hi]
theorem gHas : Tryz.prog.globalNamed "canopy/wire.has" = some 0 := by kernel_rfl
theorem gHasType : (Tryz.prog.globals[(0 : Nat)]?).map (·.type) = some 92 := by kernel_rfl
theorem gHasCells : Tryz.prog.cellsOf 92 = 9 := by kernel_rfl
theorem intCells : Tryz.prog.cellsOf 3 = 1 := by kernel_rfl
theorem has_met4 {W : World} (h : laidMetH Tryz.prog laid4 W) : Has W := by
 have ht : Lib.TabIs Tryz.prog W "canopy/wire.has" .i64 hasL :=
  tabIs_at (l := laid4) h 3 _ _ _ rfl gHas gHasType Tryz.underlying92 Tryz.underlying3 intCells gHasCells
 intro i hi
 have := ht.cell gHas i hi
 rw [this]
 simp [List.getD, hi]
theorem top_met {W : World} (h : laidMetH Tryz.prog [("canopy/digest.rounds", Rows.laid_canopy_digest_rounds), ("canopy/digest.goes", Rows.laid_canopy_digest_goes), ("canopy/digest.turns", Rows.laid_canopy_digest_turns), ("canopy/wire.has", Rows.laid_canopy_wire_has)] W) : Has W ∧ Tabs W := ⟨has_met4 h, dig_met4 h⟩
noncomputable def topWorld (os : Os) : World := { digWorld os with heap := (digWorld os).heap.modify 0 (setCells #[.int .i64 0, .int .i64 0, .int .i64 3, .int .i64 7, .int .i64 11, .int .i64 3, .int .i64 0, .int .i64 0, .int .i64 3]) }
theorem Rps.row {F : Fz} {a : Option Addr} {n c : Nat} {l : List Rep} (h : Rps F (.slice a n c) l) {i : Nat} {r : Rep} (hp : l[i]? = some r) :
    ∃ b o, a = some ⟨b, o, none⟩ ∧ ∃ va vc pa pc ra rc a1 a2 a3 b1 b2 b3, (∀ (j : Nat) v, [Value.int .i64 ((r.s : Nat) : Int), .int .i64 r.code, .int .i64 r.turn, .bool r.found, .slice va r.value.length vc, .slice pa r.pairs.length pc, .slice ra r.root.length rc, .bool r.outer.empty, a1, a2, a3, .bool r.inner.empty, b1, b2, b3][j]? = some v → cellF F b (o + i * 15 + j) = some v) ∧ (∀ u ∈ [a1, a2, a3, b1, b2, b3], u.oneCell' = true) ∧ Bs F (.slice va r.value.length vc) r.value ∧ Prs F (.slice pa r.pairs.length pc) r.pairs ∧ Bs F (.slice ra r.root.length rc) r.root := by
 obtain ⟨hi, rfl⟩ := List.getElem?_eq_some_iff.1 hp
 have hn := Sl.len h
 obtain ⟨b, o, e, h1⟩ := Sl.at h (by omega) (by omega)
 obtain ⟨cs, q1, hc, q3⟩ := h1 i hi
 have hone := RpC.oneCell hc
 obtain ⟨v, p, q, a1, a2, a3, b1, b2, b3, rfl, r1, r2, r3, _⟩ := hc
 obtain ⟨va, vc, rfl, _⟩ := r1.shape
 obtain ⟨pa, pc, rfl, _⟩ := Sl.shape r2
 obtain ⟨ra, rc, rfl, _⟩ := r3.shape
 refine ⟨b, o, e, va, vc, pa, pc, ra, rc, a1, a2, a3, b1, b2, b3, fun j v hv => ?_, fun u hu => hone u ?_, r1, r2, r3⟩
 obtain ⟨hj, e⟩ := List.getElem?_eq_some_iff.1 hv
 have := q3 j (by simpa using hj)
 rw [← e]; simpa [Nat.add_assoc] using this
 simp only [List.mem_cons, List.not_mem_nil, or_false] at hu ⊢
 rcases hu with h | h | h | h | h | h <;> simp [h]
theorem does_byte {P : Program} {o : Oper} {a : Act} {W w : World} {F F1 : Fz} {b : UInt8} {E : TypeId} (g : Gr W F w F1)
    (hr : (execOp a.eval o).run P w = .ok (.value (.slice (some ⟨w.heap.size, 0, none⟩) 1 1)) (w.alloc (.cells #[bv b] E))) : Does P o a w (RelPost (Made W F fun F' u => Bs F' u [b]) w) := by
 have h := does_lit (R := ByC) (hR := ByC.mono) (p := b) (cs := [bv b]) (k := 1) g rfl rfl hr
 unfold Does at h ⊢
 rw [hr] at h ⊢
 obtain ⟨⟨F', h2, h3⟩, h4⟩ := h
 exact ⟨⟨F', h2, bs_of_sl h3⟩, h4⟩
def ReqR (F : Fz) (v : Value) (p : Nat × Rq) : Prop := ∃ a c a1 c1 a2 c2 a3 c3, v = .agg #[.int .i64 ((p.1 : Nat) : Int), .slice a p.2.name.length c, .slice a1 p.2.key.length c1, .slice a2 p.2.last.length c2, .slice a3 p.2.value.length c3] ∧ Bs F (.slice a p.2.name.length c) p.2.name ∧ Bs F (.slice a1 p.2.key.length c1) p.2.key ∧ Bs F (.slice a2 p.2.last.length c2) p.2.last ∧ Bs F (.slice a3 p.2.value.length c3) p.2.value
theorem AcV.mono {F F' : Fz} {v : Value} {a : Ac} (h : AcV F v a) (hl : Le F F') : AcV F' v a := by
 obtain ⟨x, y, e, r⟩ := h
 exact ⟨x, y, e, r.mono hl⟩
open Go.ChangeShapes Go.WideShapes Go.ChangeAt Go.RowKit Go.Deep
def I64 (z : Int) : Prop := -9223372036854775808 ≤ z ∧ z ≤ 9223372036854775807
def IntC (F : Fz) (cs : List Value) (z : Int) : Prop := cs = [.int .i64 z] ∧ I64 z
theorem IntC.mono (F F' : Fz) (x : List Value) (p : Int) (hl : Le F F') (h : IntC F x p) : IntC F' x p := h
def Ints (F : Fz) (v : Value) (l : List Int) : Prop := Sl 1 IntC F v l
theorem Ints.mono {F F' : Fz} {v : Value} {l : List Int} (h : Ints F v l) (hl : Le F F') : Ints F' v l := Sl.mono IntC.mono h hl
theorem Ints.get {F : Fz} {a : Option Addr} {n c : Nat} {l : List Int} (h : Ints F (.slice a n c) l) {i : Nat} {z : Int} (hz : l[i]? = some z) :
    ∃ b o, a = some ⟨b, o, none⟩ ∧ cellF F b (o + i * 1) = some (.int .i64 z) ∧ I64 z := by
 obtain ⟨hi, rfl⟩ := List.getElem?_eq_some_iff.1 hz
 have hn := h.len
 obtain ⟨b, o, e, h1⟩ := Sl.at h (by omega) (by omega)
 obtain ⟨cs, q1, ⟨rfl, r1⟩, q4⟩ := h1 i hi
 exact ⟨b, o, e, by have := q4 0 (by simp); simpa using this, r1⟩
structure Ge where
  kind : Int
  session : Int
  name : Int
  key : Int
  value : Int
def GeOk (g : Ge) : Prop := I64 g.kind ∧ I64 g.session ∧ I64 g.name ∧ I64 g.key ∧ I64 g.value
def GeC (F : Fz) (cs : List Value) (g : Ge) : Prop := cs = [.int .i64 g.kind, .int .i64 g.session, .int .i64 g.name, .int .i64 g.key, .int .i64 g.value] ∧ GeOk g
theorem GeC.mono (F F' : Fz) (x : List Value) (p : Ge) (hl : Le F F') (h : GeC F x p) : GeC F' x p := h
def Ges (F : Fz) (v : Value) (l : List Ge) : Prop := Sl 5 GeC F v l
theorem Ges.mono {F F' : Fz} {v : Value} {l : List Ge} (h : Ges F v l) (hl : Le F F') : Ges F' v l := Sl.mono GeC.mono h hl
theorem Ges.get {F : Fz} {a : Option Addr} {n c : Nat} {l : List Ge} (h : Ges F (.slice a n c) l) {i : Nat} {g : Ge} (hz : l[i]? = some g) :
    ∃ b o, a = some ⟨b, o, none⟩ ∧ (∀ (j : Nat) v, [Value.int .i64 g.kind, .int .i64 g.session, .int .i64 g.name, .int .i64 g.key, .int .i64 g.value][j]? = some v → cellF F b (o + i * 5 + j) = some v) ∧ GeOk g := by
 obtain ⟨hi, rfl⟩ := List.getElem?_eq_some_iff.1 hz
 have hn := h.len
 obtain ⟨b, o, e, h1⟩ := Sl.at h (by omega) (by omega)
 obtain ⟨cs, q1, ⟨rfl, r1⟩, q4⟩ := h1 i hi
 refine ⟨b, o, e, fun j v hv => ?_, r1⟩
 obtain ⟨hj, e⟩ := List.getElem?_eq_some_iff.1 hv
 have := q4 j (by simpa using hj)
 rw [← e]; simpa [Nat.add_assoc] using this
section
variable {H : Type} {enc : TypeId × Value → H} {P : Program} {w : World}
theorem list5 {α : Type} {cs : List α} (h : cs.length = 5) : ∃ a b c d e, cs = [a, b, c, d, e] := by
 match cs, h with
 | [a, b, c, d, e], _ => exact ⟨a, b, c, d, e, rfl⟩
theorem rd_gears {t e it : TypeId} {f0 f1 f2 f3 f4 : Field} {fuel : Nat} {v : Value} {x : DataW H × List MemPlace} (ht : P.underlying t = some (.slice e)) (hs : P.underlying e = some (.struct #[f0, f1, f2, f3, f4])) (hone : oneCellFields P #[f0, f1, f2, f3, f4] = true) (hC : P.cellsOf e = 5)
    (e0 : f0.type = it) (e1 : f1.type = it) (e2 : f2.type = it) (e3 : f3.type = it) (e4 : f4.type = it) (hi : P.underlying it = some (.int .i64))
    (h : DataW.trod enc P w 0 (fun _ => true) true fuel t [v] = some x) : ∃ l : List Ge, Ges (whole w) v l :=
  rd_slice (α := Ge) (k := 5) (R := GeC) ht hC (by omega) h (fun n cs y hl hy => by
    obtain ⟨c0, c1, c2, c3, c4, rfl⟩ := list5 hl
    obtain ⟨xs, m, _, _, _, hlen, hf⟩ := DataW.trod_struct hs hy
    obtain ⟨o0, k0⟩ := hone_of hone 0 f0 rfl
    obtain ⟨o1, k1⟩ := hone_of hone 1 f1 rfl
    obtain ⟨o2, k2⟩ := hone_of hone 2 f2 rfl
    obtain ⟨o3, k3⟩ := hone_of hone 3 f3 rfl
    obtain ⟨o4, k4⟩ := hone_of hone 4 f4 rfl
    match xs, hlen with
    | [y0, y1, y2, y3, y4], _ =>
      have h0 := hf 0 f0 rfl
      have h1 := hf 1 f1 rfl
      have h2 := hf 2 f2 rfl
      have h3 := hf 3 f3 rfl
      have h4 := hf 4 f4 rfl
      rw [o0, k0] at h0
      rw [o1, k1] at h1
      rw [o2, k2] at h2
      rw [o3, k3] at h3
      rw [o4, k4] at h4
      simp only [List.drop_zero, List.drop_succ_cons, List.take_succ_cons, List.take_zero] at h0 h1 h2 h3 h4
      rw [e0] at h0
      rw [e1] at h1
      rw [e2] at h2
      rw [e3] at h3
      rw [e4] at h4
      have one : ∀ {n c y}, DataW.trod enc P w 0 (fun _ => true) true n it [c] = some y → ∃ z, c = .int .i64 z ∧ I64 z := fun h => by
        obtain ⟨z, hz, _, hwf⟩ := DataW.trod_int hi h
        have hb := bounds_i64 hwf
        exact ⟨z, by simpa using hz, by omega, by omega⟩
      obtain ⟨z0, rfl, b0⟩ := one h0
      obtain ⟨z1, rfl, b1⟩ := one h1
      obtain ⟨z2, rfl, b2⟩ := one h2
      obtain ⟨z3, rfl, b3⟩ := one h3
      obtain ⟨z4, rfl, b4⟩ := one h4
      exact ⟨⟨z0, z1, z2, z3, z4⟩, rfl, b0, b1, b2, b3, b4⟩)
end
def pickN (n : Int) (m : Nat) : Nat := (pick n m).toNat
theorem pickN_eq (n : Int) {m : Nat} (h : 1 ≤ m) : pick n m = ((pickN n m : Nat) : Int) := by have := pick_bd n m (by omega); unfold pickN; omega
theorem pickN_lt (n : Int) {m : Nat} (h : 1 ≤ m) : pickN n m < m := by have := pick_bd n m (by omega); unfold pickN; omega
def gName (g : Ge) : By := [u8of ((97 + pickN g.name 3 : Nat) : Int)]
def gKey (z : Int) : By := [u8of ((107 + pickN z 5 : Nat) : Int)]
def reqK (k : Nat) (g : Ge) : Nat × Rq :=
  if k < 4 then (1, rq0) else if k < 7 then (2, ⟨gName g, gKey g.key, [], []⟩) else if k = 7 then (3, ⟨gName g, gKey g.key, gKey g.value, []⟩)
  else if k < 12 then (4, ⟨gName g, gKey g.key, [], [u8of ((pickN g.value 50 : Nat) : Int)]⟩) else if k = 12 then (5, ⟨gName g, gKey g.key, [], []⟩)
  else if k < 17 then (6, rq0) else if k = 17 then (7, rq0) else (8, ⟨gName g, gKey g.key, [], []⟩)
def reqG (g : Ge) : Nat × Rq := reqK (pickN g.kind 20) g
theorem reqK_ok (k : Nat) (g : Ge) : RqOk (reqK k g).1 (reqK k g).2 := by
 unfold reqK
 split
 ·exact ⟨(by decide : 1 ≤ 1 ∧ 1 ≤ 8), by kernel_rfl⟩
 split
 ·exact ⟨(by decide : 1 ≤ 2 ∧ 2 ≤ 8), by kernel_rfl⟩
 split
 ·exact ⟨(by decide : 1 ≤ 3 ∧ 3 ≤ 8), by kernel_rfl⟩
 split
 ·exact ⟨(by decide : 1 ≤ 4 ∧ 4 ≤ 8), by kernel_rfl⟩
 split
 ·exact ⟨(by decide : 1 ≤ 5 ∧ 5 ≤ 8), by kernel_rfl⟩
 split
 ·exact ⟨(by decide : 1 ≤ 6 ∧ 6 ≤ 8), by kernel_rfl⟩
 split
 ·exact ⟨(by decide : 1 ≤ 7 ∧ 7 ≤ 8), by kernel_rfl⟩
 ·exact ⟨(by decide : 1 ≤ 8 ∧ 8 ≤ 8), by kernel_rfl⟩
theorem reqG_ok (g : Ge) : RqOk (reqG g).1 (reqG g).2 := reqK_ok _ g
theorem nodup_len : ∀ (l S : List By), l.Nodup → (∀ x ∈ l, x ∈ S) → l.length ≤ S.length
  | [], S, _, _ => Nat.zero_le _
  | x :: l, S, hn, hs => by
    have hx := hs x (by simp)
    rw [List.nodup_cons] at hn
    have := nodup_len l (S.erase x) hn.2 (fun y hy => (List.mem_erase_of_ne (by rintro rfl; exact hn.1 hy)).2 (hs y (by simp [hy])))
    rw [List.length_erase_of_mem hx] at this
    have := List.length_pos_of_mem hx
    simp; omega
/-- All tenants have one of these names. -/
def Few (S : List By) (f : Forest) : Prop := ∀ n, treeF f n ≠ [] → n ∈ S
theorem Few.nil (S : List By) : Few S [] := fun n h => absurd rfl h
theorem Few.write {S : List By} {f g : Forest} {w : Wr} (h : Few S f) (hr : Rise f) (hw : w.name ∈ S) (e : writeF f w = some g) : Few S g := by
 intro n hn
 rw [treeF_writeF hr e n] at hn
 by_cases c : w.name = n
 ·rw [← c]; exact hw
 ·rw [if_neg c] at hn; exact h n hn
theorem Few.len {S : List By} {m : Nat} {f : Forest} (h : Few S f) (ok : ForestOk m f) : f.length ≤ S.length := by
 have := nodup_len (f.map (·.1)) S (by
  rw [List.nodup_iff_pairwise_ne, List.pairwise_map]
  exact ok.rise.imp fun hlt => less_ne hlt) (fun x hx => by
  obtain ⟨t, ht, rfl⟩ := List.mem_map.1 hx
  refine h t.1 ?_
  have hg := mem_getT ok.rise ht
  unfold treeF
  rw [hg]
  exact ok.some t ht)
 simpa using this
theorem Few.room {S : List By} {m : Nat} {f : Forest} {w : Wr} (h : Few S f) (ok : ForestOk m f) (hS : S.length < 8) (hm : m < 60) (hw : WrOk w) : ∃ g, writeF f w = some g := by
 cases e : writeF f w with
 | some g => exact ⟨g, rfl⟩
 | none => have := (writeF_none ok hw hm e).1; have := h.len ok; omega
/-- A round: what it writes. -/
def rcW (q : Nat × Rq) : Wr := ⟨q.2.name, q.2.key, q.1 == 5, q.2.value⟩
theorem rcW_ok {q : Nat × Rq} (hk : q.1 = 4 ∨ q.1 = 5) (ok : RqOk q.1 q.2) : WrOk (rcW q) := rqw_ok ok hk
def roundR (q : Nat × Rq) : List Rc := [.rq 0 1 rq0, .rq 0 q.1 q.2, .rq 0 6 rq0, .sync]
def roundsR (qs : List (Nat × Rq)) : List Rc := qs.flatMap roundR
structure Rnd (n : Nat) (f : Forest) (g : Eng) : Prop where
  up : g.up = true
  txn : g.txn 0 = none
  waits : g.waits 0 = false
  waiting : g.waiting = []
  synced : g.synced = n
  commits : g.commits.length = n
  states : g.forests.length = n + 1
  forest : g.forest n = f
theorem Rnd.nil : Rnd 0 [] eng0 := ⟨rfl, rfl, rfl, rfl, rfl, rfl, rfl, rfl⟩
theorem clash_none (t : Int) (cs : List Cm) : clashX t [] cs = false := by
 unfold clashX
 rw [List.any_eq_false]
 intro c _
 simp
theorem Rnd.step {n : Nat} {f f' : Forest} {g : Eng} (h : Rnd n f g) (hn : n < 300) {q : Nat × Rq} (hk : q.1 = 4 ∨ q.1 = 5) (hf : writeF f (rcW q) = some f') :
    Rnd (n + 1) f' ((roundR q).foldl Eng.rc g) ∧ ((roundR q).foldl Eng.rc g).replies = g.replies ++ [repT 0 n, repC 0 0, repT 0 ((n + 1 : Nat) : Int)] := by
 have e1 : g.rc (.rq 0 1 rq0) = (g.setTxn 0 (some ⟨n, [], []⟩)).reply (repT 0 n) := by
  unfold Eng.rc
  simp only
  rw [if_pos h.up]
  unfold Eng.req
  rw [if_neg (by decide), h.waits, if_neg (by decide), h.txn]
  simp only
  rw [if_pos trivial, h.synced]
 have e2 : ∀ z : Eng, z.up = true → z.waits 0 = false → z.synced = n → z.txn 0 = some ⟨n, [], []⟩ → z.rc (.rq 0 q.1 q.2) = (z.setTxn 0 (some ⟨n, [], [rcW q]⟩)).reply (repC 0 0) := by
  intro z h1 h2 h3 h4
  unfold Eng.rc
  simp only
  rw [if_pos h1]
  unfold Eng.req
  rw [if_neg (by omega), h2, if_neg (by decide), h4]
  simp only
  rw [if_neg (by omega), if_neg (by omega), h3, if_pos (by unfold Eng.keptB; simp)]
  unfold Eng.work
  rw [if_neg (by omega), if_neg (by omega), if_neg (by omega)]
  rfl
 have e3 : ∀ z : Eng, z.up = true → z.waits 0 = false → z.synced = n → z.commits.length = n → z.forest n = f → z.txn 0 = some ⟨n, [], [rcW q]⟩ → z.rc (.rq 0 6 rq0) = z.stand 0 ⟨n, [], [rcW q]⟩ f' := by
  intro z h1 h2 h3 h4 h5 h6
  unfold Eng.rc
  simp only
  rw [if_pos h1]
  unfold Eng.req
  rw [if_neg (by decide), h2, if_neg (by decide), h6]
  simp only
  rw [if_neg (by decide), if_neg (by decide), h3, if_pos (by unfold Eng.keptB; simp)]
  unfold Eng.work
  rw [if_neg (by decide), if_neg (by decide), if_pos rfl]
  unfold Eng.commit
  rw [if_neg (by simp), if_neg (by omega), clash_none, if_neg (by decide), h4, h5, applyF_one, hf]
 have hr : (roundR q).foldl Eng.rc g = (((((g.setTxn 0 (some ⟨n, [], []⟩)).reply (repT 0 n)).setTxn 0 (some ⟨n, [], [rcW q]⟩)).reply (repC 0 0)).stand 0 ⟨n, [], [rcW q]⟩ f').sync := by
  unfold roundR
  rw [List.foldl_cons, List.foldl_cons, List.foldl_cons, List.foldl_cons, List.foldl_nil, e1, e2 _ (by exact h.up) (by exact h.waits) (by exact h.synced) (by show updN g.txn 0 _ 0 = _; exact updN_same _ _ _), e3 _ (by exact h.up) (by exact h.waits) (by exact h.synced) (by exact h.commits) (by exact h.forest) (by show updN (updN g.txn 0 (some ⟨n, [], []⟩)) 0 (some ⟨n, [], [rcW q]⟩) 0 = _; exact updN_same _ _ _)]
  rfl
 rw [hr, sync_is (by exact h.up)]
 have hw : (((((g.setTxn 0 (some ⟨n, [], []⟩)).reply (repT 0 n)).setTxn 0 (some ⟨n, [], [rcW q]⟩)).reply (repC 0 0)).stand 0 ⟨n, [], [rcW q]⟩ f').waiting = [0] := by
  show g.waiting ++ [0] = [0]
  rw [h.waiting]; rfl
 rw [hw]
 refine ⟨⟨h.up, ?_, ?_, rfl, ?_, ?_, ?_, ?_⟩, ?_⟩
 rfl
 simp
 show g.synced + 1 = n + 1
 rw [h.synced]
 show (g.commits ++ [_]).length = n + 1
 simp [h.commits]
 show (g.forests ++ [f']).length = n + 2
 simp [h.states]
 show (g.forests ++ [f']).getD (n + 1) [] = f'
 rw [List.getD_eq_getElem?_getD, List.getElem?_append_right (by rw [h.states]; exact Nat.le_refl _), h.states]
 simp
 show ((g.replies ++ [_]) ++ [_]) ++ [repT 0 ((g.synced + 1 : Nat) : Int)] = _
 rw [h.synced]
 simp
def repsN (n : Nat) : Nat → List Rep
  | 0 => []
  | m + 1 => repT 0 n :: repC 0 0 :: repT 0 ((n + 1 : Nat) : Int) :: repsN (n + 1) m
theorem repsN_len : ∀ (m n : Nat), (repsN n m).length = 3 * m
  | 0, _ => rfl
  | m + 1, n => by simp [repsN, repsN_len m]; omega
theorem repsN_at : ∀ (m n i : Nat), i < m → (repsN n m)[3 * i]? = some (repT 0 ((n + i : Nat) : Int)) ∧ (repsN n m)[3 * i + 2]? = some (repT 0 ((n + i + 1 : Nat) : Int))
  | m + 1, n, 0, _ => ⟨rfl, rfl⟩
  | m + 1, n, i + 1, h => by
    have := repsN_at m (n + 1) i (by omega)
    rw [show n + (i + 1) = n + 1 + i by omega, show 3 * (i + 1) = 3 * i + 1 + 1 + 1 by omega, show 3 * i + 1 + 1 + 1 + 2 = (3 * i + 2) + 1 + 1 + 1 by omega]
    simp only [repsN, List.getElem?_cons_succ]
    exact this
theorem rounds_from : ∀ (qs : List (Nat × Rq)) {n : Nat} {f f' : Forest} {g : Eng}, Rnd n f g → (∀ q ∈ qs, q.1 = 4 ∨ q.1 = 5) → n + qs.length ≤ 300 → applyF f (qs.map rcW) = some f' →
    Rnd (n + qs.length) f' ((roundsR qs).foldl Eng.rc g) ∧ ((roundsR qs).foldl Eng.rc g).replies = g.replies ++ repsN n qs.length
  | [], n, f, f', g, h, _, _, e => by
    cases (Option.some.inj e : f = f')
    exact ⟨h, (List.append_nil _).symm⟩
  | q :: qs, n, f, f', g, h, hk, hl, e => by
    simp only [List.length_cons] at hl
    simp only [List.map_cons, applyF] at e
    cases e1 : writeF f (rcW q) with
    | none => rw [e1] at e; cases e
    | some f1 =>
      rw [e1] at e
      obtain ⟨h1, h2⟩ := h.step (by omega) (hk q (by simp)) e1
      obtain ⟨h3, h4⟩ := rounds_from qs h1 (fun x hx => hk x (by simp [hx])) (by omega) e
      have e5 : (roundsR (q :: qs)).foldl Eng.rc g = (roundsR qs).foldl Eng.rc ((roundR q).foldl Eng.rc g) := by
        unfold roundsR
        rw [List.flatMap_cons, List.foldl_append]
      rw [e5, List.length_cons, show n + (qs.length + 1) = n + 1 + qs.length by omega]
      refine ⟨h3, ?_⟩
      rw [h4, h2, List.append_assoc]
      rfl
theorem roundsR_succ (qs : List (Nat × Rq)) (q : Nat × Rq) : (roundsR qs).map Rc.ac ++ [Ac.ask 0 (encQ 1 rq0), Ac.ask 0 (encQ q.1 q.2), Ac.ask 0 (encQ 6 rq0), Ac.sync] = (roundsR (qs ++ [q])).map Rc.ac := by
 unfold roundsR
 rw [List.flatMap_append, List.map_append]
 rfl
theorem roundsR_len (qs : List (Nat × Rq)) : ((roundsR qs).map Rc.ac).length = 4 * qs.length := by
 induction qs with
 | nil => rfl
 | cons q qs ih =>
  have e : roundsR (q :: qs) = roundR q ++ roundsR qs := rfl
  rw [e, List.map_append, List.length_append, ih]
  simp [roundR]; omega
/-- The gear of a round of TopRounds. -/
def rndG (g : Ge) : Ge := ⟨((8 + (4 * pickN g.kind 2) : Nat) : Int), 0, g.name, g.key, g.value⟩
def rndQ (g : Ge) : Nat × Rq := reqG (rndG g)
theorem pickN_small {k m : Nat} (h : k < m) (hm : 1 ≤ m) : pickN ((k : Nat) : Int) m = k := by
 unfold pickN pick
 rw [if_neg (by omega)]
 have := Int.emod_eq_of_lt (a := (k : Int)) (b := (m : Int)) (by omega) (by omega)
 rw [this]; simp
theorem rndQ_kind (g : Ge) : (rndQ g).1 = 4 ∨ (rndQ g).1 = 5 := by
 have h := pickN_lt g.kind (m := 2) (by decide)
 unfold rndQ reqG
 rw [show (rndG g).kind = ((8 + (4 * pickN g.kind 2) : Nat) : Int) from rfl, pickN_small (by omega) (by decide)]
 unfold reqK
 rw [if_neg (by omega), if_neg (by omega), if_neg (by omega)]
 by_cases c : 8 + 4 * pickN g.kind 2 < 12
 ·rw [if_pos c]; exact .inl rfl
 ·rw [if_neg c, if_pos (by omega)]; exact .inr rfl
theorem gName_mem (g : Ge) : gName g ∈ ([[97], [98], [99]] : List By) := by
 have h := pickN_lt g.name (m := 3) (by decide)
 unfold gName
 rcases (by omega : pickN g.name 3 = 0 ∨ pickN g.name 3 = 1 ∨ pickN g.name 3 = 2) with e | e | e <;> rw [e] <;> decide
theorem rndQ_name (g : Ge) : (rcW (rndQ g)).name ∈ ([[97], [98], [99]] : List By) := by
 have h := rndQ_kind g
 unfold rndQ reqG at h ⊢
 generalize pickN (rndG g).kind 20 = k at h ⊢
 unfold rcW
 unfold reqK at h ⊢
 repeat' split
 all_goals first | exact gName_mem _ | skip
 all_goals simp_all
theorem rndQ_ok (g : Ge) : WrOk (rcW (rndQ g)) := rcW_ok (rndQ_kind g) (reqG_ok _)
def rndF (l : List Ge) (i : Nat) : Forest := forestW ((l.take i).map fun g => rcW (rndQ g))
theorem rnd_state (l : List Ge) : ∀ i, i ≤ 20 → ForestOk i (rndF l i) ∧ Few [[97], [98], [99]] (rndF l i) ∧ applyF [] ((l.take i).map fun g => rcW (rndQ g)) = some (rndF l i)
  | 0, _ => ⟨by simpa [rndF, forestW] using ForestOk.nil 0, by simpa [rndF, forestW] using Few.nil _, by simp [rndF, forestW, applyF]⟩
  | i + 1, h => by
    obtain ⟨h1, h2, h3⟩ := rnd_state l i (by omega)
    cases hg : l[i]? with
    | none =>
      have hl : l.length ≤ i := List.getElem?_eq_none_iff.1 hg
      have e : l.take (i + 1) = l.take i := by rw [List.take_of_length_le hl, List.take_of_length_le (by omega)]
      unfold rndF at h1 h2 h3 ⊢
      rw [e]
      exact ⟨h1.mono (by omega), h2, h3⟩
    | some g =>
      obtain ⟨hi, rfl⟩ := List.getElem?_eq_some_iff.1 hg
      have e : (l.take (i + 1)).map (fun g => rcW (rndQ g)) = (l.take i).map (fun g => rcW (rndQ g)) ++ [rcW (rndQ l[i])] := by
        rw [List.take_succ_eq_append_getElem hi, List.map_append]; rfl
      obtain ⟨f, hf⟩ := h2.room h1 (by decide) (by omega) (rndQ_ok l[i])
      have hn : rndF l (i + 1) = f := by
        unfold rndF
        rw [e, forestW_snoc, applyF_one]
        have := hf
        unfold rndF at this
        rw [this]; rfl
      rw [hn]
      exact ⟨writeF_ok h1 (rndQ_ok _) hf, h2.write h1.rise (rndQ_name _) hf, by rw [e, applyF_append, h3]; simp only; rw [applyF_one, hf]⟩
theorem rnd_write {l : List Ge} {i : Nat} {g : Ge} (hi : i < 20) (hg : l[i]? = some g) : writeF (rndF l i) (rcW (rndQ g)) = some (rndF l (i + 1)) := by
 obtain ⟨h1, h2, h3⟩ := rnd_state l i (by omega)
 obtain ⟨_, _, h4⟩ := rnd_state l (i + 1) (by omega)
 obtain ⟨hl, rfl⟩ := List.getElem?_eq_some_iff.1 hg
 rw [List.take_succ_eq_append_getElem hl, List.map_append, applyF_append, h3] at h4
 rw [← applyF_one]
 exact h4
def rndS (l : List Ge) (i : Nat) : List Rc := roundsR ((l.take i).map rndQ)
theorem rounds_run (l : List Ge) (n : Nat) (hn : n ≤ 20) (hl : n ≤ l.length) : let g := runR (rndS l n)
    g.synced = n ∧ g.replies.length = 3 * n ∧ g.forest g.synced = rndF l n ∧ (∀ i, i < n → g.replies[3 * i]? = some (repT 0 (i : Nat)) ∧ g.replies[3 * i + 2]? = some (repT 0 ((i + 1 : Nat) : Int))) := by
 have e : ((l.take n).map rndQ).length = n := by rw [List.length_map, List.length_take]; omega
 have h3 := (rnd_state l n hn).2.2
 obtain ⟨h1, h2⟩ := rounds_from ((l.take n).map rndQ) Rnd.nil (fun q hq => by obtain ⟨g, _, rfl⟩ := List.mem_map.1 hq; exact rndQ_kind g) (by omega) (f' := rndF l n) (by rw [List.map_map]; exact h3)
 rw [e, Nat.zero_add] at h1
 rw [e] at h2
 have h2 : (runR (rndS l n)).replies = repsN 0 n := h2
 refine ⟨h1.synced, by rw [h2, repsN_len], ?_, fun i hi => ?_⟩
 have : (runR (rndS l n)).synced = n := h1.synced
 rw [this]; exact h1.forest
 have := repsN_at n 0 i hi
 rw [h2]
 simpa using this
theorem rndS_succ {l : List Ge} {i : Nat} {g : Ge} (hg : l[i]? = some g) : (rndS l i).map Rc.ac ++ [Ac.ask 0 (encQ 1 rq0), Ac.ask 0 (encQ (rndQ g).1 (rndQ g).2), Ac.ask 0 (encQ 6 rq0), Ac.sync] = (rndS l (i + 1)).map Rc.ac := by
 obtain ⟨hl, rfl⟩ := List.getElem?_eq_some_iff.1 hg
 unfold rndS
 rw [List.take_succ_eq_append_getElem hl, List.map_append, roundsR_succ]
 rfl
section
variable {P : Program} {w0 w w' : World} {F0 F : Fz} {L : List Blk} {M : List RowP} {α : Type} {k E : Nat} {R : Fz → List Value → α → Prop} {hR : ∀ F F' x p, Le F F' → R F x p → R F' x p} {v : Value} {l : List α}
end
theorem allR_mono {α : Type} {F F' : Fz} {R : Fz → List Value → α → Prop} (hR : ∀ F F' x p, Le F F' → R F x p → R F' x p) (hl : Le F F') : ∀ {el : List (List Value)} {l : List α}, AllR (R F) el l → AllR (R F') el l
  | [], [], _ => trivial
  | _ :: _, _ :: _, h => ⟨hR _ _ _ _ hl h.1, allR_mono hR hl h.2⟩
theorem does_litN {P : Program} {o : Oper} {a : Act} {W w : World} {F F1 : Fz} {α : Type} {k : Nat} {R : Fz → List Value → α → Prop} (hR : ∀ F F' x p, Le F F' → R F x p → R F' x p) {el : List (List Value)} {l : List α} {E : TypeId} (g : Gr W F w F1) (hp : AllR (R F1) el l) (hk : ∀ x ∈ el, x.length = k) (hl : l.length ≤ maxLen)
    (hr : (execOp a.eval o).run P w = .ok (.value (.slice (some ⟨w.heap.size, 0, none⟩) l.length l.length)) (w.alloc (.cells el.flatten.toArray E))) : Does P o a w (RelPost (Made W F fun F' u => Sl k R F' u l) w) := by
 unfold Does
 rw [hr]
 have g2 := g.new (.cells el.flatten.toArray E)
 have g3 := g2.add (g := w.heap.size) g.below.size
 have hle : Le F1 (addF F1 (w.alloc (.cells el.flatten.toArray E)) w.heap.size) := fun b o hb => addF_le _ _ _ _ _ hb
 refine ⟨⟨_, g3, sl_of_block (R := R) (l := l) (c := el.flatten) (el := el) (fun j v hj => ?_) rfl (allR_mono hR hle hp) hk hl⟩, (Below.refl _ _).alloc (Nat.le_refl _) _⟩
 unfold cellF addF
 rw [g.sat.out (Nat.le_refl _)]
 simp only [if_true, heap_alloc_new]
 simpa using hj
theorem Picked_spec (n m : Int) (w : World) (h1 : -9223372036854775808 ≤ n) (h2 : n ≤ 9223372036854775807) (hm : 1 ≤ m) (hm2 : m ≤ 10000000) :
    Calls Tryz.prog 20 #[.int .i64 n, .int .i64 m] w (Tells w (.int .i64 (pick n m))) := by
 have S := St.start (Sat.whole w)
 go_enter Tryz.func20, Tryz.ntmps20
 refine sk fun K1 hK1 => ?_
 refine dy ?_
 refine wn hK1 ?_
 refine sk fun K2 hK2 => ?_
 iterate 2 refine dx ?_
 simp only [pq]
 refine stTells (v := (.int .i64 (pick n m))) S rfl (fn2 (ent_30 _ _)) (tells_same (picked_spec n m _ h1 h2 hm hm2)) (fun w3 S4 => ?_)
 refine dy ?_
 refine wn hK2 ?_
 refine wp_ret ?_
 try simp only [xt]
 refine bR (res_t rfl (gD rfl)) ?_
 exact ⟨rfl, S4.gr.below⟩
theorem PickedN_spec (n : Int) (m : Nat) (w : World) (h1 : -9223372036854775808 ≤ n) (h2 : n ≤ 9223372036854775807) (hm : 1 ≤ m) (hm2 : m ≤ 10000000) :
    Calls Tryz.prog 20 #[.int .i64 n, .int .i64 ((m : Nat) : Int)] w (Tells w (.int .i64 ((pickN n m : Nat) : Int))) := by
 rw [← pickN_eq n hm]
 exact Picked_spec n m w h1 h2 (by omega) (by omega)
theorem ReqR.mono {F F' : Fz} {v : Value} {p : Nat × Rq} (h : ReqR F v p) (hl : Le F F') : ReqR F' v p := by
 obtain ⟨a, c, a1, c1, a2, c2, a3, c3, e, r, r1, r2, r3⟩ := h
 exact ⟨a, c, a1, c1, a2, c2, a3, c3, e, r.mono hl, r1.mono hl, r2.mono hl, r3.mono hl⟩
theorem ReqR.dropF {w : World} {F : Fz} {n : Nat} {cs : List Value} {T : TypeId} (hs : Sat w F) (hb : w.heap[n]? = some (.cells cs.toArray T (0, 0))) (hc : ∀ u ∈ cs, ∀ x, u ≠ bv x) {v : Value} {p : Nat × Rq} (h : ReqR F v p) : ReqR (Proofs.YtilgpdpooildcaaGreatDoor.dropF F n) v p := by
 obtain ⟨a, c, a1, c1, a2, c2, a3, c3, e, r, r1, r2, r3⟩ := h
 exact ⟨a, c, a1, c1, a2, c2, a3, c3, e, Bs.dropF hs hb hc r, Bs.dropF hs hb hc r1, Bs.dropF hs hb hc r2, Bs.dropF hs hb hc r3⟩
theorem request_spec (F : Fz) (w : World) (g : Ge) (hs : Sat w F) (hg : GeOk g) :
    Calls Tryz.prog 19 #[.agg #[.int .i64 g.kind, .int .i64 g.session, .int .i64 g.name, .int .i64 g.key, .int .i64 g.value]] w (Gives w F fun F' u => ReqR F' u (reqG g)) := by
 have S := St.start hs
 go_enter Tryz.func19, Tryz.ntmps19
 refine wp_seq_k (fun K1 hK1 => ?_)
 obtain ⟨⟨b0, b0'⟩, ⟨b1, b1'⟩, ⟨b2, b2'⟩, ⟨b3, b3'⟩, b4, b4'⟩ := hg
 refine region_wl ?_
 refine stNew S (v := fun n => .pointer (aA n 0)) rfl (ex_box (v := (.agg #[(.int .i64 g.kind), (.int .i64 g.session), (.int .i64 g.name), (.int .i64 g.key), (.int .i64 g.value)])) rfl) (fun n2 w3 S4 => ?_)
 refine sA S4 (zero_27 _) fun n5 w6 S7 => ?_
 refine wl_nil (hK1 _ _ ?_)
 refine wp_seq_k (fun K8 hK8 => ?_)
 have hp2 := pickN_lt g.name (m := 3) (by decide)
 have hp3 := pickN_lt g.key (m := 5) (by decide)
 obtain ⟨S9, le10, hc11⟩ := St.freezeBlk S7 (i := 1) rfl
 generalize addF F w6 n2 = F12 at *
 refine region_gw F12 14 [(2, .is (nI (pickN g.name 3))), (5, .made (fun F' u => Bs F' u [(u8of (((97 + (pickN g.name 3)) : Nat) : Int))])), (8, .is (nI (pickN g.key 5))), (11, .made (fun F' u => Bs F' u [(u8of (((107 + (pickN g.key 5)) : Nat) : Int))])), (12, .made (fun F' u => ReqR F' u ((0, (⟨[(u8of (((97 + (pickN g.name 3)) : Nat) : Int))], [(u8of (((107 + (pickN g.key 5)) : Nat) : Int))], [], []⟩ : Rq)) : Nat × Rq))), (13, .rel (NewAt w6 [(iI 0), Zn, Zn, Zn, Zn] 27) (NewAt.stable _ _ _))] (by kernel_rfl) (by kernel_rfl) ?_
 simp only [List.take_succ_cons, List.take_zero]
 refine gf (fa_31_2 _ _) ?_
 refine gv _ (fun _ C13 => ex_load rfl (load1 (nagg_3 _) (St.fz (St.tells S9 C13) (hc11 2 _ rfl)))) ?_
 simp only [pq]
 refine gw_const rfl rfl (v := (nI (pickN g.name 3))) (fun w13 C13 _ => does_call (ex_fn (vs := #[(.int .i64 g.name), (iI 3)]) (map2 rfl rfl) rfl (ent_20 _ _)) (call_tells (PickedN_spec g.name 3 _ (by omega) (by omega) (by decide) (by decide)))) ?_
 refine gv (nI (97 + (pickN g.name 3))) (fun _ _ => ex_add (m := (97 : Int)) (n := (((pickN g.name 3) : Nat) : Int)) (r := (((97 + (pickN g.name 3)) : Nat) : Int)) rfl rfl (by omega) (by omega) (by omega)) ?_
 refine gv (.int .u8 (((u8of (((97 + (pickN g.name 3)) : Nat) : Int)).toNat : Nat) : Int)) (fun _ _ => ex_convert (v := (nI (97 + (pickN g.name 3)))) rfl (conv_u8 (((97 + (pickN g.name 3)) : Nat) : Int) _)) ?_
 simp only [pq]
 refine gw_rel rfl rfl (fun w13 C13 _ => does_byte (b := (u8of (((97 + (pickN g.name 3)) : Nat) : Int))) (Gr.of_below S9.sat C13) (ex_lit (ps := #[(0, (.int .u8 (((u8of (((97 + (pickN g.name 3)) : Nat) : Int)).toNat : Nat) : Int)))]) (cells := #[(.int .u8 (((u8of (((97 + (pickN g.name 3)) : Nat) : Int)).toNat : Nat) : Int))]) (E := 5) (bmap1 rfl) (fun w => by kernel_rfl))) (fun v15 => ?_)
 refine gf (fa_31_3 _ _) ?_
 refine gv _ (fun _ C13 => ex_load rfl (load1 (nagg_3 _) (St.fz (St.tells S9 C13) (hc11 3 _ rfl)))) ?_
 simp only [pq]
 refine gw_const rfl rfl (v := (nI (pickN g.key 5))) (fun w13 C13 _ => does_call (ex_fn (vs := #[(.int .i64 g.key), (iI 5)]) (map2 rfl rfl) rfl (ent_20 _ _)) (call_tells (PickedN_spec g.key 5 _ (by omega) (by omega) (by decide) (by decide)))) ?_
 refine gv (nI (107 + (pickN g.key 5))) (fun _ _ => ex_add (m := (107 : Int)) (n := (((pickN g.key 5) : Nat) : Int)) (r := (((107 + (pickN g.key 5)) : Nat) : Int)) rfl rfl (by omega) (by omega) (by omega)) ?_
 refine gv (.int .u8 (((u8of (((107 + (pickN g.key 5)) : Nat) : Int)).toNat : Nat) : Int)) (fun _ _ => ex_convert (v := (nI (107 + (pickN g.key 5)))) rfl (conv_u8 (((107 + (pickN g.key 5)) : Nat) : Int) _)) ?_
 simp only [pq]
 refine gw_rel rfl rfl (fun w13 C13 _ => does_byte (b := (u8of (((107 + (pickN g.key 5)) : Nat) : Int))) (Gr.of_below S9.sat C13) (ex_lit (ps := #[(0, (.int .u8 (((u8of (((107 + (pickN g.key 5)) : Nat) : Int)).toNat : Nat) : Int)))]) (cells := #[(.int .u8 (((u8of (((107 + (pickN g.key 5)) : Nat) : Int)).toNat : Nat) : Int))]) (E := 5) (bmap1 rfl) (fun w => by kernel_rfl))) (fun v17 => ?_)
 simp only [pq]
 refine gw_rel rfl rfl (fun w13 C13 hF_ => ?_) (fun v18 => ?_)
 ·obtain ⟨F19, g20, R21⟩ := hF_.get 5 (by kernel_rfl) rfl rfl
  obtain ⟨F24, g25, R26⟩ := hF_.get 11 (by kernel_rfl) rfl rfl
  have hR1 := (R21.mono (both_left F19 F24))
  obtain ⟨xa29, xc30, rfl, _⟩ := hR1.shape
  have hR2 := (R26.mono (both_right g20.sat g25.sat))
  obtain ⟨xa31, xc32, rfl, _⟩ := hR2.shape
  have hR3 := Bs.nil (both F19 F24)
  have hR4 := Bs.nil (both F19 F24)
  exact does_val (ex_build (bmap2 rfl rfl) (by kernel_rfl)) ⟨(both F19 F24), (g20.both g25), ⟨_, _, _, _, _, _, _, _, rfl, hR1, hR2, hR3, hR4⟩⟩ (Below.refl _ _)
 simp only [pq]
 refine gw_rel rfl rfl (fun w13 C13 _ => does_alloc (cs := [(iI 0), Zn, Zn, Zn, Zn]) (zero_27 _) rfl C13) (fun v33 => ?_)
 refine gw_nil ?_
 intro w34 hC36 hF37
 obtain ⟨n38, rfl, hn39, hb40⟩ := hF37.getR 13 rfl rfl
 have hnbn38 : ∀ u ∈ [(.int .i64 0), (.slice none 0 0), (.slice none 0 0), (.slice none 0 0), (.slice none 0 0)], ∀ x, u ≠ bv x := by intro u hu x; simp only [List.mem_cons, List.not_mem_nil, or_false] at hu; rcases hu with rfl | rfl | rfl | rfl | rfl <;> (unfold bv; simp)
 obtain ⟨F41, g42, R43⟩ := hF37.get 12 rfl rfl
 have g44 := g42.dropF S9.sat hn39
 have R45 := ReqR.dropF g42.sat hb40 hnbn38 R43
 have S35 := St.addBlk (cs := [(.int .i64 0), (.slice none 0 0), (.slice none 0 0), (.slice none 0 0), (.slice none 0 0)]) S9 g44 hn39 (dropF_at _ _) hb40
 have le47 : Le _ _ := g44.le S9.sat
 have R48 := R45
 generalize (dropF F41 n38) = F46 at *
 obtain ⟨xa49, xc50, xa51, xc52, xa53, xc54, xa55, xc56, rfl, r57, r58, r59, r60⟩ := R48
 clear hF37
 simp only [List.drop_succ_cons, List.drop_zero]
 refine sW 0 S35 (size_27) fun w61 S62 => ?_
 simp only [pq]
 refine wl_nil (hK8 _ _ ?_)
 refine wp_seq_k (fun K63 hK63 => ?_)
 refine sk fun K64 hK64 => ?_
 refine df (fa_31_0 _ _) ?_
 refine dr _ (ex_load rfl (load1 (nagg_3 _) (St.fz S62 (Le.cell le47 (hc11 0 _ rfl))))) ?_
 simp only [pq]
 have hp65 := pickN_lt g.kind (m := 20) (by decide)
 refine stTells (v := (nI (pickN g.kind 20))) S62 rfl (fn2 (ent_20 _ _)) (PickedN_spec g.kind 20 _ (by omega) (by omega) (by decide) (by decide)) (fun w66 S67 => ?_)
 refine dy ?_
 refine wn hK64 ?_
 refine wp_block ?_
 refine sk fun K68 hK68 => ?_
 refine dx ?_
 simp only [pq]
 by_cases hc24 : (pickN g.kind 20) < 4
 ·refine lssT ?_
  refine dy ?_
  refine wn hK68 ?_
  refine wp_cond_true rfl ?_
  refine sk fun K69 hK69 => ?_
  refine dr (.agg #[(iI 1), Zn, Zn, Zn, Zn]) (ex_build (bmap1 rfl) (by kernel_rfl)) ?_
  simp only [pq]
  refine sW 1 S67 (size_27) fun w70 S71 => ?_
  refine wn hK69 ?_
  refine wp_ret ?_
  (try simp only [Exit.then, Exit.inBlock, ↓reduceIte, Nat.reduceEqDiff])
  refine bR (res_c rfl ⟨_, rfl, lR S71 1 Tryz.underlying27 (size_27)⟩) ?_
  ·have e : reqG g = (1, rq0) := by
    unfold reqG reqK
    rw [if_pos (by omega)]
   refine ⟨_, _, rfl, S71.gr, ?_⟩
   rw [e]
   exact ⟨_, _, _, _, _, _, _, _, rfl, Bs.nil _, Bs.nil _, Bs.nil _, Bs.nil _⟩
 ·refine lssF ?_
  refine dy ?_
  simp only [pq]
  refine wn hK68 ?_
  refine wp_cond_false rfl ?_
  refine sk fun K72 hK72 => ?_
  refine dx ?_
  simp only [pq]
  by_cases hc28 : (pickN g.kind 20) < 7
  ·refine lssT ?_
   refine dy ?_
   refine wn hK72 ?_
   refine wp_cond_true rfl ?_
   refine region_wl ?_
   refine df (fa_27_0 _ _) ?_
   simp only [pq]
   refine sW 0 S67 (size_3) fun w73 S74 => ?_
   refine wl_nil (hK63 _ _ ?_)
   refine sk fun K75 hK75 => ?_
   refine dR S74 0 Tryz.underlying27 (size_27) ?_
   refine sW 1 S74 (size_27) fun w76 S77 => ?_
   simp only [pq]
   refine wn hK75 ?_
   refine wp_ret ?_
   (try simp only [Exit.then, Exit.inBlock, ↓reduceIte, Nat.reduceEqDiff])
   refine bR (res_c rfl ⟨_, rfl, lR S77 1 Tryz.underlying27 (size_27)⟩) ?_
   ·have e : reqG g = (2, ⟨gName g, gKey g.key, [], []⟩) := by
     unfold reqG reqK
     rw [if_neg (by omega), if_pos (by omega)]
    refine ⟨_, _, rfl, S77.gr, ?_⟩
    rw [e]
    exact ⟨_, _, _, _, _, _, _, _, rfl, r57, r58, r59, r60⟩
  ·refine lssF ?_
   refine dy ?_
   refine wn hK72 ?_
   refine wp_cond_false rfl ?_
   refine sk fun K78 hK78 => ?_
   refine dx ?_
   simp only [pq]
   by_cases hc32 : (pickN g.kind 20) = 7
   ·refine eqlT ?_
    refine dy ?_
    refine wn hK78 ?_
    refine wp_cond_true rfl ?_
    refine sk fun K79 hK79 => ?_
    refine df (fa_27_0 _ _) ?_
    simp only [pq]
    refine sW 0 S67 (size_3) fun w80 S81 => ?_
    refine wn hK79 ?_
    refine region_wl ?_
    refine df (fa_31_4 _ _) ?_
    refine dr _ (ex_load rfl (load1 (nagg_3 _) (St.fz S81 (Le.cell le47 (hc11 4 _ rfl))))) ?_
    simp only [pq]
    have hp82 := pickN_lt g.value (m := 5) (by decide)
    refine stTells (v := (nI (pickN g.value 5))) S81 rfl (fn2 (ent_20 _ _)) (PickedN_spec g.value 5 _ (by omega) (by omega) (by decide) (by decide)) (fun w83 S84 => ?_)
    refine dAdd (107 + (pickN g.value 5)) ?_
    refine dr (.int .u8 (((u8of (((107 + (pickN g.value 5)) : Nat) : Int)).toNat : Nat) : Int)) (ex_convert (v := (nI (107 + (pickN g.value 5)))) rfl (conv_u8 (((107 + (pickN g.value 5)) : Nat) : Int) _)) ?_
    refine stNew S84 (v := fun n => .slice (aA n 0) 1 1) rfl (ex_lit (ps := #[(0, (.int .u8 (((u8of (((107 + (pickN g.value 5)) : Nat) : Int)).toNat : Nat) : Int)))]) (cells := #[(.int .u8 (((u8of (((107 + (pickN g.value 5)) : Nat) : Int)).toNat : Nat) : Int))]) (E := 5) (bmap1 rfl) (fun w => by kernel_rfl)) (fun n85 w86 S87 => ?_)
    simp only [pq]
    refine df (fa_27_3 _ _) ?_
    refine sW 1 S87 (size_25) fun w88 S89 => ?_
    refine wl_nil (hK63 _ _ ?_)
    refine sk fun K90 hK90 => ?_
    refine dR S89 1 Tryz.underlying27 (size_27) ?_
    simp only [pq]
    refine sW 2 S89 (size_27) fun w91 S92 => ?_
    refine wn hK90 ?_
    refine wp_ret ?_
    (try simp only [Exit.then, Exit.inBlock, ↓reduceIte, Nat.reduceEqDiff])
    refine bR (res_c rfl ⟨_, rfl, lR S92 2 Tryz.underlying27 (size_27)⟩) ?_
    ·obtain ⟨S93, le94, hc95⟩ := St.freezeBlk S92 (i := 0) rfl
     have r97 : Bs _ (.slice (some ⟨n85, 0, none⟩) 1 1) ([u8of (((107 + (pickN g.value 5)) : Nat) : Int)] : By) := bs_of_block (l := ([u8of (((107 + (pickN g.value 5)) : Nat) : Int)] : By)) hc95 (rfl) (by unfold maxLen; simp)
     generalize addF F46 w91 n85 = F96 at *
     have e : reqG g = (3, ⟨gName g, gKey g.key, gKey g.value, []⟩) := by
      unfold reqG reqK
      rw [if_neg (by omega), if_neg (by omega), if_pos (by omega)]
     refine ⟨_, _, rfl, S93.gr, ?_⟩
     rw [e]
     exact ⟨_, _, _, _, _, _, _, _, rfl, (r57.mono le94), (r58.mono le94), r97, (r60.mono le94)⟩
   ·refine eqlF ?_
    refine dy ?_
    simp only [pq]
    refine wn hK78 ?_
    refine wp_cond_false rfl ?_
    refine sk fun K98 hK98 => ?_
    refine dx ?_
    simp only [pq]
    by_cases hc43 : (pickN g.kind 20) < 12
    ·refine lssT ?_
     refine dy ?_
     refine wn hK98 ?_
     refine wp_cond_true rfl ?_
     refine sk fun K99 hK99 => ?_
     refine df (fa_27_0 _ _) ?_
     simp only [pq]
     refine sW 0 S67 (size_3) fun w100 S101 => ?_
     refine wn hK99 ?_
     refine region_wl ?_
     refine df (fa_31_4 _ _) ?_
     refine dr _ (ex_load rfl (load1 (nagg_3 _) (St.fz S101 (Le.cell le47 (hc11 4 _ rfl))))) ?_
     simp only [pq]
     have hp102 := pickN_lt g.value (m := 50) (by decide)
     refine stTells (v := (nI (pickN g.value 50))) S101 rfl (fn2 (ent_20 _ _)) (PickedN_spec g.value 50 _ (by omega) (by omega) (by decide) (by decide)) (fun w103 S104 => ?_)
     refine dr (.int .u8 (((u8of (((pickN g.value 50) : Nat) : Int)).toNat : Nat) : Int)) (ex_convert (v := (nI (pickN g.value 50))) rfl (conv_u8 (((pickN g.value 50) : Nat) : Int) _)) ?_
     refine stNew S104 (v := fun n => .slice (aA n 0) 1 1) rfl (ex_lit (ps := #[(0, (.int .u8 (((u8of (((pickN g.value 50) : Nat) : Int)).toNat : Nat) : Int)))]) (cells := #[(.int .u8 (((u8of (((pickN g.value 50) : Nat) : Int)).toNat : Nat) : Int))]) (E := 5) (bmap1 rfl) (fun w => by kernel_rfl)) (fun n105 w106 S107 => ?_)
     simp only [pq]
     refine df (fa_27_4 _ _) ?_
     refine sW 1 S107 (size_25) fun w108 S109 => ?_
     refine wl_nil (hK63 _ _ ?_)
     refine sk fun K110 hK110 => ?_
     refine dR S109 1 Tryz.underlying27 (size_27) ?_
     simp only [pq]
     refine sW 2 S109 (size_27) fun w111 S112 => ?_
     refine wn hK110 ?_
     refine wp_ret ?_
     (try simp only [Exit.then, Exit.inBlock, ↓reduceIte, Nat.reduceEqDiff])
     refine bR (res_c rfl ⟨_, rfl, lR S112 2 Tryz.underlying27 (size_27)⟩) ?_
     ·obtain ⟨S113, le114, hc115⟩ := St.freezeBlk S112 (i := 0) rfl
      have r117 : Bs _ (.slice (some ⟨n105, 0, none⟩) 1 1) ([u8of (((pickN g.value 50) : Nat) : Int)] : By) := bs_of_block (l := ([u8of (((pickN g.value 50) : Nat) : Int)] : By)) hc115 (rfl) (by unfold maxLen; simp)
      generalize addF F46 w111 n105 = F116 at *
      have e : reqG g = (4, ⟨gName g, gKey g.key, [], [u8of ((pickN g.value 50 : Nat) : Int)]⟩) := by
       unfold reqG reqK
       rw [if_neg (by omega), if_neg (by omega), if_neg (by omega), if_pos (by omega)]
      refine ⟨_, _, rfl, S113.gr, ?_⟩
      rw [e]
      exact ⟨_, _, _, _, _, _, _, _, rfl, (r57.mono le114), (r58.mono le114), (r59.mono le114), r117⟩
    ·refine lssF ?_
     refine dy ?_
     simp only [pq]
     refine wn hK98 ?_
     refine wp_cond_false rfl ?_
     refine sk fun K118 hK118 => ?_
     refine dx ?_
     simp only [pq]
     by_cases hc53 : (pickN g.kind 20) = 12
     ·refine eqlT ?_
      refine dy ?_
      refine wn hK118 ?_
      refine wp_cond_true rfl ?_
      refine region_wl ?_
      refine df (fa_27_0 _ _) ?_
      simp only [pq]
      refine sW 0 S67 (size_3) fun w119 S120 => ?_
      refine wl_nil (hK63 _ _ ?_)
      refine sk fun K121 hK121 => ?_
      refine dR S120 0 Tryz.underlying27 (size_27) ?_
      refine sW 1 S120 (size_27) fun w122 S123 => ?_
      simp only [pq]
      refine wn hK121 ?_
      refine wp_ret ?_
      (try simp only [Exit.then, Exit.inBlock, ↓reduceIte, Nat.reduceEqDiff])
      refine bR (res_c rfl ⟨_, rfl, lR S123 1 Tryz.underlying27 (size_27)⟩) ?_
      ·have e : reqG g = (5, ⟨gName g, gKey g.key, [], []⟩) := by
        unfold reqG reqK
        rw [if_neg (by omega), if_neg (by omega), if_neg (by omega), if_neg (by omega), if_pos (by omega)]
       refine ⟨_, _, rfl, S123.gr, ?_⟩
       rw [e]
       exact ⟨_, _, _, _, _, _, _, _, rfl, r57, r58, r59, r60⟩
     ·refine eqlF ?_
      refine dy ?_
      refine wn hK118 ?_
      refine wp_cond_false rfl ?_
      refine sk fun K124 hK124 => ?_
      refine dx ?_
      simp only [pq]
      by_cases hc57 : (pickN g.kind 20) < 17
      ·refine lssT ?_
       refine dy ?_
       refine wn hK124 ?_
       refine wp_cond_true rfl ?_
       refine sk fun K125 hK125 => ?_
       refine dr (.agg #[(iI 6), Zn, Zn, Zn, Zn]) (ex_build (bmap1 rfl) (by kernel_rfl)) ?_
       simp only [pq]
       refine sW 1 S67 (size_27) fun w126 S127 => ?_
       refine wn hK125 ?_
       refine wp_ret ?_
       (try simp only [Exit.then, Exit.inBlock, ↓reduceIte, Nat.reduceEqDiff])
       refine bR (res_c rfl ⟨_, rfl, lR S127 1 Tryz.underlying27 (size_27)⟩) ?_
       ·have e : reqG g = (6, rq0) := by
         unfold reqG reqK
         rw [if_neg (by omega), if_neg (by omega), if_neg (by omega), if_neg (by omega), if_neg (by omega), if_pos (by omega)]
        refine ⟨_, _, rfl, S127.gr, ?_⟩
        rw [e]
        exact ⟨_, _, _, _, _, _, _, _, rfl, Bs.nil _, Bs.nil _, Bs.nil _, Bs.nil _⟩
      ·refine lssF ?_
       refine dy ?_
       simp only [pq]
       refine wn hK124 ?_
       refine wp_cond_false rfl ?_
       refine sk fun K128 hK128 => ?_
       refine dx ?_
       simp only [pq]
       by_cases hc61 : (pickN g.kind 20) = 17
       ·refine eqlT ?_
        refine dy ?_
        refine wn hK128 ?_
        refine wp_cond_true rfl ?_
        refine sk fun K129 hK129 => ?_
        refine dr (.agg #[(iI 7), Zn, Zn, Zn, Zn]) (ex_build (bmap1 rfl) (by kernel_rfl)) ?_
        simp only [pq]
        refine sW 1 S67 (size_27) fun w130 S131 => ?_
        refine wn hK129 ?_
        refine wp_ret ?_
        (try simp only [Exit.then, Exit.inBlock, ↓reduceIte, Nat.reduceEqDiff])
        refine bR (res_c rfl ⟨_, rfl, lR S131 1 Tryz.underlying27 (size_27)⟩) ?_
        ·have e : reqG g = (7, rq0) := by
          unfold reqG reqK
          rw [if_neg (by omega), if_neg (by omega), if_neg (by omega), if_neg (by omega), if_neg (by omega), if_neg (by omega), if_pos (by omega)]
         refine ⟨_, _, rfl, S131.gr, ?_⟩
         rw [e]
         exact ⟨_, _, _, _, _, _, _, _, rfl, Bs.nil _, Bs.nil _, Bs.nil _, Bs.nil _⟩
       ·refine eqlF ?_
        refine dy ?_
        simp only [pq]
        refine wn hK128 ?_
        refine wp_cond_false rfl ?_
        refine region_wl ?_
        refine df (fa_27_0 _ _) ?_
        refine sW 0 S67 (size_3) fun w132 S133 => ?_
        refine wl_nil (hK63 _ _ ?_)
        refine sk fun K134 hK134 => ?_
        refine dR S133 0 Tryz.underlying27 (size_27) ?_
        simp only [pq]
        refine sW 1 S133 (size_27) fun w135 S136 => ?_
        refine wn hK134 ?_
        refine wp_ret ?_
        (try simp only [Exit.then, Exit.inBlock, ↓reduceIte, Nat.reduceEqDiff])
        refine bR (res_c rfl ⟨_, rfl, lR S136 1 Tryz.underlying27 (size_27)⟩) ?_
        ·have e : reqG g = (8, ⟨gName g, gKey g.key, [], []⟩) := by
          unfold reqG reqK
          rw [if_neg (by omega), if_neg (by omega), if_neg (by omega), if_neg (by omega), if_neg (by omega), if_neg (by omega), if_neg (by omega)]
         refine ⟨_, _, rfl, S136.gr, ?_⟩
         rw [e]
         exact ⟨_, _, _, _, _, _, _, _, rfl, r57, r58, r59, r60⟩
theorem SameForest_spec (F : Fz) (w : World) (v u : Value) (l m : Forest) (hs : Sat w F) (hv : Tns F v l) (hu : Tns F u m) (hl : l.length ≤ 1000000) (hL : ∀ t ∈ l, t.2.length ≤ 1000000) :
    Calls Tryz.prog 24 #[v, u] w (Tells w (.bool (decide (l = m)))) := by
 obtain ⟨a, c, rfl, _⟩ := Sl.shape hv
 obtain ⟨a', c', rfl, _⟩ := Sl.shape hu
 have S := St.start hs
 go_enter Tryz.func24, Tryz.ntmps24
 refine sk fun K1 hK1 => ?_
 refine dy ?_
 refine wn hK1 ?_
 refine sk fun K2 hK2 => ?_
 iterate 2 refine dx ?_
 simp only [pq]
 refine stTells (v := (.bool (decide (l = m)))) S rfl (fn2 (ent_36 _ _)) (sameForest_spec _ _ _ _ l m (S).sat hv hu hl hL) (fun w3 S4 => ?_)
 refine dy ?_
 refine wn hK2 ?_
 refine wp_ret ?_
 try simp only [xt]
 refine bR (res_t rfl (gD rfl)) ?_
 exact ⟨rfl, S4.gr.below⟩
end Go.Proofs.YtilgpdpooildcaaGreatDoor
