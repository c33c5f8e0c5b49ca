/- Rules, plain laws and walks: SV10 SV11 P17 SV12 TW P18 SV13 P19 P20 S11 SV14 -/
import Derived.Test.YtilgpdpooildcaaGreatDoorBT11
import Derived.Test.YtilgpdpooildcaaGreatDoorBT2
import Derived.Test.YtilgpdpooildcaaGreatDoorBT7
import Derived.Test.YtilgpdpooildcaaGreatDoorBT9
import Derived.Test.YtilgpdpooildcaaGreatDoorBT8
import Derived.Test.YtilgpdpooildcaaGreatDoorBT5
import Derived.Test.YtilgpdpooildcaaGreatDoorBT3
namespace Go.Proofs.YtilgpdpooildcaaGreatDoor
set_option maxHeartbeats 8000000
open Go.RowKit
set_option maxRecDepth 100000
set_option linter.unusedVariables false
set_option linter.unusedSimpArgs false
def AcC (F : Fz) (cs : List Value) (a : Ac) : Prop := ∃ x, cs = [.int .i64 ((a.kind : Nat) : Int), .int .i64 ((a.sess : Nat) : Int), .int .i64 ((a.keep : Nat) : Int), x] ∧ Bs F x a.data
theorem AcC.mono (F F' : Fz) (x : List Value) (p : Ac) (hl : Le F F') (h : AcC F x p) : AcC F' x p := by
 obtain ⟨v, e, h⟩ := h; exact ⟨v, e, h.mono hl⟩
theorem AcC.oneCell {F : Fz} {cs : List Value} {p : Ac} (h : AcC F cs p) : ∀ u ∈ cs, u.oneCell' = true := by
 obtain ⟨v, rfl, h⟩ := h
 intro u hu
 simp only [List.mem_cons, List.not_mem_nil, or_false] at hu
 rcases hu with rfl | rfl | rfl | rfl
 ·rfl
 ·rfl
 ·rfl
 ·exact h.oneCell
abbrev Acs (F : Fz) (v : Value) (l : List Ac) : Prop := Sl 4 AcC F v l
theorem Acs.mono {F F' : Fz} {v : Value} {l : List Ac} (h : Acs F v l) (hl : Le F F') : Acs F' v l := Sl.mono AcC.mono h hl
theorem made_nil : (madeCells (Value.slice none 0 0).cells (1 * 1)).toList = [Value.slice none 0 0] := by
 rw [show (Value.slice none 0 0).cells = #[.slice none 0 0] from rfl, toList_madeCells_one]; rfl
theorem Acs.get {F : Fz} {a : Option Addr} {n c : Nat} {l : List Ac} (h : Acs F (.slice a n c) l) {i : Nat} {p : Ac} (hp : l[i]? = some p) :
    ∃ b o, a = some ⟨b, o, none⟩ ∧ ∃ x y, cellF F b (o + i * 4) = some (.int .i64 ((p.kind : Nat) : Int)) ∧ cellF F b (o + i * 4 + 1) = some (.int .i64 ((p.sess : Nat) : Int)) ∧ cellF F b (o + i * 4 + 2) = some (.int .i64 ((p.keep : Nat) : Int)) ∧ cellF F b (o + i * 4 + 3) = some (.slice x p.data.length y) ∧ Bs F (.slice x p.data.length y) p.data := by
 obtain ⟨hi, rfl⟩ := List.getElem?_eq_some_iff.1 hp
 have hn := Sl.len h
 obtain ⟨b, o, e, h1⟩ := Sl.at h (by omega) (by omega)
 obtain ⟨cs, q1, ⟨a0, rfl, h0⟩, q3⟩ := h1 i hi
 obtain ⟨x, y, rfl, _⟩ := h0.shape
 exact ⟨b, o, e, x, y, by have := q3 0 (by simp); simpa [Nat.add_assoc] using this, by have := q3 1 (by simp); simpa [Nat.add_assoc] using this, by have := q3 2 (by simp); simpa [Nat.add_assoc] using this, by have := q3 3 (by simp); simpa [Nat.add_assoc] using this, h0⟩
/-- The walk of crash, as it is asked for. -/
def CrashS : Prop := ∀ (w0 : World) (F0 : Fz) (w : World) (F : Fz) (n : Nat) (g : Eng) (L : List Blk) {m : Nat} (k : Nat), EngM w0 F0 w F n g L → Tabs w0 → EngOk m g → m ≤ 149 → k ≤ 100000 →
    Calls Tryz.prog 70 #[.pointer (some ⟨n, 0, none⟩), .int .i64 ((k : Nat) : Int)] w (EngP w0 F0 F n (g.crash k) L)
theorem doAsk_eng (w0 : World) (F0 : Fz) (w : World) (F : Fz) (n : Nat) (g : Eng) (L : List Blk) {m : Nat} (hM : EngM w0 F0 w F n g L) (hh : Has w0) (hT : Tabs w0) (hg : EngOk m g) (hm : m ≤ 149) (hq : g.replies.length + g.waiting.length ≤ 100000) (s : Nat) (hs8 : s < 8) (b : By) {u : Value} (hu : Bs F u b) (hP : wdE b = 0 → (wdR b).1 = 8 → ProveS) :
    Calls Tryz.prog 52 #[.pointer (some ⟨n, 0, none⟩), .agg #[.int .i64 1, .int .i64 ((s : Nat) : Int), .int .i64 0, u]] w (EngP w0 F0 F n (g.ask s b) L) := by
 obtain ⟨da, dc, rfl, _⟩ := hu.shape
 obtain ⟨ad, cd, ac, cc, af, cf, aw, cw, ar, cr, pv, S, hd, ht⟩ := hM
 go_enter Tryz.func52, Tryz.ntmps52
 refine sk fun K4 hK4 => ?_
 refine stNew S (v := fun n => .pointer (aA n 0)) rfl (ex_box (v := (.agg #[(iI 1), (nI s), (iI 0), (.slice da b.length dc)])) rfl) (fun n5 w6 S7 => ?_)
 refine wn hK4 ?_
 refine sk fun K8 hK8 => ?_
 refine df (fa_33_0 _ _) ?_
 refine dl (nagg_3 _) S7 0 ?_
 refine wn hK8 ?_
 refine wp_block ?_
 refine sk fun K9 hK9 => ?_
 refine dr bT (ex_eql (b := true) rfl rfl (by decide)) ?_
 refine dy ?_
 simp only [pq]
 refine wn hK9 ?_
 refine wp_cond_true rfl ?_
 refine region_wl ?_
 refine dx ?_
 refine df (fa_33_1 _ _) ?_
 refine dl (nagg_3 _) S7 0 ?_
 simp only [pq]
 refine df (fa_33_3 _ _) ?_
 refine dl (nagg_25 _) S7 0 ?_
 simp only [pq]
 have S10 := St.perm S7 (List.perm_middle (l₁ := [_]))
 have hM11 : EngM _ _ _ _ n g _ := ⟨_, _, _, _, _, _, _, _, _, _, _, S10, hd, ht⟩
 refine doC rfl (fn3 (ent_68 _ _)) (ask_eng _ _ _ _ _ _ _ s hs8 _ b hM11 hh hT hg hm hu hP (by omega)) ?_
 rintro _ w12 ⟨rfl, F13, le14, hM15⟩
 refine ⟨_, rfl, ?_⟩
 obtain ⟨ad16, cd17, ac18, cc19, af20, cf21, aw22, cw23, ar24, cr25, pv26, S27, hd28, ht29⟩ := hM15
 refine wl_nil ?_
 (try simp only [Exit.then, Exit.inBlock, ↓reduceIte, Nat.reduceEqDiff])
 refine bE (res_ rfl) ?_
 have hM30 : EngM _ _ _ _ n (g.ask s b) _ := ⟨_, _, _, _, _, _, _, _, _, _, _, S27, hd28, ht29⟩
 exact ⟨rfl, _, le14, (hM30.drop (.cons _ (List.Sublist.refl _)))⟩
theorem doSync_eng (w0 : World) (F0 : Fz) (w : World) (F : Fz) (n : Nat) (g : Eng) (L : List Blk) {m : Nat} (hM : EngM w0 F0 w F n g L) (hh : Has w0) (hT : Tabs w0) (hg : EngOk m g) (hm : m ≤ 149) (hq : g.replies.length + g.waiting.length ≤ 100000) (u : Value) :
    Calls Tryz.prog 52 #[.pointer (some ⟨n, 0, none⟩), .agg #[.int .i64 2, .int .i64 0, .int .i64 0, u]] w (EngP w0 F0 F n g.sync L) := by
 obtain ⟨ad, cd, ac, cc, af, cf, aw, cw, ar, cr, pv, S, hd, ht⟩ := hM
 go_enter Tryz.func52, Tryz.ntmps52
 refine sk fun K4 hK4 => ?_
 refine stNew S (v := fun n => .pointer (aA n 0)) rfl (ex_box (v := (.agg #[(iI 2), (iI 0), (iI 0), u])) rfl) (fun n5 w6 S7 => ?_)
 refine wn hK4 ?_
 refine sk fun K8 hK8 => ?_
 refine df (fa_33_0 _ _) ?_
 refine dl (nagg_3 _) S7 0 ?_
 refine wn hK8 ?_
 refine wp_block ?_
 refine sk fun K9 hK9 => ?_
 refine dr bF (ex_eql (b := false) rfl rfl (by decide)) ?_
 refine dy ?_
 simp only [pq]
 refine wn hK9 ?_
 refine wp_cond_false rfl ?_
 refine sk fun K10 hK10 => ?_
 refine dr bT (ex_eql (b := true) rfl rfl (by decide)) ?_
 refine dy ?_
 refine wn hK10 ?_
 refine wp_cond_true rfl ?_
 refine region_wl ?_
 refine dx ?_
 simp only [pq]
 have S11 := St.perm S7 (List.perm_middle (l₁ := [_]))
 have hM12 : EngM _ _ _ _ n g _ := ⟨_, _, _, _, _, _, _, _, _, _, _, S11, hd, ht⟩
 refine doC rfl (fn1 (ent_69 _ _)) (sync_eng _ _ _ _ _ _ _ hM12 hg hm hq) ?_
 rintro _ w13 ⟨rfl, F14, le15, hM16⟩
 refine ⟨_, rfl, ?_⟩
 obtain ⟨ad17, cd18, ac19, cc20, af21, cf22, aw23, cw24, ar25, cr26, pv27, S28, hd29, ht30⟩ := hM16
 refine wl_nil ?_
 (try simp only [Exit.then, Exit.inBlock, ↓reduceIte, Nat.reduceEqDiff])
 refine bE (res_ rfl) ?_
 have hM31 : EngM _ _ _ _ n g.sync _ := ⟨_, _, _, _, _, _, _, _, _, _, _, S28, hd29, ht30⟩
 exact ⟨rfl, _, le15, (hM31.drop (.cons _ (List.Sublist.refl _)))⟩
theorem doCrash_eng (w0 : World) (F0 : Fz) (w : World) (F : Fz) (n : Nat) (g : Eng) (L : List Blk) {m : Nat} (hM : EngM w0 F0 w F n g L) (hh : Has w0) (hT : Tabs w0) (hg : EngOk m g) (hm : m ≤ 149) (hq : g.replies.length + g.waiting.length ≤ 100000) (u : Value) (k : Nat) (hk : k ≤ 100000) (hC : CrashS) :
    Calls Tryz.prog 52 #[.pointer (some ⟨n, 0, none⟩), .agg #[.int .i64 3, .int .i64 0, .int .i64 ((k : Nat) : Int), u]] w (EngP w0 F0 F n (g.crash k) L) := by
 obtain ⟨ad, cd, ac, cc, af, cf, aw, cw, ar, cr, pv, S, hd, ht⟩ := hM
 go_enter Tryz.func52, Tryz.ntmps52
 refine sk fun K4 hK4 => ?_
 refine stNew S (v := fun n => .pointer (aA n 0)) rfl (ex_box (v := (.agg #[(iI 3), (iI 0), (nI k), u])) rfl) (fun n5 w6 S7 => ?_)
 refine wn hK4 ?_
 refine sk fun K8 hK8 => ?_
 refine df (fa_33_0 _ _) ?_
 refine dl (nagg_3 _) S7 0 ?_
 refine wn hK8 ?_
 refine wp_block ?_
 refine sk fun K9 hK9 => ?_
 refine dr bF (ex_eql (b := false) rfl rfl (by decide)) ?_
 refine dy ?_
 simp only [pq]
 refine wn hK9 ?_
 refine wp_cond_false rfl ?_
 refine sk fun K10 hK10 => ?_
 refine dr bF (ex_eql (b := false) rfl rfl (by decide)) ?_
 refine dy ?_
 refine wn hK10 ?_
 refine wp_cond_false rfl ?_
 refine sk fun K11 hK11 => ?_
 refine dr bT (ex_eql (b := true) rfl rfl (by decide)) ?_
 refine dy ?_
 simp only [pq]
 refine wn hK11 ?_
 refine wp_cond_true rfl ?_
 refine region_wl ?_
 refine dx ?_
 refine df (fa_33_2 _ _) ?_
 refine dl (nagg_3 _) S7 0 ?_
 simp only [pq]
 have S12 := St.perm S7 (List.perm_middle (l₁ := [_]))
 have hM13 : EngM _ _ _ _ n g _ := ⟨_, _, _, _, _, _, _, _, _, _, _, S12, hd, ht⟩
 refine doC rfl (fn2 (ent_70 _ _)) (hC _ _ _ _ _ _ _ k hM13 hT hg hm hk) ?_
 rintro _ w14 ⟨rfl, F15, le16, hM17⟩
 refine ⟨_, rfl, ?_⟩
 obtain ⟨ad18, cd19, ac20, cc21, af22, cf23, aw24, cw25, ar26, cr27, pv28, S29, hd30, ht31⟩ := hM17
 refine wl_nil ?_
 (try simp only [Exit.then, Exit.inBlock, ↓reduceIte, Nat.reduceEqDiff])
 refine bE (res_ rfl) ?_
 have hM32 : EngM _ _ _ _ n (g.crash k) _ := ⟨_, _, _, _, _, _, _, _, _, _, _, S29, hd30, ht31⟩
 exact ⟨rfl, _, le16, (hM32.drop (.cons _ (List.Sublist.refl _)))⟩
theorem doStart_eng (w0 : World) (F0 : Fz) (w : World) (F : Fz) (n : Nat) (g : Eng) (L : List Blk) {m : Nat} (hM : EngM w0 F0 w F n g L) (hh : Has w0) (hT : Tabs w0) (hg : EngOk m g) (hm : m ≤ 149) (hq : g.replies.length + g.waiting.length ≤ 100000) (u : Value) :
    Calls Tryz.prog 52 #[.pointer (some ⟨n, 0, none⟩), .agg #[.int .i64 4, .int .i64 0, .int .i64 0, u]] w (EngP w0 F0 F n g.start L) := by
 obtain ⟨ad, cd, ac, cc, af, cf, aw, cw, ar, cr, pv, S, hd, ht⟩ := hM
 go_enter Tryz.func52, Tryz.ntmps52
 refine sk fun K4 hK4 => ?_
 refine stNew S (v := fun n => .pointer (aA n 0)) rfl (ex_box (v := (.agg #[(iI 4), (iI 0), (iI 0), u])) rfl) (fun n5 w6 S7 => ?_)
 refine wn hK4 ?_
 refine sk fun K8 hK8 => ?_
 refine df (fa_33_0 _ _) ?_
 refine dl (nagg_3 _) S7 0 ?_
 refine wn hK8 ?_
 refine wp_block ?_
 refine sk fun K9 hK9 => ?_
 refine dr bF (ex_eql (b := false) rfl rfl (by decide)) ?_
 refine dy ?_
 simp only [pq]
 refine wn hK9 ?_
 refine wp_cond_false rfl ?_
 refine sk fun K10 hK10 => ?_
 refine dr bF (ex_eql (b := false) rfl rfl (by decide)) ?_
 refine dy ?_
 refine wn hK10 ?_
 refine wp_cond_false rfl ?_
 refine sk fun K11 hK11 => ?_
 refine dr bF (ex_eql (b := false) rfl rfl (by decide)) ?_
 refine dy ?_
 simp only [pq]
 refine wn hK11 ?_
 refine wp_cond_false rfl ?_
 refine region_wl ?_
 refine dx ?_
 refine di ?_
 refine df (fa_115_0 _ _) ?_
 simp only [pq]
 refine sW 1 S7 (size_4) fun w12 S13 => ?_
 refine wl_nil ?_
 (try simp only [Exit.then, Exit.inBlock, ↓reduceIte, Nat.reduceEqDiff])
 refine bE (res_ rfl) ?_
 have S14 := St.perm S13 (List.perm_middle (l₁ := [_]))
 have hM15 : EngM _ _ _ _ n g.start _ := ⟨_, _, _, _, _, _, _, _, _, _, _, S14, hd, ht⟩
 exact ⟨rfl, _, Le.refl _, (hM15.drop (.cons _ (List.Sublist.refl _)))⟩
theorem do_eng (w0 : World) (F0 : Fz) (w : World) (F : Fz) (n : Nat) (g : Eng) (L : List Blk) {m : Nat} (hM : EngM w0 F0 w F n g L) (hh : Has w0) (hT : Tabs w0) (hg : EngOk m g) (hm : m ≤ 149) (hq : g.replies.length + g.waiting.length ≤ 100000) {a : Ac} (ha : AcOk a) {u : Value} (hu : Bs F u a.data) (hP : isP a = true → ProveS) (hK : isK a = true → CrashS) :
    Calls Tryz.prog 52 #[.pointer (some ⟨n, 0, none⟩), .agg #[.int .i64 ((a.kind : Nat) : Int), .int .i64 ((a.sess : Nat) : Int), .int .i64 ((a.keep : Nat) : Int), u]] w (EngP w0 F0 F n (g.act a) L) := by
 cases a with
 | ask s b => exact doAsk_eng _ _ _ _ _ _ _ hM hh hT hg hm hq s ha.1 b hu (fun h1 h2 => hP (by unfold isP; simp [h1, h2]))
 | sync => exact doSync_eng _ _ _ _ _ _ _ hM hh hT hg hm hq u
 | crash k => exact doCrash_eng _ _ _ _ _ _ _ hM hh hT hg hm hq u k ha (hK rfl)
 | start => exact doStart_eng _ _ _ _ _ _ _ hM hh hT hg hm hq u
theorem eng_start {w0 w : World} {F0 F : Fz} {n k : Nat} {L : List Blk} (S : St w0 F0 w F (⟨n, engC true (.slice none 0 0) 0 (.slice none 0 0) (.slice (some ⟨k, 0, none⟩) 1 1) 0 (fun _ => .pointer none) (fun _ => false) (.slice none 0 0) (.slice none 0 0), 115⟩ :: ⟨k, [.slice none 0 0], 24⟩ :: L) []) : EngM w0 F0 w F n eng0 L := by
 have hb := (S.blk ⟨k, [.slice none 0 0], 24⟩ (by simp)).2.2
 have S1 := S.perm (List.Perm.swap _ _ _)
 have S2 := St.blkRow (k := 1) (cap := 1) (hR := FoC.mono) (base := w0.heap.size) (l := [([] : Forest)]) (el := [[.slice none 0 0]]) S1 rfl ⟨⟨_, rfl, Sl.nil _ _ _⟩, trivial⟩ (by simp) rfl (by simp) (by unfold maxLen; decide) hb
 have S3 := ((S2.addNil 2 CmC CmC.mono 168 w0.heap.size).addNil 1 NtC NtC.mono 3 w0.heap.size).addNil 15 RpC RpC.mono 54 w0.heap.size
 have S4 := S3.permR (M' := engR w0.heap.size (.slice none 0 0) [] (.slice (some ⟨k, 0, none⟩) 1 1) [[]] (.slice none 0 0) [] (.slice none 0 0) []) (by
  refine (List.perm_middle (l₁ := [_, _]) (l₂ := [_])).trans ?_
  refine List.Perm.cons _ ?_
  exact (List.perm_middle (l₁ := [_, _]) (l₂ := [])).trans (List.Perm.cons _ (List.Perm.swap _ _ _)))
 exact ⟨_, _, _, _, _, _, _, _, _, _, fun _ => .pointer none, S4, Bs.nil _, fun _ _ => rfl⟩
/-- What comes of a script. -/
def OutV (F : Fz) (u : Value) (g : Eng) : Prop := ∃ a c b d, u = .agg #[.bool g.up, .int .i64 ((g.synced : Nat) : Int), .int .i64 ((g.waiting.length : Nat) : Int), .slice a (g.forest g.synced).length c, .slice b g.replies.length d] ∧ Tns F (.slice a (g.forest g.synced).length c) (g.forest g.synced) ∧ Rps F (.slice b g.replies.length d) g.replies
def RunV (g : Eng) (F : Fz) (u : Value) : Prop := ∃ x, u = .tuple #[x, .int .i64 0] ∧ OutV F x g
theorem run_spec (F : Fz) (w : World) (v : Value) (l : List Ac) (hs : Sat w F) (hh : Has w) (hT : Tabs w) (hv : Acs F v l) (hok : ∀ a ∈ l, AcOk a) (hc : countC l ≤ 149) (hlen : l.length ≤ 100000) (hP : ∀ a ∈ l, isP a = true → ProveS) (hK : ∀ a ∈ l, isK a = true → CrashS) :
    Calls Tryz.prog 35 #[v] w (Gives w F (RunV (runE l))) := by
 obtain ⟨a, c, rfl, hc1, hc2⟩ := Sl.shape hv
 unfold maxLen at hc2
 obtain ⟨i24, hi24, hz24, hs24, hb24⟩ := info_parts info_24
 have S := St.start hs
 go_enter Tryz.func35, Tryz.ntmps35
 refine sk fun K1 hK1 => ?_
 refine sA S (zero_43 _) fun n2 w3 S4 => ?_
 refine dy ?_
 refine wn hK1 ?_
 refine wp_seq_k (fun K5 hK5 => ?_)
 refine sk fun K6 hK6 => ?_
 refine dx ?_
 refine dn Tryz.underlying23 ?_
 refine gtrF ?_
 simp only [pq]
 refine wn hK6 ?_
 refine wp_cond_false rfl ?_
 refine wp_skip ?_
 refine hK5 _ _ ?_
 refine wp_seq_k (fun K7 hK7 => ?_)
 refine sk fun K8 hK8 => ?_
 refine dx ?_
 refine dn Tryz.underlying23 ?_
 refine dx ?_
 simp only [pq]
 refine wn hK8 ?_
 refine wp_block ?_
 refine wp_loop_g (fun mm aa w11 => ∃ (i : Nat) (F9 : Fz) (u10 : Nat → Value), mm = l.length - i ∧ u10 = slots aa ∧ aa = ⟨#[(.slice a l.length c), undef, (pP n2 0), (u10 3), undef, (u10 5), (u10 6), undef, undef, undef, undef, undef, (.slice a l.length c), (nI l.length), bF, undef, (.slice a l.length c), (nI l.length), (nI i), (u10 19), (u10 20), (u10 21), (u10 22), (u10 23), (u10 24), (u10 25), (u10 26), (u10 27), (u10 28), undef, undef, undef, undef, undef, undef, undef, undef, undef, undef, undef, undef, undef, undef, undef, undef, undef, undef, undef, undef, undef, undef, undef, undef, undef, undef, undef, undef, undef, undef, undef, undef, undef, undef, undef, undef, undef, undef, undef, undef, undef, undef, undef, undef, undef, undef], []⟩ ∧ St w F w11 F9 [⟨n2, [bF, (iI 0), (iI 0), Zn, Zn], 43⟩] [] ∧ Le F F9 ∧ (i ≤ l.length)) _ ⟨0, F, _, rfl, rfl, rfl, S4, Le.refl _, (by omega)⟩ ?_
 rintro m12 a13 w14 ⟨i, F9, u10, rfl, -, rfl, S15, le16, hi⟩ K17 hK17
 refine sk fun K18 hK18 => ?_
 by_cases hc19 : i < l.length
 refine lssT ?_
 refine wn hK18 ?_
 refine wp_seq_k (fun K19 hK19 => ?_)
 refine wp_cond_true rfl ?_
 refine wp_skip ?_
 refine hK19 _ _ ?_
 refine wp_seq_k (fun K20 hK20 => ?_)
 refine wp_block ?_
 refine wp_seq_k (fun K21 hK21 => ?_)
 obtain ⟨p, hp⟩ : ∃ p, l[i]? = some p := ⟨l[i], List.getElem?_eq_getElem hc19⟩
 have hpo := hok p (List.mem_of_getElem? hp)
 obtain ⟨b22, o23, ha24, xa29, xc30, c25, c26, c27, c28, r31⟩ := Acs.get (hv.mono le16) hp
 have hpo2 : p.data.length ≤ 4000 := by cases p <;> first | exact hpo.2 | exact Nat.zero_le _
 refine region_wl ?_
 refine dr (pP b22 (o23 + i * 4)) (ex_at (i := i) (sz := 4) Tryz.underlying23 (sizeof_33 _) rfl ha24 rfl (by omega) rfl) ?_
 refine dr _ (ex_load rfl (loadM Tryz.underlying33 rfl (size_33) (range4 (St.fz S15 c25) (St.fz S15 c26) (St.fz S15 c27) (St.fz S15 c28)))) ?_
 simp only [pq]
 refine sA S15 (zero_33 _) fun n32 w33 S34 => ?_
 refine sW 0 S34 (size_33) fun w35 S36 => ?_
 refine wl_nil (hK21 _ _ ?_)
 refine sk fun K37 hK37 => ?_
 refine dR S36 0 Tryz.underlying33 (size_33) ?_
 simp only [pq]
 refine stTells (v := (iI 0)) S36 rfl (fn1 (ent_51 _ _)) (actN_ok hpo ▸ actCheck_spec _ _ _ _ _ _ _ (by have := hpo2; omega)) (fun w38 S39 => ?_)
 refine dy ?_
 refine wn hK37 ?_
 refine sk fun K40 hK40 => ?_
 refine dx ?_
 refine dr bF (ex_neq (m := (0 : Int)) (n := (0 : Int)) (b := false) rfl rfl (bne_eq_false_iff_eq.2 (by simp))) ?_
 simp only [pq]
 refine wn hK40 ?_
 refine wp_cond_false rfl ?_
 refine wp_skip ?_
 refine hK20 _ _ ?_
 refine region_wl ?_
 refine dAdd (i + 1) ?_
 refine dx ?_
 refine wl_nil ?_
 have S39 := St.drop S39 (.cons _ (List.Sublist.refl _))
 exact hK17 _ _ _ (by omega) ⟨(i + 1), F9, _, rfl, rfl, rfl, S39, le16, (by omega)⟩
 refine lssF ?_
 simp only [pq]
 refine wn hK18 ?_
 refine wp_seq_k (fun K41 hK41 => ?_)
 refine wp_cond_false rfl ?_
 refine wp_exit ?_
 refine hK7 _ _ ?_
 refine sk fun K42 hK42 => ?_
 refine stMake (k := 1) (n := 1) (m := 1) S15 rfl i24 Zn 24 Tryz.underlying106 hi24 hz24 hs24 hb24 rfl rfl (by omega) (by omega) (by omega) ?_
 intro g43 w44 S45
 rw [made_nil] at S45
 refine dr (.agg #[bT, Zn, (iI 0), Zn, (.slice (aA g43 0) 1 1), (iI 0), (.pointer none), bF, (.pointer none), bF, (.pointer none), bF, (.pointer none), bF, (.pointer none), bF, (.pointer none), bF, (.pointer none), bF, (.pointer none), bF, Zn, Zn]) (ex_build (bmap2 rfl rfl) (by kernel_rfl)) ?_
 refine stNew S45 (v := fun n => .pointer (aA n 0)) rfl (ex_box (v := (.agg #[bT, Zn, (iI 0), Zn, (.slice (aA g43 0) 1 1), (iI 0), (.pointer none), bF, (.pointer none), bF, (.pointer none), bF, (.pointer none), bF, (.pointer none), bF, (.pointer none), bF, (.pointer none), bF, (.pointer none), bF, Zn, Zn])) rfl) (fun n46 w47 S48 => ?_)
 simp only [pq]
 refine dy ?_
 refine wn hK42 ?_
 refine wp_seq_k (fun K49 hK49 => ?_)
 refine sk fun K50 hK50 => ?_
 refine dx ?_
 refine dn Tryz.underlying23 ?_
 refine dx ?_
 simp only [pq]
 refine wn hK50 ?_
 refine wp_block ?_
 have hM51 := eng_start S48
 obtain ⟨ad52, cd53, ac54, cc55, af56, cf57, aw58, cw59, ar60, cr61, pv62, S63, hd64, ht65⟩ := hM51
 have hM69 : EngM _ _ _ _ n46 (runE (l.take 0)) _ := ⟨_, _, _, _, _, _, _, _, _, _, _, S63, hd64, ht65⟩
 refine wp_loop_g (fun mm aa w68 => ∃ (j : Nat) (F66 : Fz) (u67 : Nat → Value), mm = l.length - j ∧ u67 = slots aa ∧ aa = ⟨#[(.slice a l.length c), undef, (pP n2 0), (u10 3), undef, (u10 5), (u10 6), (pP n46 0), undef, (u67 9), undef, undef, (.slice a l.length c), (nI l.length), bF, undef, (.slice a l.length c), (nI l.length), (nI i), bF, (u10 20), (u10 21), (u10 22), (u10 23), (u10 24), (u10 25), (u10 26), (u10 27), (u10 28), (.slice (aA g43 0) 1 1), (.agg #[bT, Zn, (iI 0), Zn, (.slice (aA g43 0) 1 1), (iI 0), (.pointer none), bF, (.pointer none), bF, (.pointer none), bF, (.pointer none), bF, (.pointer none), bF, (.pointer none), bF, (.pointer none), bF, (.pointer none), bF, Zn, Zn]), (pP n46 0), (.slice a l.length c), (nI l.length), (nI j), (u67 35), (u67 36), (u67 37), (u67 38), (u67 39), (u67 40), (u67 41), undef, undef, undef, undef, undef, undef, undef, undef, undef, undef, undef, undef, undef, undef, undef, undef, undef, undef, undef, undef, undef, undef, undef, undef, undef, undef, undef, undef, undef, undef, undef, undef, undef], []⟩ ∧ EngM w F w68 F66 n46 (runE (l.take j)) [⟨n2, [bF, (iI 0), (iI 0), Zn, Zn], 43⟩] ∧ Le F9 F66 ∧ (j ≤ l.length)) _ ⟨0, _, _, rfl, rfl, rfl, hM69, Le.refl _, (by omega)⟩ ?_
 rintro m70 a71 w72 ⟨j, F66, u67, rfl, -, rfl, hM75, le73, hj⟩ K74 hK74
 obtain ⟨ad76, cd77, ac78, cc79, af80, cf81, aw82, cw83, ar84, cr85, pv86, S87, hd88, ht89⟩ := hM75
 refine sk fun K90 hK90 => ?_
 by_cases hc35 : j < l.length
 refine lssT ?_
 refine wn hK90 ?_
 refine wp_seq_k (fun K91 hK91 => ?_)
 refine wp_cond_true rfl ?_
 refine wp_skip ?_
 refine hK91 _ _ ?_
 refine wp_seq_k (fun K92 hK92 => ?_)
 refine wp_block ?_
 refine wp_seq_k (fun K93 hK93 => ?_)
 obtain ⟨p, hp⟩ : ∃ p, l[j]? = some p := ⟨l[j], List.getElem?_eq_getElem hc35⟩
 have hpo := hok p (List.mem_of_getElem? hp)
 obtain ⟨b94, o95, ha96, xa101, xc102, c97, c98, c99, c100, r103⟩ := Acs.get (hv.mono (le16.trans le73)) hp
 have hgi := run_take_ok hc hok j
 have hri := run_take_room l j hlen
 refine region_wl ?_
 refine dr (pP b94 (o95 + j * 4)) (ex_at (i := j) (sz := 4) Tryz.underlying23 (sizeof_33 _) rfl ha96 rfl (by omega) rfl) ?_
 refine dr _ (ex_load rfl (loadM Tryz.underlying33 rfl (size_33) (range4 (St.fz S87 c97) (St.fz S87 c98) (St.fz S87 c99) (St.fz S87 c100)))) ?_
 simp only [pq]
 refine sA S87 (zero_33 _) fun n104 w105 S106 => ?_
 refine sW 0 S106 (size_33) fun w107 S108 => ?_
 refine wl_nil (hK93 _ _ ?_)
 refine region_wl ?_
 refine dx ?_
 refine dR S108 0 Tryz.underlying33 (size_33) ?_
 simp only [pq]
 have S109 := St.perm S108 (List.perm_middle (l₁ := [_]))
 have hM110 : EngM _ _ _ _ n46 (runE (l.take j)) _ := ⟨_, _, _, _, _, _, _, _, _, _, _, S109, hd88, ht89⟩
 refine doC rfl (fn2 (ent_52 _ _)) (do_eng _ _ _ _ _ _ _ hM110 hh hT hgi.1 hgi.2 hri hpo (u := (.slice xa101 p.data.length xc102)) r103 (hP p (List.mem_of_getElem? hp)) (hK p (List.mem_of_getElem? hp))) ?_
 rintro _ w111 ⟨rfl, F112, le113, hM114⟩
 refine ⟨_, rfl, ?_⟩
 obtain ⟨ad115, cd116, ac117, cc118, af119, cf120, aw121, cw122, ar123, cr124, pv125, S126, hd127, ht128⟩ := hM114
 refine wl_nil (hK92 _ _ ?_)
 refine region_wl ?_
 refine dAdd (j + 1) ?_
 refine dx ?_
 refine wl_nil ?_
 have hM129 : EngM _ _ _ _ n46 ((runE (l.take j)).act p) _ := ⟨_, _, _, _, _, _, _, _, _, _, _, S126, hd127, ht128⟩
 have hM130 := hM129.drop (.cons _ (List.Sublist.refl _))
 rw [(show (runE (l.take j)).act p = runE (l.take (j + 1)) from (runE_take hp).symm)] at hM130
 exact hK74 _ _ _ (by omega) ⟨(j + 1), _, _, rfl, rfl, rfl, hM130, (le73.trans le113), (by omega)⟩
 refine lssF ?_
 simp only [pq]
 refine wn hK90 ?_
 refine wp_seq_k (fun K131 hK131 => ?_)
 refine wp_cond_false rfl ?_
 refine wp_exit ?_
 refine hK49 _ _ ?_
 refine wp_seq_k (fun K132 hK132 => ?_)
 have hil : l.take j = l := List.take_of_length_le (by omega)
 have hM133 : EngM _ _ _ _ n46 (runE (l.take j)) _ := ⟨_, _, _, _, _, _, _, _, _, _, _, S87, hd88, ht89⟩
 rw [hil] at hM133
 obtain ⟨ad134, cd135, ac136, cc137, af138, cf139, aw140, cw141, ar142, cr143, pv144, S145, hd146, ht147⟩ := hM133
 have hge := run_ok (l := l) (by omega) hok
 have hsy := hge.sync
 have hst := hge.states
 have hsl : (runE l).synced ≤ (runE l).commits.length := by omega
 have hfa := forest_at hge hsl
 have hfo := forest_ok hge hsl
 obtain ⟨g148, ha149, xa150, xc151, c152, r153⟩ := fo_at (S145.own (i := 1) rfl) hfa
 refine region_gw F66 15 [(10, .made (fun F' u => TnsE ((runE l).forest (runE l).synced) 0 F' u)), (12, .made (fun F' u => Tns F' u ((runE l).forest (runE l).synced))), (13, .is (iI 0))] (by kernel_rfl) (by kernel_rfl) ?_
 simp only [List.take_succ_cons, List.take_zero]
 refine gm ?_
 refine gi ?_
 refine gf (fa_115_3 _ _) ?_
 simp only [pq]
 refine gl nagg_106 S145 0 ?_
 refine gm ?_
 refine gi ?_
 simp only [pq]
 refine gf (fa_115_4 _ _) ?_
 refine gl nagg_3 S145 0 ?_
 refine gv (pP g148 (0 + ((runE l).synced) * 1)) (fun _ _ => ex_at (i := (runE l).synced) (sz := 1) Tryz.underlying106 (sizeof_24 _) rfl ha149 rfl (by omega) rfl) ?_
 simp only [pq]
 refine gv _ (fun _ C154 => ex_load rfl (load1 (nagg_24 _) (cell_kept C154 c152))) ?_
 simp only [pq]
 refine gw_rel rfl rfl (fun w154 C154 hF => does_call (ex_fn (vs := #[(.slice xa150 ((runE l).forest (runE l).synced).length xc151), Zn]) (map2 rfl rfl) rfl (ent_22 _ _)) (call_made S145.sat C154 (apply_is ((St.tells S145 C154)).sat r153 (Sl.nil _ _ _) hfo (by simp) (show applyE ((runE l).forest (runE l).synced) [] = (0, ((runE l).forest (runE l).synced)) from rfl)))) (fun v155 => ?_)
 refine gm ?_
 simp only [pq]
 refine gw_rel rfl rfl (fun w154 C154 hF_ => ?_) (fun v160 => ?_)
 obtain ⟨F156, g157, _, rfl, hx159⟩ := hF_.get 10 (by kernel_rfl) rfl rfl
 exact does_val (ex_extract rfl rfl) ⟨F156, g157, hx159⟩ (Below.refl _ _)
 simp only [pq]
 refine gw_const rfl rfl (v := (iI 0)) (fun w154 C154 hF_ => ?_) ?_
 obtain ⟨F161, g162, _, rfl, hx164⟩ := hF_.get 10 (by kernel_rfl) rfl rfl
 exact does_is (ex_extract rfl rfl)
 refine ga ?_
 refine gw_nil ?_
 intro w165 hC167 hF168
 obtain ⟨F169, g170, R171⟩ := hF168.get 12 rfl rfl
 have S166 := St.gives S145 g170
 have le173 : Le _ _ := g170.le S145.sat
 have R174 := R171
 generalize F169 = F172 at *
 obtain ⟨a175, c176, rfl, h177, h178⟩ := Sl.shape R174
 have R174 : Tns _ (.slice a175 ((runE l).forest (runE l).synced).length c176) ((runE l).forest (runE l).synced) := R174
 clear hF168
 simp only [List.drop_succ_cons, List.drop_zero]
 refine dy ?_
 simp only [pq]
 refine wl_nil (hK132 _ _ ?_)
 refine wp_seq_k (fun K179 hK179 => ?_)
 refine region_gw F172 18 [] (by kernel_rfl) (by kernel_rfl) ?_
 simp only [List.take_succ_cons, List.take_zero]
 refine gm ?_
 refine gi ?_
 refine gf (fa_115_0 _ _) ?_
 simp only [pq]
 refine gl nagg_4 S166 0 ?_
 refine gm ?_
 refine gi ?_
 simp only [pq]
 refine gf (fa_115_4 _ _) ?_
 refine gl nagg_3 S166 0 ?_
 refine gm ?_
 simp only [pq]
 refine gi ?_
 refine gf (fa_115_6 _ _) ?_
 refine gl nagg_60 S166 0 ?_
 simp only [pq]
 refine gv (.int .i64 (((runE l).waiting.length : Nat) : Int)) (fun _ _ => ex_len Tryz.underlying60 rfl) ?_
 iterate 2 refine gm ?_
 simp only [pq]
 refine gi ?_
 refine gf (fa_115_7 _ _) ?_
 refine gl nagg_41 S166 0 ?_
 simp only [pq]
 refine gw_nil ?_
 intro w181 hC183 hF184
 clear hF184
 have S182 := St.tells S166 hC183
 simp only [List.drop_succ_cons, List.drop_zero]
 refine dr (.agg #[(.bool (runE l).up), (.int .i64 (((runE l).synced : Nat) : Int)), (.int .i64 (((runE l).waiting.length : Nat) : Int)), (.slice a175 ((runE l).forest (runE l).synced).length c176), (.slice ar142 (runE l).replies.length cr143)]) (ex_build (bmap5 rfl rfl rfl rfl rfl) (by kernel_rfl)) ?_
 refine sW 1 S182 (size_43) fun w185 S186 => ?_
 refine dy ?_
 simp only [pq]
 refine wl_nil (hK179 _ _ ?_)
 refine wp_ret ?_
 (try simp only [Exit.then, Exit.inBlock, ↓reduceIte, Nat.reduceEqDiff])
 refine bR (res_ct rfl ⟨_, rfl, lR S186 1 Tryz.underlying43 (size_43)⟩ (gD rfl)) ?_
 obtain ⟨F187, S188, le189, hv190⟩ := St.freeze S186 (i := 3) rfl (Nat.le_refl _)
 have hv190 : Rps _ (.slice ar142 (runE l).replies.length cr143) ((runE l).replies) := hv190
 exact ⟨_, _, rfl, S188.gr, _, rfl, _, _, _, _, rfl, (R174.mono le189), hv190⟩
def AcV (F : Fz) (u : Value) (a : Ac) : Prop := ∃ x y, u = .agg #[.int .i64 ((a.kind : Nat) : Int), .int .i64 ((a.sess : Nat) : Int), .int .i64 ((a.keep : Nat) : Int), .slice x a.data.length y] ∧ Bs F (.slice x a.data.length y) a.data
def RanV (g : Eng) (F : Fz) (u : Value) : Prop := ∃ x, u = .tuple #[x, .bool true] ∧ OutV F x g
theorem Rps.mono {F F' : Fz} {v : Value} {l : List Rep} (h : Rps F v l) (hl : Le F F') : Rps F' v l := Sl.mono RpC.mono h hl
theorem AcC.one (F : Fz) (cs : List Value) (p : Ac) (h : AcC F cs p) : ∀ u ∈ cs, u.oneCell' = true := h.oneCell
theorem topAsk_spec (F : Fz) (w : World) (u : Value) (s k : Nat) (r : Rq) (hs : Sat w F) (hh : Has w) (hv : ReqV F u k r.name r.key r.last r.value) (ok : RqOk k r) :
    Calls Tryz.prog 21 #[.int .i64 ((s : Nat) : Int), u] w (Gives w F fun F' u => AcV F' u (.ask s (encQ k r))) := by
 obtain ⟨_, _, _, _, rfl, q0, q1, q2, q3⟩ := hv
 obtain ⟨a0, c0, rfl, _⟩ := q0.shape
 obtain ⟨a1, c1, rfl, _⟩ := q1.shape
 obtain ⟨a2, c2, rfl, _⟩ := q2.shape
 obtain ⟨a3, c3, rfl, _⟩ := q3.shape
 have S := St.start hs
 go_enter Tryz.func21, Tryz.ntmps21
 refine sk fun K1 hK1 => ?_
 refine stNew S (v := fun n => .pointer (aA n 0)) rfl (ex_box (v := (.agg #[(nI k), (.slice a0 r.name.length c0), (.slice a1 r.key.length c1), (.slice a2 r.last.length c2), (.slice a3 r.value.length c3)])) rfl) (fun n2 w3 S4 => ?_)
 refine sA S4 (zero_33 _) fun n5 w6 S7 => ?_
 refine wn hK1 ?_
 refine sk fun K8 hK8 => ?_
 refine dR S7 1 Tryz.underlying27 (size_27) ?_
 refine stGives S7 rfl (fn1 (ent_31 _ _)) (wireEncode_spec _ _ _ k r (S7).sat (hh.below S7.gr.below) ⟨_, _, _, _, rfl, q0, q1, q2, q3⟩ ok) ?_
 intro v14 w9 F11 S10 le12 R13
 obtain ⟨_, rfl, r15⟩ := R13
 obtain ⟨xa16, xc17, rfl, _⟩ := r15.shape
 simp only [pq]
 refine dx ?_
 iterate 2 refine de ?_
 simp only [pq]
 iterate 2 refine dy ?_
 refine wn hK8 ?_
 refine sk fun K18 hK18 => ?_
 iterate 2 refine dx ?_
 refine dr (.agg #[(iI 1), (nI s), (iI 0), (.slice xa16 (encQ k r).length xc17)]) (ex_build (bmap3 rfl rfl rfl) (by kernel_rfl)) ?_
 simp only [pq]
 refine sW 0 S10 (size_33) fun w19 S20 => ?_
 refine wn hK18 ?_
 refine wp_ret ?_
 try simp only [xt]
 refine bR (res_c rfl ⟨_, rfl, lR S20 0 Tryz.underlying33 (size_33)⟩) ?_
 exact ⟨_, _, rfl, S20.gr, _, _, rfl, r15⟩
theorem ran_spec (F : Fz) (w : World) (v : Value) (l : List Ac) (hs : Sat w F) (hh : Has w) (hT : Tabs w) (hv : Acs F v l) (hok : ∀ a ∈ l, AcOk a) (hc : countC l ≤ 149) (hlen : l.length ≤ 100000) (hP : ∀ a ∈ l, isP a = true → ProveS) (hK : ∀ a ∈ l, isK a = true → CrashS) :
    Calls Tryz.prog 23 #[v] w (Gives w F (RanV (runE l))) := by
 obtain ⟨a, c, rfl, hc1, hc2⟩ := Sl.shape hv
 have S := St.start hs
 go_enter Tryz.func23, Tryz.ntmps23
 refine sk fun K1 hK1 => ?_
 refine sA S (zero_43 _) fun n2 w3 S4 => ?_
 refine dy ?_
 refine wn hK1 ?_
 refine sk fun K5 hK5 => ?_
 refine dx ?_
 simp only [pq]
 refine stGives S4 rfl (fn1 (ent_35 _ _)) (run_spec _ _ _ l (S4).sat (hh.below S4.gr.below) (hT.at S4.gr.below) hv hok hc hlen hP hK) ?_
 intro v11 w6 F8 S7 le9 R10
 obtain ⟨_, rfl, R12⟩ := R10
 obtain ⟨a13, c14, a15, c16, rfl, r17, r18⟩ := R12
 refine dx ?_
 iterate 2 refine de ?_
 simp only [pq]
 refine sA S7 (zero_43 _) fun n19 w20 S21 => ?_
 refine sW 0 S21 (size_43) fun w22 S23 => ?_
 refine dy ?_
 simp only [pq]
 refine wn hK5 ?_
 refine sk fun K24 hK24 => ?_
 refine stGives S23 rfl (fn1 (ent_35 _ _)) (run_spec _ _ _ [] (S23).sat (hh.below S23.gr.below) (hT.at S23.gr.below) (Sl.nil _ _ _) (by simp) (by decide) (by simp) (by simp) (by simp)) ?_
 intro v30 w25 F27 S26 le28 R29
 obtain ⟨_, rfl, R31⟩ := R29
 obtain ⟨a32, c33, a34, c35, rfl, r36, r37⟩ := R31
 refine dx ?_
 iterate 2 refine de ?_
 simp only [pq]
 refine sA S26 (zero_43 _) fun n38 w39 S40 => ?_
 refine sW 0 S40 (size_43) fun w41 S42 => ?_
 refine dy ?_
 simp only [pq]
 refine wn hK24 ?_
 refine wp_seq_k (fun K43 hK43 => ?_)
 obtain ⟨S44, le45, hc46⟩ := St.freezeBlk S42 (i := 1) rfl
 generalize addF F27 w41 n19 = F47 at *
 obtain ⟨S48, le49, hc50⟩ := St.freezeBlk S44 (i := 0) rfl
 generalize addF F47 w41 n38 = F51 at *
 refine region_hl S48 (by kernel_rfl) (fun w53 S52 => ?_)
 refine hl_take 0 rfl (by kernel_rfl) (v := (.agg #[(.bool (runE l).up), (.int .i64 (((runE l).synced : Nat) : Int)), (.int .i64 (((runE l).waiting.length : Nat) : Int)), (.slice a13 ((runE l).forest (runE l).synced).length c14), (.slice a15 (runE l).replies.length c16)])) (fun _ _ _ h => h) S52.sat rfl (fun w54 hs55 => ex_load rfl (loadN (cs := [(.bool (runE l).up), (.int .i64 (((runE l).synced : Nat) : Int)), (.int .i64 (((runE l).waiting.length : Nat) : Int)), (.slice a13 ((runE l).forest (runE l).synced).length c14), (.slice a15 (runE l).replies.length c16)]) Tryz.underlying43 rfl (size_43) (rangeF (c := [(.bool (runE l).up), (.int .i64 (((runE l).synced : Nat) : Int)), (.int .i64 (((runE l).waiting.length : Nat) : Int)), (.slice a13 ((runE l).forest (runE l).synced).length c14), (.slice a15 (runE l).replies.length c16)]) (St.start hs55).sat (Le.cells le49 hc46)))) ?_
 simp only [pq]
 refine hl_take 1 rfl (by kernel_rfl) (v := (iI 0)) (fun _ _ _ h => h) S52.sat rfl (fun w56 hs57 => ex_move _) ?_
 simp only [pq]
 refine hl_take 2 rfl (by kernel_rfl) (v := bT) (fun _ _ _ h => h) S52.sat rfl (fun w58 hs59 => ex_eql (b := true) rfl rfl (by decide)) ?_
 simp only [pq]
 refine hl_take 3 rfl (by kernel_rfl) (v := bT) (fun _ _ _ h => h) S52.sat rfl (fun w60 hs61 => ex_move _) ?_
 simp only [pq]
 refine hl_take 4 rfl (by kernel_rfl) (v := (iI 0)) (fun _ _ _ h => h) S52.sat rfl (fun w62 hs63 => ex_move _) ?_
 simp only [pq]
 refine hl_take 5 rfl (by kernel_rfl) (v := bT) (fun _ _ _ h => h) S52.sat rfl (fun w64 hs65 => ex_eql (b := true) rfl rfl (by decide)) ?_
 simp only [pq]
 refine hl_take 6 rfl (by kernel_rfl) (v := bT) (fun _ _ _ h => h) S52.sat rfl (fun w66 hs67 => ex_pick (b := true) rfl) ?_
 simp only [pq]
 refine hl_take 7 rfl (by kernel_rfl) (v := bT) (fun _ _ _ h => h) S52.sat rfl (fun w68 hs69 => ex_move _) ?_
 simp only [pq]
 refine hl_take 8 rfl (by kernel_rfl) (v := (pP n38 0)) (fun _ _ _ h => h) S52.sat rfl (fun w70 hs71 => ef (fa_43_0 _ _)) ?_
 simp only [pq]
 refine hl_take 9 rfl (by kernel_rfl) (v := bT) (fun _ _ _ h => h) S52.sat rfl (fun w72 hs73 => ex_load rfl (load1 (nagg_4 _) (St.fz (St.start hs73) (hc50 0 _ rfl)))) ?_
 simp only [pq]
 refine hl_take 10 rfl (by kernel_rfl) (v := bT) (fun _ _ _ h => h) S52.sat rfl (fun w74 hs75 => ex_pick (b := true) rfl) ?_
 simp only [pq]
 refine hl_next 11 (by kernel_rfl) rfl ?_
 refine sW 0 S52 (size_43) fun w76 S77 => ?_
 refine wl_nil (hl_back S77.sat ?_)
 refine hl_take 12 rfl (by kernel_rfl) (v := bT) (fun _ _ _ h => h) S77.sat rfl (fun w78 hs79 => ex_assign _) ?_
 simp only [pq]
 refine hl_done (by kernel_rfl) ?_
 refine hK43 _ _ ?_
 refine wp_ret ?_
 try simp only [xt]
 refine bR (res_ct rfl ⟨_, rfl, lR S77 0 Tryz.underlying43 (size_43)⟩ (gD rfl)) ?_
 exact ⟨_, _, rfl, S77.gr, _, rfl, _, _, _, _, rfl, (r17.mono ((le28.trans le45).trans le49)), (r18.mono ((le28.trans le45).trans le49))⟩
structure ScrOk (l : List Ac) : Prop where
  ok : ∀ a ∈ l, AcOk a
  c : countC l ≤ 149
  len : l.length ≤ 100000
  P : ∀ a ∈ l, isP a = true → ProveS
  K : ∀ a ∈ l, isK a = true → CrashS
theorem ranIs_spec (F : Fz) (w : World) (v : Value) (l : List Ac) {g : Eng} (hs : Sat w F) (hh : Has w) (hT : Tabs w) (hv : Acs F v l) (h : ScrOk l) (hg : runE l = g) :
    Calls Tryz.prog 23 #[v] w (Gives w F (RanV g)) := hg ▸ ran_spec F w v l hs hh hT hv h.ok h.c h.len h.P h.K
def rq0 : Rq := ⟨[], [], [], []⟩
/-- A byte of any number. -/
def u8of (z : Int) : UInt8 := UInt8.ofNat (z % 256).toNat
theorem ask_enc {g : Eng} {s k : Nat} {r : Rq} (ok : RqOk k r) : g.act (.ask s (encQ k r)) = if g.up then g.req s k r else g.reply (repC s 13) := by
 unfold Eng.act Eng.ask
 simp only [(wd_back ok).1, (wd_back ok).2]
 rfl
/-- A script of whole requests. -/
inductive Rc where
  | rq (s k : Nat) (r : Rq)
  | sync
  | crash (k : Nat)
  | start
def Rc.ac : Rc → Ac
  | .rq s k r => .ask s (encQ k r)
  | .sync => .sync
  | .crash k => .crash k
  | .start => .start
def Eng.rc (g : Eng) : Rc → Eng
  | .rq s k r => if g.up then g.req s k r else g.reply (repC s 13)
  | .sync => g.sync
  | .crash k => g.crash k
  | .start => g.start
def RcOk : Rc → Prop
  | .rq s k r => s < 8 ∧ RqOk k r
  | .crash k => k ≤ 100000
  | _ => True
theorem rc_act (g : Eng) {a : Rc} (h : RcOk a) : g.act a.ac = g.rc a := by
 cases a with
 | rq s k r => exact ask_enc h.2
 | sync => rfl
 | crash k => rfl
 | start => rfl
theorem rc_run : ∀ (l : List Rc) (g : Eng), (∀ a ∈ l, RcOk a) → (l.map Rc.ac).foldl Eng.act g = l.foldl Eng.rc g
  | [], g, _ => rfl
  | a :: l, g, h => by
    rw [List.map_cons, List.foldl_cons, List.foldl_cons, rc_act g (h a (by simp)), rc_run l _ (fun x hx => h x (by simp [hx]))]
def runR (l : List Rc) : Eng := l.foldl Eng.rc eng0
theorem runE_rc {l : List Rc} (h : ∀ a ∈ l, RcOk a) : runE (l.map Rc.ac) = runR l := rc_run l eng0 h
def rcP : Rc → Bool
  | .rq _ k _ => k == 8
  | _ => false
def rcK : Rc → Bool
  | .crash _ => true
  | _ => false
def rcC : Rc → Bool
  | .rq _ k _ => k == 6
  | _ => false
theorem isP_rc {a : Rc} (h : RcOk a) : isP a.ac = rcP a := by
 cases a with
 | rq s k r => unfold Rc.ac isP rcP; simp only [(wd_back h.2).1, (wd_back h.2).2]; rfl
 | _ => rfl
theorem isK_rc (a : Rc) : isK a.ac = rcK a := by cases a <;> rfl
theorem isC_rc {a : Rc} (h : RcOk a) : isC a.ac = rcC a := by
 cases a with
 | rq s k r => unfold Rc.ac isC rcC; simp only [(wd_back h.2).1, (wd_back h.2).2]; rfl
 | _ => rfl
theorem AcOk_rc {a : Rc} (h : RcOk a) : AcOk a.ac := by
 cases a with
 | rq s k r =>
  refine ⟨h.1, ?_⟩
  have := encQ_len h.2
  omega
 | sync => trivial
 | crash k => exact h
 | start => trivial
theorem countC_rc {l : List Rc} (h : ∀ a ∈ l, RcOk a) : countC (l.map Rc.ac) = (l.map fun a => if rcC a then 1 else 0).sum := by
 unfold countC
 rw [List.map_map]
 congr 1
 refine List.map_congr_left fun a ha => ?_
 simp only [Function.comp_apply, isC_rc (h a ha)]
theorem conv_u8 (z : Int) (w : World) : (convert 3 5 (.int .i64 z)).run Tryz.prog w = .ok (.int .u8 (((u8of z).toNat : Nat) : Int)) w := by
 have e : IntKind.u8.wrap z = (((u8of z).toNat : Nat) : Int) := by
  rw [show IntKind.u8.wrap z = z % 256 from rfl]
  have h : (u8of z).toNat = (z % 256).toNat := by
   have hm : (z % 256).toNat < 256 := by omega
   unfold u8of
   simp only [UInt8.toNat_ofNat']
   exact Nat.mod_eq_of_lt hm
  rw [h]; omega
 rw [← e]
 go_simp
theorem ex_makeFunc2 {P : Program} {ρ : Operand → Value} {w : World} {d : Option Tmp} {t : TypeId} {pos : String} {after : Array Edge} {guard : Option (Nat × Bool)} {k : FuncId} {x y : Operand} {v u : Value} (hx : ρ x = v) (hy : ρ y = u) : (execOp ρ ⟨d, .makeFunc (.func k) #[] #[x, y], t, pos, after, guard⟩).run P w = .ok (.value (.func (.func k) #[] #[v, u])) w := by
 subst hx; subst hy
 simp [execOp, Instr.makeFunc]
theorem Rps.get {F : Fz} {a : Option Addr} {n c : Nat} {l : List Rep} (h : Rps F (.slice a n c) l) {i : Nat} {r : Rep} (hp : l[i]? = some r) :
    ∃ b o, a = some ⟨b, o, none⟩ ∧ ∃ va vc pa pc ra rc, cellF F b (o + i * 15) = some (.int .i64 ((r.s : Nat) : Int)) ∧ cellF F b (o + i * 15 + 1) = some (.int .i64 r.code) ∧ cellF F b (o + i * 15 + 2) = some (.int .i64 r.turn) ∧ cellF F b (o + i * 15 + 3) = some (.bool r.found) ∧ cellF F b (o + i * 15 + 4) = some (.slice va r.value.length vc) ∧ cellF F b (o + i * 15 + 5) = some (.slice pa r.pairs.length pc) ∧ cellF F b (o + i * 15 + 6) = some (.slice ra r.root.length rc) ∧ Bs F (.slice va r.value.length vc) r.value ∧ Prs F (.slice pa r.pairs.length pc) r.pairs ∧ Bs F (.slice ra r.root.length rc) r.root := by
 obtain ⟨hi, rfl⟩ := List.getElem?_eq_some_iff.1 hp
 have hn := Sl.len h
 obtain ⟨b, o, e, h1⟩ := Sl.at h (by omega) (by omega)
 obtain ⟨cs, q1, ⟨v, p, q, a1, a2, a3, b1, b2, b3, rfl, r1, r2, r3, _⟩, q3⟩ := h1 i hi
 obtain ⟨va, vc, rfl, _⟩ := r1.shape
 obtain ⟨pa, pc, rfl, _⟩ := Sl.shape r2
 obtain ⟨ra, rc, rfl, _⟩ := r3.shape
 refine ⟨b, o, e, va, vc, pa, pc, ra, rc, ?_, ?_, ?_, ?_, ?_, ?_, ?_, r1, r2, r3⟩
 have := q3 0 (by simp); simpa [Nat.add_assoc] using this
 have := q3 1 (by simp); simpa [Nat.add_assoc] using this
 have := q3 2 (by simp); simpa [Nat.add_assoc] using this
 have := q3 3 (by simp); simpa [Nat.add_assoc] using this
 have := q3 4 (by simp); simpa [Nat.add_assoc] using this
 have := q3 5 (by simp); simpa [Nat.add_assoc] using this
 have := q3 6 (by simp); simpa [Nat.add_assoc] using this
def rcB : Rc → Bool
  | .rq s k r => decide (s < 8) && decide (1 ≤ k) && decide (k ≤ 8) && (wireN k r.name.length r.key.length r.last.length r.value.length == 0)
  | .crash k => decide (k ≤ 100000)
  | _ => true
theorem rcB_ok {a : Rc} (h : rcB a = true) : RcOk a := by
 cases a with
 | rq s k r =>
  simp only [rcB, Bool.and_eq_true, decide_eq_true_eq, beq_iff_eq] at h
  exact ⟨h.1.1.1, ⟨h.1.1.2, h.1.2⟩, h.2⟩
 | crash k => simpa [rcB, RcOk] using h
 | sync => trivial
 | start => trivial
def scrB (l : List Rc) : Bool := l.all rcB && decide ((l.map fun a => if rcC a then 1 else 0).sum ≤ 149) && decide (l.length ≤ 100000)
theorem scr_of {l : List Rc} (h : scrB l = true) (hP : l.any rcP = true → ProveS) (hK : l.any rcK = true → CrashS) : ScrOk (l.map Rc.ac) := by
 simp only [scrB, Bool.and_eq_true, decide_eq_true_eq] at h
 have hok : ∀ a ∈ l, RcOk a := fun a ha => rcB_ok (List.all_eq_true.1 h.1.1 a ha)
 refine ⟨fun a ha => ?_, by rw [countC_rc hok]; exact h.1.2, by rw [List.length_map]; exact h.2, fun a ha hp => ?_, fun a ha hk => ?_⟩
 obtain ⟨x, hx, rfl⟩ := List.mem_map.1 ha; exact AcOk_rc (hok x hx)
 obtain ⟨x, hx, rfl⟩ := List.mem_map.1 ha
 exact hP (List.any_eq_true.2 ⟨x, hx, by rw [← isP_rc (hok x hx)]; exact hp⟩)
 obtain ⟨x, hx, rfl⟩ := List.mem_map.1 ha
 exact hK (List.any_eq_true.2 ⟨x, hx, by rw [← isK_rc]; exact hk⟩)
theorem scr_no {l : List Rc} (h : (scrB l && !l.any rcP && !l.any rcK) = true) : ScrOk (l.map Rc.ac) ∧ runE (l.map Rc.ac) = runR l := by
 simp only [Bool.and_eq_true, Bool.not_eq_true'] at h
 have h1 := h.1.1
 simp only [scrB, Bool.and_eq_true, decide_eq_true_eq] at h1
 exact ⟨scr_of h.1.1 (fun k => by rw [h.1.2] at k; cases k) (fun k => by rw [h.2] at k; cases k), runE_rc fun a ha => rcB_ok (List.all_eq_true.1 h1.1.1 a ha)⟩
theorem getD_some {α : Type} {l : List α} {i : Nat} {x : α} (h : l[i]? = some x) : i < l.length := (List.getElem?_eq_some_iff.1 h).1
theorem clashPut_spec (F : Fz) (w : World) (z : Int) (b1 b2 y1 y2 : Nat) (x1 x2 : Option Addr) (N K : By) (hs : Sat w F) (c1 : cellF F b1 0 = some (.slice x1 N.length y1)) (c2 : cellF F b2 0 = some (.slice x2 K.length y2)) (h1 : Bs F (.slice x1 N.length y1) N) (h2 : Bs F (.slice x2 K.length y2) K) :
    Calls Tryz.prog 28 #[.int .i64 z, .pointer (some ⟨b1, 0, none⟩), .pointer (some ⟨b2, 0, none⟩)] w (Gives w F fun F' u => ReqV F' u (4 : Nat) N K [] [u8of z]) := by
 have S := St.start hs
 go_enter Tryz.func28, Tryz.ntmps28
 refine sk fun K1 hK1 => ?_
 refine sA S (zero_27 _) fun n2 w3 S4 => ?_
 refine wn hK1 ?_
 refine sk fun K5 hK5 => ?_
 refine dr _ (ex_load rfl (load1 (nagg_25 _) (St.fz S4 c1))) ?_
 refine dr _ (ex_load rfl (load1 (nagg_25 _) (St.fz S4 c2))) ?_
 refine dx ?_
 simp only [pq]
 refine dr (.int .u8 (((u8of z).toNat : Nat) : Int)) (ex_convert (v := (.int .i64 z)) rfl (conv_u8 z _)) ?_
 refine stNew S4 (v := fun n => .slice (aA n 0) 1 1) rfl (ex_lit (ps := #[(0, (.int .u8 (((u8of z).toNat : Nat) : Int)))]) (cells := #[(.int .u8 (((u8of z).toNat : Nat) : Int))]) (E := 5) (bmap1 rfl) (fun w => by kernel_rfl)) (fun n6 w7 S8 => ?_)
 refine dr (.agg #[(iI 4), (.slice x1 N.length y1), (.slice x2 K.length y2), Zn, (.slice (aA n6 0) 1 1)]) (ex_build (bmap4 rfl rfl rfl rfl) (by kernel_rfl)) ?_
 refine sW 1 S8 (size_27) fun w9 S10 => ?_
 simp only [pq]
 refine wn hK5 ?_
 refine wp_ret ?_
 try simp only [xt]
 refine bR (res_c rfl ⟨_, rfl, lR S10 1 Tryz.underlying27 (size_27)⟩) ?_
 ·obtain ⟨S11, le12, hc13⟩ := St.freezeBlk S10 (i := 0) rfl
  have r15 : Bs _ (.slice (some ⟨n6, 0, none⟩) 1 1) ([u8of z] : By) := bs_of_block (l := ([u8of z] : By)) hc13 (rfl) (by unfold maxLen; simp)
  generalize addF F w9 n6 = F14 at *
  exact ⟨_, _, rfl, S11.gr, _, _, _, _, rfl, (h1.mono le12), (h2.mono le12), Bs.nil _, r15⟩
open Go.ChangeShapes Go.WideShapes Go.ChangeAt Go.RowKit
abbrev laid4 : List (String × DataW Unit) := [("canopy/digest.rounds", Rows.laid_canopy_digest_rounds), ("canopy/digest.goes", Rows.laid_canopy_digest_goes), ("canopy/digest.turns", Rows.laid_canopy_digest_turns), ("canopy/wire.has", Rows.laid_canopy_wire_has)]
theorem dig_met4 {W : World} (h : laidMetH Tryz.prog laid4 W) : Tabs W := by
 have hr : Lib.TabIs Tryz.prog W "canopy/digest.rounds" .u64 roundsZ :=
  tabIs_at (l := laid4) h 0 _ _ _ rfl gRounds gRoundsType Tryz.underlying218 Tryz.underlying215 gRoundsOne gRoundsCells
 have hg : Lib.TabIs Tryz.prog W "canopy/digest.goes" .i64 goesZ :=
  tabIs_at (l := laid4) h 1 _ _ _ rfl gGoes gGoesType Tryz.underlying235 Tryz.underlying3 gGoesOne gGoesCells
 have ht : Lib.TabIs Tryz.prog W "canopy/digest.turns" .i64 turnsZ :=
  tabIs_at (l := laid4) h 2 _ _ _ rfl gTurns gTurnsType Tryz.underlying235 Tryz.underlying3 gTurnsOne gTurnsCells
 refine ⟨fun i hi => ?_, fun i hi => ?_, fun i hi => ?_⟩
 rw [tab_at hg gGoes (n := 24) rfl hi, goes_are i hi]
 rw [tab_at ht gTurns (n := 24) rfl hi, turns_are i hi]
 rw [tab_at hr gRounds (n := 24) rfl hi, rounds_are i hi]
theorem gHas : Tryz.prog.globalNamed "canopy/wire.has" = some 0 := by kernel_rfl
theorem gHasType : (Tryz.prog.globals[(0 : Nat)]?).map (·.type) = some 92 := by kernel_rfl
theorem gHasCells : Tryz.prog.cellsOf 92 = 9 := by kernel_rfl
theorem intCells : Tryz.prog.cellsOf 3 = 1 := by kernel_rfl
theorem has_met4 {W : World} (h : laidMetH Tryz.prog laid4 W) : Has W := by
 have ht : Lib.TabIs Tryz.prog W "canopy/wire.has" .i64 hasL :=
  tabIs_at (l := laid4) h 3 _ _ _ rfl gHas gHasType Tryz.underlying92 Tryz.underlying3 intCells gHasCells
 intro i hi
 have := ht.cell gHas i hi
 rw [this]
 simp [List.getD, hi]
theorem top_met {W : World} (h : laidMetH Tryz.prog [("canopy/digest.rounds", Rows.laid_canopy_digest_rounds), ("canopy/digest.goes", Rows.laid_canopy_digest_goes), ("canopy/digest.turns", Rows.laid_canopy_digest_turns), ("canopy/wire.has", Rows.laid_canopy_wire_has)] W) : Has W ∧ Tabs W := ⟨has_met4 h, dig_met4 h⟩
noncomputable def topWorld (os : Os) : World := { digWorld os with heap := (digWorld os).heap.modify 0 (setCells #[.int .i64 0, .int .i64 0, .int .i64 3, .int .i64 7, .int .i64 11, .int .i64 3, .int .i64 0, .int .i64 0, .int .i64 3]) }
def clashQ (wide : Bool) : Nat × Rq := if wide then (3, ⟨[97], [97], [122], []⟩) else (2, ⟨[97], [107], [], []⟩)
theorem clashQ_ok (z : Bool) : RqOk (clashQ z).1 (clashQ z).2 := by cases z <;> exact ⟨by decide, rfl⟩
def clashR (v w : UInt8) (between wide : Bool) : List Rc :=
  [.rq 0 1 rq0, .rq 1 1 rq0, .rq 0 (clashQ wide).1 (clashQ wide).2, .rq 1 (clashQ wide).1 (clashQ wide).2, .rq 0 4 ⟨[97], [107], [], [v]⟩, .rq 1 4 ⟨[97], [107], [], [w]⟩, .rq 0 6 rq0] ++ ((if between then [.sync] else []) ++ [.rq 1 6 rq0, .sync])
theorem topClash_run (v w : UInt8) (between wide : Bool) : let g := runR (clashR v w between wide)
    g.synced = 1 ∧ g.replies.length = 8 ∧ g.forest g.synced = [([97], [([107], [v])])] ∧ g.replies[if between then 7 else 6]? = some (repC 1 9) := by
 cases between <;> cases wide <;> exact ⟨by kernel_rfl, by kernel_rfl, by kernel_rfl, by kernel_rfl⟩
theorem Rps.row {F : Fz} {a : Option Addr} {n c : Nat} {l : List Rep} (h : Rps F (.slice a n c) l) {i : Nat} {r : Rep} (hp : l[i]? = some r) :
    ∃ b o, a = some ⟨b, o, none⟩ ∧ ∃ va vc pa pc ra rc a1 a2 a3 b1 b2 b3, (∀ (j : Nat) v, [Value.int .i64 ((r.s : Nat) : Int), .int .i64 r.code, .int .i64 r.turn, .bool r.found, .slice va r.value.length vc, .slice pa r.pairs.length pc, .slice ra r.root.length rc, .bool r.outer.empty, a1, a2, a3, .bool r.inner.empty, b1, b2, b3][j]? = some v → cellF F b (o + i * 15 + j) = some v) ∧ (∀ u ∈ [a1, a2, a3, b1, b2, b3], u.oneCell' = true) ∧ Bs F (.slice va r.value.length vc) r.value ∧ Prs F (.slice pa r.pairs.length pc) r.pairs ∧ Bs F (.slice ra r.root.length rc) r.root := by
 obtain ⟨hi, rfl⟩ := List.getElem?_eq_some_iff.1 hp
 have hn := Sl.len h
 obtain ⟨b, o, e, h1⟩ := Sl.at h (by omega) (by omega)
 obtain ⟨cs, q1, hc, q3⟩ := h1 i hi
 have hone := RpC.oneCell hc
 obtain ⟨v, p, q, a1, a2, a3, b1, b2, b3, rfl, r1, r2, r3, _⟩ := hc
 obtain ⟨va, vc, rfl, _⟩ := r1.shape
 obtain ⟨pa, pc, rfl, _⟩ := Sl.shape r2
 obtain ⟨ra, rc, rfl, _⟩ := r3.shape
 refine ⟨b, o, e, va, vc, pa, pc, ra, rc, a1, a2, a3, b1, b2, b3, fun j v hv => ?_, fun u hu => hone u ?_, r1, r2, r3⟩
 obtain ⟨hj, e⟩ := List.getElem?_eq_some_iff.1 hv
 have := q3 j (by simpa using hj)
 rw [← e]; simpa [Nat.add_assoc] using this
 simp only [List.mem_cons, List.not_mem_nil, or_false] at hu ⊢
 rcases hu with h | h | h | h | h | h <;> simp [h]
theorem does_byte {P : Program} {o : Oper} {a : Act} {W w : World} {F F1 : Fz} {b : UInt8} {E : TypeId} (g : Gr W F w F1)
    (hr : (execOp a.eval o).run P w = .ok (.value (.slice (some ⟨w.heap.size, 0, none⟩) 1 1)) (w.alloc (.cells #[bv b] E))) : Does P o a w (RelPost (Made W F fun F' u => Bs F' u [b]) w) := by
 have h := does_lit (R := ByC) (hR := ByC.mono) (p := b) (cs := [bv b]) (k := 1) g rfl rfl hr
 unfold Does at h ⊢
 rw [hr] at h ⊢
 obtain ⟨⟨F', h2, h3⟩, h4⟩ := h
 exact ⟨⟨F', h2, bs_of_sl h3⟩, h4⟩
def ReqR (F : Fz) (v : Value) (p : Nat × Rq) : Prop := ∃ a c a1 c1 a2 c2 a3 c3, v = .agg #[.int .i64 ((p.1 : Nat) : Int), .slice a p.2.name.length c, .slice a1 p.2.key.length c1, .slice a2 p.2.last.length c2, .slice a3 p.2.value.length c3] ∧ Bs F (.slice a p.2.name.length c) p.2.name ∧ Bs F (.slice a1 p.2.key.length c1) p.2.key ∧ Bs F (.slice a2 p.2.last.length c2) p.2.last ∧ Bs F (.slice a3 p.2.value.length c3) p.2.value
theorem AcV.mono {F F' : Fz} {v : Value} {a : Ac} (h : AcV F v a) (hl : Le F F') : AcV F' v a := by
 obtain ⟨x, y, e, r⟩ := h
 exact ⟨x, y, e, r.mono hl⟩
def ownQ (v : UInt8) (gone : Bool) : Nat × Rq := if gone then (5, ⟨[111], [107], [], []⟩) else (4, ⟨[111], [107], [], [v]⟩)
theorem ownQ_ok (v : UInt8) (z : Bool) : RqOk (ownQ v z).1 (ownQ v z).2 := by
 cases z
 ·exact ⟨(by decide : 1 ≤ 4 ∧ 4 ≤ 8), by kernel_rfl⟩
 ·exact ⟨(by decide : 1 ≤ 5 ∧ 5 ≤ 8), by kernel_rfl⟩
def ownR (v : UInt8) (gone : Bool) : List Rc := [.rq 0 1 rq0, .rq 0 4 ⟨[111], [107], [], [7]⟩, .rq 0 (ownQ v gone).1 (ownQ v gone).2, .rq 0 2 ⟨[111], [107], [], []⟩, .rq 0 3 ⟨[111], [97], [122], []⟩]
theorem topOwn_run (v : UInt8) (gone : Bool) : let g := runR (ownR v gone)
    g.synced = 0 ∧ g.replies.length = 5 ∧ (g.replies[3]?.map fun a => (a.found, a.value)) = some (!gone, if gone then [] else [v]) ∧ (g.replies[4]?.map (·.pairs)) = some (if gone then [] else [([107], [v])]) := by
 cases gone <;> exact ⟨by kernel_rfl, by kernel_rfl, by kernel_rfl, by kernel_rfl⟩
def phA (a b k : UInt8) : List Rc := [.rq 0 1 rq0, .rq 0 3 ⟨[112], [a], [b], []⟩, .rq 1 1 rq0, .rq 1 4 ⟨[112], [k], [], []⟩, .rq 1 6 rq0, .sync, .rq 0 4 ⟨[112], [200], [], []⟩]
def phantomR (a b k : UInt8) : List Rc := phA a b k ++ [.rq 0 6 rq0, .sync]
theorem ph_full (n : Nat) (h : n < 100) : (applyF [([112], [([UInt8.ofNat n], [])])] [⟨[112], [200], false, []⟩]).isSome = true := by
 have h1 : ((List.range 100).all fun n => (applyF [([112], [([UInt8.ofNat n], [])])] [⟨[112], [200], false, []⟩]).isSome) = true := by kernel_rfl
 exact List.all_eq_true.1 h1 n (List.mem_range.2 h)
theorem ph_state (a b k : UInt8) : let g := runR (phA a b k)
    g.up = true ∧ g.waits 0 = false ∧ g.txn 0 = some ⟨0, [⟨[112], [a], true, [b]⟩], [⟨[112], [200], false, []⟩]⟩ ∧ g.commits = [⟨1, [⟨[112], [k], false, []⟩]⟩] ∧ g.synced = 1 ∧ g.waiting = [] ∧ g.replies.length = 6 ∧ g.forest 1 = [([112], [([k], [])])] :=
  ⟨by kernel_rfl, by kernel_rfl, by kernel_rfl, by kernel_rfl, by kernel_rfl, by kernel_rfl, by kernel_rfl, by kernel_rfl⟩
theorem less_one (x y : UInt8) : Op.bytesLess [x] [y] = decide (x < y) := by simp [Op.bytesLess]
theorem u8of_nat {n : Nat} (h : n < 256) : u8of (n : Int) = UInt8.ofNat n := by
 unfold u8of
 rw [show ((n : Int) % 256).toNat = n by omega]
theorem ph_step {s : Eng} {a b k : UInt8} {n : Nat} (hn : n < 100) (hkn : k = UInt8.ofNat n) (h1 : s.up = true) (h2 : s.waits 0 = false) (h3 : s.txn 0 = some ⟨0, [⟨[112], [a], true, [b]⟩], [⟨[112], [200], false, []⟩]⟩) (h4 : s.commits = [⟨1, [⟨[112], [k], false, []⟩]⟩]) (h5 : s.synced = 1) (h6 : s.waiting = []) (h7 : s.replies.length = 6) (h8 : s.forest 1 = [([112], [([k], [])])]) :
    let g := (s.rc (.rq 0 6 rq0)).rc .sync
    g.replies.length = 7 ∧ ((¬ k < a ∧ ¬ b < k) → g.synced = 1 ∧ g.replies[6]? = some (repC 0 9)) ∧ (¬ (¬ k < a ∧ ¬ b < k) → g.synced = 2 ∧ g.replies[6]? = some (repT 0 2)) := by
 simp only
 have hc : clashX 0 [⟨[112], [a], true, [b]⟩] [⟨1, [⟨[112], [k], false, []⟩]⟩] = (!decide (k < a) && !decide (b < k)) := by
  simp [clashX, touchesX, less_one]
 have hr : s.rc (.rq 0 6 rq0) = s.commit 0 ⟨0, [⟨[112], [a], true, [b]⟩], [⟨[112], [200], false, []⟩]⟩ := by
  unfold Eng.rc
  simp only
  rw [if_pos h1]
  unfold Eng.req
  rw [if_neg (by decide), h2, if_neg (by decide), h3]
  simp only
  rw [if_neg (by decide), if_neg (by decide), h5, if_pos (by decide)]
  unfold Eng.work
  rw [if_neg (by decide), if_neg (by decide), if_pos rfl]
 have hk : ∀ x : Bool, (!decide (k < a) && !decide (b < k)) = x → s.commit 0 ⟨0, [⟨[112], [a], true, [b]⟩], [⟨[112], [200], false, []⟩]⟩ = if x = true then (s.setTxn 0 none).reply (repC 0 9) else match applyF [([112], [([k], [])])] [⟨[112], [200], false, []⟩] with
   | none => (s.setTxn 0 none).reply (repC 0 11)
   | some f => s.stand 0 ⟨0, [⟨[112], [a], true, [b]⟩], [⟨[112], [200], false, []⟩]⟩ f := by
  intro x hx
  unfold Eng.commit
  simp only
  rw [if_neg (by simp), if_neg (by rw [h4, h5]; simp), h4, hc, hx]
  simp only [List.length_cons, List.length_nil, Nat.zero_add, h8]
  cases x
  simp only [Bool.false_eq_true, if_false]
  cases applyF [([112], [([k], [])])] [⟨[112], [200], false, []⟩] <;> rfl
  rfl
 rw [hr]
 cases hx : (!decide (k < a) && !decide (b < k)) with
 | true =>
  have hp : ¬ k < a ∧ ¬ b < k := by simpa using hx
  rw [hk true hx, if_pos rfl]
  have hs : (Eng.rc ((s.setTxn 0 none).reply (repC 0 9)) .sync) = { (s.setTxn 0 none).reply (repC 0 9) with tape := ⟨s.tape.data, s.tape.data.length⟩, waiting := [] } := by
   unfold Eng.rc Eng.sync
   simp only
   rw [if_pos (show ((s.setTxn 0 none).reply (repC 0 9)).up = true from h1), show ((s.setTxn 0 none).reply (repC 0 9)).waiting = [] from h6]
   rfl
  rw [hs]
  refine ⟨?_, fun _ => ⟨h5, ?_⟩, fun h => absurd hp h⟩
  show (s.replies ++ [_]).length = 7
  simp [h7]
  show (s.replies ++ [_])[6]? = _
  rw [List.getElem?_append_right (by omega), h7]; rfl
 | false =>
  have hp : ¬ (¬ k < a ∧ ¬ b < k) := by
   intro h; simp [h.1, h.2] at hx
  rw [hk false hx, if_neg (by decide)]
  have hf := ph_full n hn
  rw [← hkn] at hf
  cases ha : applyF [([112], [([k], [])])] [⟨[112], [200], false, []⟩] with
  | none => rw [ha] at hf; cases hf
  | some f =>
   simp only
   generalize hT : (⟨0, [⟨[112], [a], true, [b]⟩], [⟨[112], [200], false, []⟩]⟩ : Tx) = T
   have hs : Eng.rc (s.stand 0 T f) .sync = { Eng.told [0] { s.stand 0 T f with tape := ⟨(s.stand 0 T f).tape.data, (s.stand 0 T f).tape.data.length⟩ } with waiting := [] } := by
    unfold Eng.rc Eng.sync
    simp only
    rw [if_pos (show (s.stand 0 T f).up = true from h1), show (s.stand 0 T f).waiting = [0] from by show s.waiting ++ [0] = _; rw [h6]; rfl]
   rw [hs]
   refine ⟨?_, fun h => absurd h hp, fun _ => ⟨?_, ?_⟩⟩
   show (s.replies ++ [_]).length = 7
   simp [h7]
   show s.synced + 1 = 2
   rw [h5]
   show (s.replies ++ [repT 0 ((s.synced + 1 : Nat) : Int)])[6]? = _
   rw [List.getElem?_append_right (by omega), h7, h5]; rfl
theorem phantom_run0 (a b : UInt8) (n : Nat) (hn : n < 100) (k : UInt8) (hkn : k = UInt8.ofNat n) : let g := runR (phantomR a b k)
    g.replies.length = 7 ∧ ((¬ k < a ∧ ¬ b < k) → g.synced = 1 ∧ g.replies[6]? = some (repC 0 9)) ∧ (¬ (¬ k < a ∧ ¬ b < k) → g.synced = 2 ∧ g.replies[6]? = some (repT 0 2)) := by
 obtain ⟨h1, h2, h3, h4, h5, h6, h7, h8⟩ := ph_state a b k
 have hg : runR (phantomR a b k) = ((runR (phA a b k)).rc (.rq 0 6 rq0)).rc .sync := by
  unfold runR phantomR
  rw [List.foldl_append, List.foldl_cons, List.foldl_cons, List.foldl_nil]
 simp only
 rw [hg]
 exact ph_step hn hkn h1 h2 h3 h4 h5 h6 h7 h8
theorem phantom_run (a b : UInt8) (n : Nat) (hn : n < 100) : let k := u8of (n : Int); let g := runR (phantomR a b k)
    g.replies.length = 7 ∧ (((a.toNat : Int) ≤ k.toNat ∧ (k.toNat : Int) ≤ b.toNat) → g.synced = 1 ∧ g.replies[6]? = some (repC 0 9)) ∧ (¬ ((a.toNat : Int) ≤ k.toNat ∧ (k.toNat : Int) ≤ b.toNat) → g.synced = 2 ∧ g.replies[6]? = some (repT 0 2)) := by
 intro k g
 obtain ⟨h1, h2, h3⟩ := phantom_run0 a b n hn k (u8of_nat (by omega))
 have e : (¬ k < a ∧ ¬ b < k) ↔ ((a.toNat : Int) ≤ k.toNat ∧ (k.toNat : Int) ≤ b.toNat) := by
  rw [UInt8.lt_iff_toNat_lt, UInt8.lt_iff_toNat_lt]; omega
 exact ⟨h1, fun h => h2 (e.2 h), fun h => h3 (fun q => h (e.1 q))⟩
def queueA (n : Nat) : List Rc := (List.range n).flatMap fun i => [.rq (i % 8) 1 rq0, .rq (i % 8) 4 ⟨[97], [u8of ((i + 1 : Nat) : Int)], [], []⟩, .rq (i % 8) 6 rq0]
theorem queue_run (n : Nat) (hn : n < 10) : let g := runR (queueA n); let p := runR (queueA n ++ [.sync])
    g.waiting.length = min n 6 ∧ g.synced = 0 ∧ g.forest g.synced = [] ∧ g.replies.length = 2 * min n 6 + 3 * (n - min n 6) ∧ p.synced = min n 6 ∧ p.waiting.length = 0 := by
 have h : ((List.range 10).all fun n => let g := runR (queueA n); let p := runR (queueA n ++ [.sync]); g.waiting.length == min n 6 && g.synced == 0 && g.forest g.synced == [] && g.replies.length == 2 * min n 6 + 3 * (n - min n 6) && p.synced == min n 6 && p.waiting.length == 0) = true := by kernel_rfl
 have := List.all_eq_true.1 h n (List.mem_range.2 hn)
 simp only [Bool.and_eq_true, beq_iff_eq] at this
 exact ⟨this.1.1.1.1.1, this.1.1.1.1.2, this.1.1.1.2, this.1.1.2, this.1.2, this.2⟩
def goneA (n : Nat) : List Rc := .rq 3 1 rq0 :: (List.range n).flatMap fun i => [.rq 0 1 rq0, .rq 0 4 ⟨[97], [u8of ((i + 1 : Nat) : Int)], [], []⟩, .rq 0 6 rq0, .sync]
def goneR (n : Nat) : List Rc := goneA n ++ [.rq 3 2 ⟨[97], [1], [], []⟩, .rq 3 7 rq0]
theorem gone_run (n : Nat) (hn : n < 12) : let g := runR (goneR n)
    g.replies.length = 3 * n + 3 ∧ g.synced = n ∧ (g.replies[3 * n + 1]?.map fun a => (a.code, a.found, a.turn)) = some (if n < 6 then (0, false, 0) else (10, false, 0)) ∧ (g.replies[3 * n + 2]?.map (·.code)) = some (if n < 6 then 0 else 6) := by
 have h : ((List.range 12).all fun n => let g := runR (goneR n); g.replies.length == 3 * n + 3 && g.synced == n && (g.replies[3 * n + 1]?.map fun a => (a.code, a.found, a.turn)) == some (if n < 6 then (0, false, 0) else (10, false, 0)) && (g.replies[3 * n + 2]?.map (·.code)) == some (if n < 6 then 0 else 6)) = true := by kernel_rfl
 have := List.all_eq_true.1 h n (List.mem_range.2 hn)
 simp only [Bool.and_eq_true, beq_iff_eq] at this
 exact ⟨this.1.1.1, this.1.1.2, this.1.2, this.2⟩
section
variable {P : Program} {w0 w w' : World} {F0 F : Fz} {L : List Blk} {M : List RowP} {α : Type} {k E : Nat} {R : Fz → List Value → α → Prop} {hR : ∀ F F' x p, Le F F' → R F x p → R F' x p} {v : Value} {l : List α}
theorem St.drewd (S : St w0 F0 w F L M) : St w0 F0 w.drew F L M := S.tells (Below.refl _ _).drew
theorem stAppendN {ops : Array Oper} {Q : Exit → Act → World → Prop} {a : Act} {rest : List Oper} {d : Option Tmp} {t T : TypeId} {x s : Operand} {pos : String} {after : Array Edge} {guard : Option (Nat × Bool)}
    {u : Value} {m : List α} {ad : Option Addr} {n : Nat} (hR : ∀ F F' x p, Le F F' → R F x p → R F' x p) (S : St w0 F0 w F L M) (hw : Region.wanted ⟨d, .call ⟨.builtin .append, #[s, x], #[T, T]⟩, t, pos, after, guard⟩ (yielded ops a.tmps) = true)
    (inf : TypeInfo) (z : Value) (bytes : Nat) (ht : P.underlying T = some (.slice E)) (hi : P.info? E = some inf) (hz : inf.zero = some z) (hsize : inf.size = k) (hby : inf.bytes = bytes) (hzs : z.cells.size = k) (hsz : 0 < k)
    (hs : a.eval s = .slice ad n n) (hx : a.eval x = u) (hv : SlW w F k R (.slice ad n n) l) (hu : SlW w F k R u m)
    (hm : 0 < m.length) (h63 : l.length + m.length ≤ maxLen) (hbytes : (l.length + m.length) * bytes ≤ 140737488355328)
    (h : ∀ g cap w', St w0 F0 w' F L (ownP k R hR E w0.heap.size (.slice (some ⟨g, 0, none⟩) (l ++ m).length cap) (l ++ m) :: M) → WL P ops Q rest (a.put d (.slice (some ⟨g, 0, none⟩) (l ++ m).length cap)) w') : WL P ops Q (⟨d, .call ⟨.builtin .append, #[s, x], #[T, T]⟩, t, pos, after, guard⟩ :: rest) a w := by
 subst hsize
 subst hby
 obtain ⟨ol, od, oc, e0, q2, q3, q4, q5, q6, q7⟩ := hv
 injection e0 with e1 e2 e3
 subst e1 e2
 obtain ⟨nl, bd, c, rfl, p2, p3, p4, p5, p6, p7⟩ := hu
 have hol : ol.flatten.length = l.length * inf.size := by rw [flatten_len q6, q5.len]
 have hnl : nl.flatten.length = m.length * inf.size := by rw [flatten_len p6, p5.len]
 obtain ⟨b, o, rfl, hc⟩ : ∃ b o, bd = some ⟨b, o, none⟩ ∧ ∀ j u, nl.flatten[j]? = some u → w.cell? ⟨b, o + j, none⟩ = some u := by
  refine p7.resolve_left fun e => ?_
  rw [e] at hnl
  have := Nat.mul_pos hm hsz
  simp at hnl
  omega
 have hnews : ∀ j u, nl.flatten[j]? = some u → w.cell? ((⟨b, o, none⟩ : Addr).add j) = some u := fun j u hu => by rw [Addr.add_mid]; exact hc j u hu
 have h63' : ((l.length + m.length : Nat) : Int) ≤ 9223372036854775807 := by simp only [maxLen] at h63; omega
 have fin : ∀ (cap : Nat) (hcap : l.length + m.length ≤ cap ∧ cap ≤ maxLen), St w0 F0 (w.drew.alloc (.cells (ol.flatten.toArray ++ nl.flatten.toArray ++ Builtin.zeroCells z.cells (cap - (l.length + m.length))) E)) F L (ownP inf.size R hR E w0.heap.size (.slice (some ⟨w.heap.size, 0, none⟩) (l ++ m).length cap) (l ++ m) :: M) := by
  intro cap hcap
  have S2 := S.drewd.alloc (ol.flatten.toArray ++ nl.flatten.toArray ++ Builtin.zeroCells z.cells (cap - (l.length + m.length))) E
  have hzl : (Builtin.zeroCells z.cells (cap - (l.length + m.length))).toList.length = (cap - (l.length + m.length)) * inf.size := by rw [Array.length_toList, size_zeroCells, hzs]
  refine St.blkRow (el := ol ++ nl) S2 ?_ (q5.append p5) (fun y hy => ?_) ?_ ?_ hcap.2 ?_
  rw [List.flatten_append]
  have : (l ++ m).length * inf.size = (ol.flatten ++ nl.flatten).length := by rw [List.length_append, List.length_append, hol, hnl, Nat.add_mul]
  rw [this]
  simp only [Array.toList_append]
  rw [List.take_left']
  rfl
  rcases List.mem_append.1 hy with hy | hy
  exact q6 y hy
  exact p6 y hy
  simp only [Array.toList_append, List.length_append]
  rw [hzl, hol, hnl, ← Nat.add_mul, ← Nat.add_mul]
  congr 1
  omega
  rw [List.length_append]; omega
  exact S.gr.below.size
 have hlen : (l ++ m).length = l.length + m.length := List.length_append
 cases ad with
 | none =>
  obtain ⟨hl0, hn0⟩ := q4 rfl
  subst hl0
  have hrun := run_append_nil (P := P) (w := w) T t E inf z ht hi hz ⟨b, o, none⟩ m.length c nl.flatten hnl hnews hm (by simpa using h63') (by have := Nat.mul_le_mul_right inf.bytes (show m.length ≤ 0 + m.length by omega); simp at hbytes; omega)
  have hge := grownCap_ge w m.length 0 E
  have hcm := grownCap_le_maxLen w m.length 0 E (by simpa using h63)
  have := fin (grownCap w m.length 0 E) ⟨by simpa using hge, hcm⟩
  have e : ol.flatten = [] := List.eq_nil_of_length_eq_zero (by rw [hol]; simp)
  refine do_ hw _ ?_ (h _ _ _ this)
  simp only [execOp, resolve, invoke, builtin, Sem.run_bind, Sem.run_pure, Result.andThen_ok, List.map_toArray, List.map_cons, List.map_nil, hs, hx]
  simp only [List.length_nil]
  rw [hrun, e]
  simp
 | some ad =>
  have hold : ∀ j u, ol.flatten[j]? = some u → w.cell? (ad.add j) = some u := by
   intro j u hu
   rcases q7 with q7 | ⟨b', o', e, hc'⟩
   rw [q7] at hu; simp at hu
   cases e; rw [Addr.add_mid]; exact hc' j u hu
  have hrun := run_append_grow (P := P) (w := w) T t E inf z ht hi hz ad l.length l.length ol.flatten hol hold ⟨b, o, none⟩ m.length c nl.flatten hnl hnews (by omega) h63' (growslice_fits (by omega) hbytes)
  have hge := grownCap_ge w (l.length + m.length) l.length E
  have hcm := grownCap_le_maxLen w (l.length + m.length) l.length E h63
  have := fin (grownCap w (l.length + m.length) l.length E) ⟨hge, hcm⟩
  refine do_ hw _ ?_ (h _ _ _ this)
  simp only [execOp, resolve, invoke, builtin, Sem.run_bind, Sem.run_pure, Result.andThen_ok, List.map_toArray, List.map_cons, List.map_nil, hs, hx, hrun, hlen]
end
theorem bmap9 {ρ : Operand → Value} {x0 x1 x2 x3 x4 x5 x6 x7 x8 : Operand} {v0 v1 v2 v3 v4 v5 v6 v7 v8 : Value} {i0 i1 i2 i3 i4 i5 i6 i7 i8 : Nat} (h0 : ρ x0 = v0) (h1 : ρ x1 = v1) (h2 : ρ x2 = v2) (h3 : ρ x3 = v3) (h4 : ρ x4 = v4) (h5 : ρ x5 = v5) (h6 : ρ x6 = v6) (h7 : ρ x7 = v7) (h8 : ρ x8 = v8) : (#[(i0, x0), (i1, x1), (i2, x2), (i3, x3), (i4, x4), (i5, x5), (i6, x6), (i7, x7), (i8, x8)].map fun ((i, x) : Nat × Operand) => (i, ρ x)) = #[(i0, v0), (i1, v1), (i2, v2), (i3, v3), (i4, v4), (i5, v5), (i6, v6), (i7, v7), (i8, v8)] := by simp [h0, h1, h2, h3, h4, h5, h6, h7, h8]
theorem pick_nat (n m : Int) (h : 1 ≤ m) : ∃ k : Nat, pick n m = ((k : Nat) : Int) ∧ ((k : Nat) : Int) < m := by
 have := pick_bd n m h
 exact ⟨(pick n m).toNat, by omega, by omega⟩
theorem Picked_spec (n m : Int) (w : World) (h1 : -9223372036854775808 ≤ n) (h2 : n ≤ 9223372036854775807) (hm : 1 ≤ m) (hm2 : m ≤ 10000000) :
    Calls Tryz.prog 20 #[.int .i64 n, .int .i64 m] w (Tells w (.int .i64 (pick n m))) := by
 have S := St.start (Sat.whole w)
 go_enter Tryz.func20, Tryz.ntmps20
 refine sk fun K1 hK1 => ?_
 refine dy ?_
 refine wn hK1 ?_
 refine sk fun K2 hK2 => ?_
 iterate 2 refine dx ?_
 simp only [pq]
 refine stTells (v := (.int .i64 (pick n m))) S rfl (fn2 (ent_30 _ _)) (tells_same (picked_spec n m _ h1 h2 hm hm2)) (fun w3 S4 => ?_)
 refine dy ?_
 refine wn hK2 ?_
 refine wp_ret ?_
 try simp only [xt]
 refine bR (res_t rfl (gD rfl)) ?_
 exact ⟨rfl, S4.gr.below⟩
end Go.Proofs.YtilgpdpooildcaaGreatDoor
