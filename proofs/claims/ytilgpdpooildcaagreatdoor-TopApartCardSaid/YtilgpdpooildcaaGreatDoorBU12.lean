/- Rules, plain laws and walks: SV10 SV11 P17 SV12 TW P18 SV13 P19 P20 IN S11 SV14 -/
import Derived.Test.YtilgpdpooildcaaGreatDoorBU11
import Derived.Test.YtilgpdpooildcaaGreatDoorBU2
import Derived.Test.YtilgpdpooildcaaGreatDoorBU7
import Derived.Test.YtilgpdpooildcaaGreatDoorBU9
import Derived.Test.YtilgpdpooildcaaGreatDoorBU8
import Derived.Test.YtilgpdpooildcaaGreatDoorBU3
import Derived.Test.YtilgpdpooildcaaGreatDoorBU5
namespace Go.Proofs.YtilgpdpooildcaaGreatDoor
set_option maxHeartbeats 8000000
open Go.RowKit
set_option maxRecDepth 100000
set_option linter.unusedVariables false
set_option linter.unusedSimpArgs false
def AcC (F : Fz) (cs : List Value) (a : Ac) : Prop := ∃ x, cs = [.int .i64 ((a.kind : Nat) : Int), .int .i64 ((a.sess : Nat) : Int), .int .i64 ((a.keep : Nat) : Int), x] ∧ Bs F x a.data
theorem AcC.mono (F F' : Fz) (x : List Value) (p : Ac) (hl : Le F F') (h : AcC F x p) : AcC F' x p := by
 obtain ⟨v, e, h⟩ := h; exact ⟨v, e, h.mono hl⟩
theorem AcC.oneCell {F : Fz} {cs : List Value} {p : Ac} (h : AcC F cs p) : ∀ u ∈ cs, u.oneCell' = true := by
 obtain ⟨v, rfl, h⟩ := h
 intro u hu
 simp only [List.mem_cons, List.not_mem_nil, or_false] at hu
 rcases hu with rfl | rfl | rfl | rfl
 ·rfl
 ·rfl
 ·rfl
 ·exact h.oneCell
abbrev Acs (F : Fz) (v : Value) (l : List Ac) : Prop := Sl 4 AcC F v l
theorem Acs.mono {F F' : Fz} {v : Value} {l : List Ac} (h : Acs F v l) (hl : Le F F') : Acs F' v l := Sl.mono AcC.mono h hl
theorem made_nil : (madeCells (Value.slice none 0 0).cells (1 * 1)).toList = [Value.slice none 0 0] := by
 rw [show (Value.slice none 0 0).cells = #[.slice none 0 0] from rfl, toList_madeCells_one]; rfl
theorem Acs.get {F : Fz} {a : Option Addr} {n c : Nat} {l : List Ac} (h : Acs F (.slice a n c) l) {i : Nat} {p : Ac} (hp : l[i]? = some p) :
    ∃ b o, a = some ⟨b, o, none⟩ ∧ ∃ x y, cellF F b (o + i * 4) = some (.int .i64 ((p.kind : Nat) : Int)) ∧ cellF F b (o + i * 4 + 1) = some (.int .i64 ((p.sess : Nat) : Int)) ∧ cellF F b (o + i * 4 + 2) = some (.int .i64 ((p.keep : Nat) : Int)) ∧ cellF F b (o + i * 4 + 3) = some (.slice x p.data.length y) ∧ Bs F (.slice x p.data.length y) p.data := by
 obtain ⟨hi, rfl⟩ := List.getElem?_eq_some_iff.1 hp
 have hn := Sl.len h
 obtain ⟨b, o, e, h1⟩ := Sl.at h (by omega) (by omega)
 obtain ⟨cs, q1, ⟨a0, rfl, h0⟩, q3⟩ := h1 i hi
 obtain ⟨x, y, rfl, _⟩ := h0.shape
 exact ⟨b, o, e, x, y, by have := q3 0 (by simp); simpa [Nat.add_assoc] using this, by have := q3 1 (by simp); simpa [Nat.add_assoc] using this, by have := q3 2 (by simp); simpa [Nat.add_assoc] using this, by have := q3 3 (by simp); simpa [Nat.add_assoc] using this, h0⟩
/-- The walk of crash, as it is asked for. -/
def CrashS : Prop := ∀ (w0 : World) (F0 : Fz) (w : World) (F : Fz) (n : Nat) (g : Eng) (L : List Blk) {m : Nat} (k : Nat), EngM w0 F0 w F n g L → Tabs w0 → EngOk m g → m ≤ 149 → k ≤ 100000 →
    Calls Tryz.prog 70 #[.pointer (some ⟨n, 0, none⟩), .int .i64 ((k : Nat) : Int)] w (EngP w0 F0 F n (g.crash k) L)
theorem doAsk_eng (w0 : World) (F0 : Fz) (w : World) (F : Fz) (n : Nat) (g : Eng) (L : List Blk) {m : Nat} (hM : EngM w0 F0 w F n g L) (hh : Has w0) (hT : Tabs w0) (hg : EngOk m g) (hm : m ≤ 149) (hq : g.replies.length + g.waiting.length ≤ 100000) (s : Nat) (hs8 : s < 8) (b : By) {u : Value} (hu : Bs F u b) (hP : wdE b = 0 → (wdR b).1 = 8 → ProveS) :
    Calls Tryz.prog 52 #[.pointer (some ⟨n, 0, none⟩), .agg #[.int .i64 1, .int .i64 ((s : Nat) : Int), .int .i64 0, u]] w (EngP w0 F0 F n (g.ask s b) L) := by
 obtain ⟨da, dc, rfl, _⟩ := hu.shape
 obtain ⟨ad, cd, ac, cc, af, cf, aw, cw, ar, cr, pv, S, hd, ht⟩ := hM
 go_enter Tryz.func52, Tryz.ntmps52
 refine sk fun K4 hK4 => ?_
 refine stNew S (v := fun n => .pointer (aA n 0)) rfl (ex_box (v := (.agg #[(iI 1), (nI s), (iI 0), (.slice da b.length dc)])) rfl) (fun n5 w6 S7 => ?_)
 refine wn hK4 ?_
 refine sk fun K8 hK8 => ?_
 refine df (fa_33_0 _ _) ?_
 refine dl (nagg_3 _) S7 0 ?_
 refine wn hK8 ?_
 refine wp_block ?_
 refine sk fun K9 hK9 => ?_
 refine dr bT (ex_eql (b := true) rfl rfl (by decide)) ?_
 refine dy ?_
 simp only [pq]
 refine wn hK9 ?_
 refine wp_cond_true rfl ?_
 refine region_wl ?_
 refine dx ?_
 refine df (fa_33_1 _ _) ?_
 refine dl (nagg_3 _) S7 0 ?_
 simp only [pq]
 refine df (fa_33_3 _ _) ?_
 refine dl (nagg_25 _) S7 0 ?_
 simp only [pq]
 have S10 := St.perm S7 (List.perm_middle (l₁ := [_]))
 have hM11 : EngM _ _ _ _ n g _ := ⟨_, _, _, _, _, _, _, _, _, _, _, S10, hd, ht⟩
 refine doC rfl (fn3 (ent_68 _ _)) (ask_eng _ _ _ _ _ _ _ s hs8 _ b hM11 hh hT hg hm hu hP (by omega)) ?_
 rintro _ w12 ⟨rfl, F13, le14, hM15⟩
 refine ⟨_, rfl, ?_⟩
 obtain ⟨ad16, cd17, ac18, cc19, af20, cf21, aw22, cw23, ar24, cr25, pv26, S27, hd28, ht29⟩ := hM15
 refine wl_nil ?_
 (try simp only [Exit.then, Exit.inBlock, ↓reduceIte, Nat.reduceEqDiff])
 refine bE (res_ rfl) ?_
 have hM30 : EngM _ _ _ _ n (g.ask s b) _ := ⟨_, _, _, _, _, _, _, _, _, _, _, S27, hd28, ht29⟩
 exact ⟨rfl, _, le14, (hM30.drop (.cons _ (List.Sublist.refl _)))⟩
theorem doSync_eng (w0 : World) (F0 : Fz) (w : World) (F : Fz) (n : Nat) (g : Eng) (L : List Blk) {m : Nat} (hM : EngM w0 F0 w F n g L) (hh : Has w0) (hT : Tabs w0) (hg : EngOk m g) (hm : m ≤ 149) (hq : g.replies.length + g.waiting.length ≤ 100000) (u : Value) :
    Calls Tryz.prog 52 #[.pointer (some ⟨n, 0, none⟩), .agg #[.int .i64 2, .int .i64 0, .int .i64 0, u]] w (EngP w0 F0 F n g.sync L) := by
 obtain ⟨ad, cd, ac, cc, af, cf, aw, cw, ar, cr, pv, S, hd, ht⟩ := hM
 go_enter Tryz.func52, Tryz.ntmps52
 refine sk fun K4 hK4 => ?_
 refine stNew S (v := fun n => .pointer (aA n 0)) rfl (ex_box (v := (.agg #[(iI 2), (iI 0), (iI 0), u])) rfl) (fun n5 w6 S7 => ?_)
 refine wn hK4 ?_
 refine sk fun K8 hK8 => ?_
 refine df (fa_33_0 _ _) ?_
 refine dl (nagg_3 _) S7 0 ?_
 refine wn hK8 ?_
 refine wp_block ?_
 refine sk fun K9 hK9 => ?_
 refine dr bF (ex_eql (b := false) rfl rfl (by decide)) ?_
 refine dy ?_
 simp only [pq]
 refine wn hK9 ?_
 refine wp_cond_false rfl ?_
 refine sk fun K10 hK10 => ?_
 refine dr bT (ex_eql (b := true) rfl rfl (by decide)) ?_
 refine dy ?_
 refine wn hK10 ?_
 refine wp_cond_true rfl ?_
 refine region_wl ?_
 refine dx ?_
 simp only [pq]
 have S11 := St.perm S7 (List.perm_middle (l₁ := [_]))
 have hM12 : EngM _ _ _ _ n g _ := ⟨_, _, _, _, _, _, _, _, _, _, _, S11, hd, ht⟩
 refine doC rfl (fn1 (ent_69 _ _)) (sync_eng _ _ _ _ _ _ _ hM12 hg hm hq) ?_
 rintro _ w13 ⟨rfl, F14, le15, hM16⟩
 refine ⟨_, rfl, ?_⟩
 obtain ⟨ad17, cd18, ac19, cc20, af21, cf22, aw23, cw24, ar25, cr26, pv27, S28, hd29, ht30⟩ := hM16
 refine wl_nil ?_
 (try simp only [Exit.then, Exit.inBlock, ↓reduceIte, Nat.reduceEqDiff])
 refine bE (res_ rfl) ?_
 have hM31 : EngM _ _ _ _ n g.sync _ := ⟨_, _, _, _, _, _, _, _, _, _, _, S28, hd29, ht30⟩
 exact ⟨rfl, _, le15, (hM31.drop (.cons _ (List.Sublist.refl _)))⟩
theorem doCrash_eng (w0 : World) (F0 : Fz) (w : World) (F : Fz) (n : Nat) (g : Eng) (L : List Blk) {m : Nat} (hM : EngM w0 F0 w F n g L) (hh : Has w0) (hT : Tabs w0) (hg : EngOk m g) (hm : m ≤ 149) (hq : g.replies.length + g.waiting.length ≤ 100000) (u : Value) (k : Nat) (hk : k ≤ 100000) (hC : CrashS) :
    Calls Tryz.prog 52 #[.pointer (some ⟨n, 0, none⟩), .agg #[.int .i64 3, .int .i64 0, .int .i64 ((k : Nat) : Int), u]] w (EngP w0 F0 F n (g.crash k) L) := by
 obtain ⟨ad, cd, ac, cc, af, cf, aw, cw, ar, cr, pv, S, hd, ht⟩ := hM
 go_enter Tryz.func52, Tryz.ntmps52
 refine sk fun K4 hK4 => ?_
 refine stNew S (v := fun n => .pointer (aA n 0)) rfl (ex_box (v := (.agg #[(iI 3), (iI 0), (nI k), u])) rfl) (fun n5 w6 S7 => ?_)
 refine wn hK4 ?_
 refine sk fun K8 hK8 => ?_
 refine df (fa_33_0 _ _) ?_
 refine dl (nagg_3 _) S7 0 ?_
 refine wn hK8 ?_
 refine wp_block ?_
 refine sk fun K9 hK9 => ?_
 refine dr bF (ex_eql (b := false) rfl rfl (by decide)) ?_
 refine dy ?_
 simp only [pq]
 refine wn hK9 ?_
 refine wp_cond_false rfl ?_
 refine sk fun K10 hK10 => ?_
 refine dr bF (ex_eql (b := false) rfl rfl (by decide)) ?_
 refine dy ?_
 refine wn hK10 ?_
 refine wp_cond_false rfl ?_
 refine sk fun K11 hK11 => ?_
 refine dr bT (ex_eql (b := true) rfl rfl (by decide)) ?_
 refine dy ?_
 simp only [pq]
 refine wn hK11 ?_
 refine wp_cond_true rfl ?_
 refine region_wl ?_
 refine dx ?_
 refine df (fa_33_2 _ _) ?_
 refine dl (nagg_3 _) S7 0 ?_
 simp only [pq]
 have S12 := St.perm S7 (List.perm_middle (l₁ := [_]))
 have hM13 : EngM _ _ _ _ n g _ := ⟨_, _, _, _, _, _, _, _, _, _, _, S12, hd, ht⟩
 refine doC rfl (fn2 (ent_70 _ _)) (hC _ _ _ _ _ _ _ k hM13 hT hg hm hk) ?_
 rintro _ w14 ⟨rfl, F15, le16, hM17⟩
 refine ⟨_, rfl, ?_⟩
 obtain ⟨ad18, cd19, ac20, cc21, af22, cf23, aw24, cw25, ar26, cr27, pv28, S29, hd30, ht31⟩ := hM17
 refine wl_nil ?_
 (try simp only [Exit.then, Exit.inBlock, ↓reduceIte, Nat.reduceEqDiff])
 refine bE (res_ rfl) ?_
 have hM32 : EngM _ _ _ _ n (g.crash k) _ := ⟨_, _, _, _, _, _, _, _, _, _, _, S29, hd30, ht31⟩
 exact ⟨rfl, _, le16, (hM32.drop (.cons _ (List.Sublist.refl _)))⟩
theorem doStart_eng (w0 : World) (F0 : Fz) (w : World) (F : Fz) (n : Nat) (g : Eng) (L : List Blk) {m : Nat} (hM : EngM w0 F0 w F n g L) (hh : Has w0) (hT : Tabs w0) (hg : EngOk m g) (hm : m ≤ 149) (hq : g.replies.length + g.waiting.length ≤ 100000) (u : Value) :
    Calls Tryz.prog 52 #[.pointer (some ⟨n, 0, none⟩), .agg #[.int .i64 4, .int .i64 0, .int .i64 0, u]] w (EngP w0 F0 F n g.start L) := by
 obtain ⟨ad, cd, ac, cc, af, cf, aw, cw, ar, cr, pv, S, hd, ht⟩ := hM
 go_enter Tryz.func52, Tryz.ntmps52
 refine sk fun K4 hK4 => ?_
 refine stNew S (v := fun n => .pointer (aA n 0)) rfl (ex_box (v := (.agg #[(iI 4), (iI 0), (iI 0), u])) rfl) (fun n5 w6 S7 => ?_)
 refine wn hK4 ?_
 refine sk fun K8 hK8 => ?_
 refine df (fa_33_0 _ _) ?_
 refine dl (nagg_3 _) S7 0 ?_
 refine wn hK8 ?_
 refine wp_block ?_
 refine sk fun K9 hK9 => ?_
 refine dr bF (ex_eql (b := false) rfl rfl (by decide)) ?_
 refine dy ?_
 simp only [pq]
 refine wn hK9 ?_
 refine wp_cond_false rfl ?_
 refine sk fun K10 hK10 => ?_
 refine dr bF (ex_eql (b := false) rfl rfl (by decide)) ?_
 refine dy ?_
 refine wn hK10 ?_
 refine wp_cond_false rfl ?_
 refine sk fun K11 hK11 => ?_
 refine dr bF (ex_eql (b := false) rfl rfl (by decide)) ?_
 refine dy ?_
 simp only [pq]
 refine wn hK11 ?_
 refine wp_cond_false rfl ?_
 refine region_wl ?_
 refine dx ?_
 refine di ?_
 refine df (fa_115_0 _ _) ?_
 simp only [pq]
 refine sW 1 S7 (size_4) fun w12 S13 => ?_
 refine wl_nil ?_
 (try simp only [Exit.then, Exit.inBlock, ↓reduceIte, Nat.reduceEqDiff])
 refine bE (res_ rfl) ?_
 have S14 := St.perm S13 (List.perm_middle (l₁ := [_]))
 have hM15 : EngM _ _ _ _ n g.start _ := ⟨_, _, _, _, _, _, _, _, _, _, _, S14, hd, ht⟩
 exact ⟨rfl, _, Le.refl _, (hM15.drop (.cons _ (List.Sublist.refl _)))⟩
theorem do_eng (w0 : World) (F0 : Fz) (w : World) (F : Fz) (n : Nat) (g : Eng) (L : List Blk) {m : Nat} (hM : EngM w0 F0 w F n g L) (hh : Has w0) (hT : Tabs w0) (hg : EngOk m g) (hm : m ≤ 149) (hq : g.replies.length + g.waiting.length ≤ 100000) {a : Ac} (ha : AcOk a) {u : Value} (hu : Bs F u a.data) (hP : isP a = true → ProveS) (hK : isK a = true → CrashS) :
    Calls Tryz.prog 52 #[.pointer (some ⟨n, 0, none⟩), .agg #[.int .i64 ((a.kind : Nat) : Int), .int .i64 ((a.sess : Nat) : Int), .int .i64 ((a.keep : Nat) : Int), u]] w (EngP w0 F0 F n (g.act a) L) := by
 cases a with
 | ask s b => exact doAsk_eng _ _ _ _ _ _ _ hM hh hT hg hm hq s ha.1 b hu (fun h1 h2 => hP (by unfold isP; simp [h1, h2]))
 | sync => exact doSync_eng _ _ _ _ _ _ _ hM hh hT hg hm hq u
 | crash k => exact doCrash_eng _ _ _ _ _ _ _ hM hh hT hg hm hq u k ha (hK rfl)
 | start => exact doStart_eng _ _ _ _ _ _ _ hM hh hT hg hm hq u
theorem eng_start {w0 w : World} {F0 F : Fz} {n k : Nat} {L : List Blk} (S : St w0 F0 w F (⟨n, engC true (.slice none 0 0) 0 (.slice none 0 0) (.slice (some ⟨k, 0, none⟩) 1 1) 0 (fun _ => .pointer none) (fun _ => false) (.slice none 0 0) (.slice none 0 0), 115⟩ :: ⟨k, [.slice none 0 0], 24⟩ :: L) []) : EngM w0 F0 w F n eng0 L := by
 have hb := (S.blk ⟨k, [.slice none 0 0], 24⟩ (by simp)).2.2
 have S1 := S.perm (List.Perm.swap _ _ _)
 have S2 := St.blkRow (k := 1) (cap := 1) (hR := FoC.mono) (base := w0.heap.size) (l := [([] : Forest)]) (el := [[.slice none 0 0]]) S1 rfl ⟨⟨_, rfl, Sl.nil _ _ _⟩, trivial⟩ (by simp) rfl (by simp) (by unfold maxLen; decide) hb
 have S3 := ((S2.addNil 2 CmC CmC.mono 168 w0.heap.size).addNil 1 NtC NtC.mono 3 w0.heap.size).addNil 15 RpC RpC.mono 54 w0.heap.size
 have S4 := S3.permR (M' := engR w0.heap.size (.slice none 0 0) [] (.slice (some ⟨k, 0, none⟩) 1 1) [[]] (.slice none 0 0) [] (.slice none 0 0) []) (by
  refine (List.perm_middle (l₁ := [_, _]) (l₂ := [_])).trans ?_
  refine List.Perm.cons _ ?_
  exact (List.perm_middle (l₁ := [_, _]) (l₂ := [])).trans (List.Perm.cons _ (List.Perm.swap _ _ _)))
 exact ⟨_, _, _, _, _, _, _, _, _, _, fun _ => .pointer none, S4, Bs.nil _, fun _ _ => rfl⟩
/-- What comes of a script. -/
def OutV (F : Fz) (u : Value) (g : Eng) : Prop := ∃ a c b d, u = .agg #[.bool g.up, .int .i64 ((g.synced : Nat) : Int), .int .i64 ((g.waiting.length : Nat) : Int), .slice a (g.forest g.synced).length c, .slice b g.replies.length d] ∧ Tns F (.slice a (g.forest g.synced).length c) (g.forest g.synced) ∧ Rps F (.slice b g.replies.length d) g.replies
def RunV (g : Eng) (F : Fz) (u : Value) : Prop := ∃ x, u = .tuple #[x, .int .i64 0] ∧ OutV F x g
theorem run_spec (F : Fz) (w : World) (v : Value) (l : List Ac) (hs : Sat w F) (hh : Has w) (hT : Tabs w) (hv : Acs F v l) (hok : ∀ a ∈ l, AcOk a) (hc : countC l ≤ 149) (hlen : l.length ≤ 100000) (hP : ∀ a ∈ l, isP a = true → ProveS) (hK : ∀ a ∈ l, isK a = true → CrashS) :
    Calls Tryz.prog 35 #[v] w (Gives w F (RunV (runE l))) := by
 obtain ⟨a, c, rfl, hc1, hc2⟩ := Sl.shape hv
 unfold maxLen at hc2
 obtain ⟨i24, hi24, hz24, hs24, hb24⟩ := info_parts info_24
 have S := St.start hs
 go_enter Tryz.func35, Tryz.ntmps35
 refine sk fun K1 hK1 => ?_
 refine sA S (zero_43 _) fun n2 w3 S4 => ?_
 refine dy ?_
 refine wn hK1 ?_
 refine wp_seq_k (fun K5 hK5 => ?_)
 refine sk fun K6 hK6 => ?_
 refine dx ?_
 refine dn Tryz.underlying23 ?_
 refine gtrF ?_
 simp only [pq]
 refine wn hK6 ?_
 refine wp_cond_false rfl ?_
 refine wp_skip ?_
 refine hK5 _ _ ?_
 refine wp_seq_k (fun K7 hK7 => ?_)
 refine sk fun K8 hK8 => ?_
 refine dx ?_
 refine dn Tryz.underlying23 ?_
 refine dx ?_
 simp only [pq]
 refine wn hK8 ?_
 refine wp_block ?_
 refine wp_loop_g (fun mm aa w11 => ∃ (i : Nat) (F9 : Fz) (u10 : Nat → Value), mm = l.length - i ∧ u10 = slots aa ∧ aa = ⟨#[(.slice a l.length c), undef, (pP n2 0), (u10 3), undef, (u10 5), (u10 6), undef, undef, undef, undef, undef, (.slice a l.length c), (nI l.length), bF, undef, (.slice a l.length c), (nI l.length), (nI i), (u10 19), (u10 20), (u10 21), (u10 22), (u10 23), (u10 24), (u10 25), (u10 26), (u10 27), (u10 28), undef, undef, undef, undef, undef, undef, undef, undef, undef, undef, undef, undef, undef, undef, undef, undef, undef, undef, undef, undef, undef, undef, undef, undef, undef, undef, undef, undef, undef, undef, undef, undef, undef, undef, undef, undef, undef, undef, undef, undef, undef, undef, undef, undef, undef, undef], []⟩ ∧ St w F w11 F9 [⟨n2, [bF, (iI 0), (iI 0), Zn, Zn], 43⟩] [] ∧ Le F F9 ∧ (i ≤ l.length)) _ ⟨0, F, _, rfl, rfl, rfl, S4, Le.refl _, (by omega)⟩ ?_
 rintro m12 a13 w14 ⟨i, F9, u10, rfl, -, rfl, S15, le16, hi⟩ K17 hK17
 refine sk fun K18 hK18 => ?_
 by_cases hc19 : i < l.length
 refine lssT ?_
 refine wn hK18 ?_
 refine wp_seq_k (fun K19 hK19 => ?_)
 refine wp_cond_true rfl ?_
 refine wp_skip ?_
 refine hK19 _ _ ?_
 refine wp_seq_k (fun K20 hK20 => ?_)
 refine wp_block ?_
 refine wp_seq_k (fun K21 hK21 => ?_)
 obtain ⟨p, hp⟩ : ∃ p, l[i]? = some p := ⟨l[i], List.getElem?_eq_getElem hc19⟩
 have hpo := hok p (List.mem_of_getElem? hp)
 obtain ⟨b22, o23, ha24, xa29, xc30, c25, c26, c27, c28, r31⟩ := Acs.get (hv.mono le16) hp
 have hpo2 : p.data.length ≤ 4000 := by cases p <;> first | exact hpo.2 | exact Nat.zero_le _
 refine region_wl ?_
 refine dr (pP b22 (o23 + i * 4)) (ex_at (i := i) (sz := 4) Tryz.underlying23 (sizeof_33 _) rfl ha24 rfl (by omega) rfl) ?_
 refine dr _ (ex_load rfl (loadM Tryz.underlying33 rfl (size_33) (range4 (St.fz S15 c25) (St.fz S15 c26) (St.fz S15 c27) (St.fz S15 c28)))) ?_
 simp only [pq]
 refine sA S15 (zero_33 _) fun n32 w33 S34 => ?_
 refine sW 0 S34 (size_33) fun w35 S36 => ?_
 refine wl_nil (hK21 _ _ ?_)
 refine sk fun K37 hK37 => ?_
 refine dR S36 0 Tryz.underlying33 (size_33) ?_
 simp only [pq]
 refine stTells (v := (iI 0)) S36 rfl (fn1 (ent_51 _ _)) (actN_ok hpo ▸ actCheck_spec _ _ _ _ _ _ _ (by have := hpo2; omega)) (fun w38 S39 => ?_)
 refine dy ?_
 refine wn hK37 ?_
 refine sk fun K40 hK40 => ?_
 refine dx ?_
 refine dr bF (ex_neq (m := (0 : Int)) (n := (0 : Int)) (b := false) rfl rfl (bne_eq_false_iff_eq.2 (by simp))) ?_
 simp only [pq]
 refine wn hK40 ?_
 refine wp_cond_false rfl ?_
 refine wp_skip ?_
 refine hK20 _ _ ?_
 refine region_wl ?_
 refine dAdd (i + 1) ?_
 refine dx ?_
 refine wl_nil ?_
 have S39 := St.drop S39 (.cons _ (List.Sublist.refl _))
 exact hK17 _ _ _ (by omega) ⟨(i + 1), F9, _, rfl, rfl, rfl, S39, le16, (by omega)⟩
 refine lssF ?_
 simp only [pq]
 refine wn hK18 ?_
 refine wp_seq_k (fun K41 hK41 => ?_)
 refine wp_cond_false rfl ?_
 refine wp_exit ?_
 refine hK7 _ _ ?_
 refine sk fun K42 hK42 => ?_
 refine stMake (k := 1) (n := 1) (m := 1) S15 rfl i24 Zn 24 Tryz.underlying106 hi24 hz24 hs24 hb24 rfl rfl (by omega) (by omega) (by omega) ?_
 intro g43 w44 S45
 rw [made_nil] at S45
 refine dr (.agg #[bT, Zn, (iI 0), Zn, (.slice (aA g43 0) 1 1), (iI 0), (.pointer none), bF, (.pointer none), bF, (.pointer none), bF, (.pointer none), bF, (.pointer none), bF, (.pointer none), bF, (.pointer none), bF, (.pointer none), bF, Zn, Zn]) (ex_build (bmap2 rfl rfl) (by kernel_rfl)) ?_
 refine stNew S45 (v := fun n => .pointer (aA n 0)) rfl (ex_box (v := (.agg #[bT, Zn, (iI 0), Zn, (.slice (aA g43 0) 1 1), (iI 0), (.pointer none), bF, (.pointer none), bF, (.pointer none), bF, (.pointer none), bF, (.pointer none), bF, (.pointer none), bF, (.pointer none), bF, (.pointer none), bF, Zn, Zn])) rfl) (fun n46 w47 S48 => ?_)
 simp only [pq]
 refine dy ?_
 refine wn hK42 ?_
 refine wp_seq_k (fun K49 hK49 => ?_)
 refine sk fun K50 hK50 => ?_
 refine dx ?_
 refine dn Tryz.underlying23 ?_
 refine dx ?_
 simp only [pq]
 refine wn hK50 ?_
 refine wp_block ?_
 have hM51 := eng_start S48
 obtain ⟨ad52, cd53, ac54, cc55, af56, cf57, aw58, cw59, ar60, cr61, pv62, S63, hd64, ht65⟩ := hM51
 have hM69 : EngM _ _ _ _ n46 (runE (l.take 0)) _ := ⟨_, _, _, _, _, _, _, _, _, _, _, S63, hd64, ht65⟩
 refine wp_loop_g (fun mm aa w68 => ∃ (j : Nat) (F66 : Fz) (u67 : Nat → Value), mm = l.length - j ∧ u67 = slots aa ∧ aa = ⟨#[(.slice a l.length c), undef, (pP n2 0), (u10 3), undef, (u10 5), (u10 6), (pP n46 0), undef, (u67 9), undef, undef, (.slice a l.length c), (nI l.length), bF, undef, (.slice a l.length c), (nI l.length), (nI i), bF, (u10 20), (u10 21), (u10 22), (u10 23), (u10 24), (u10 25), (u10 26), (u10 27), (u10 28), (.slice (aA g43 0) 1 1), (.agg #[bT, Zn, (iI 0), Zn, (.slice (aA g43 0) 1 1), (iI 0), (.pointer none), bF, (.pointer none), bF, (.pointer none), bF, (.pointer none), bF, (.pointer none), bF, (.pointer none), bF, (.pointer none), bF, (.pointer none), bF, Zn, Zn]), (pP n46 0), (.slice a l.length c), (nI l.length), (nI j), (u67 35), (u67 36), (u67 37), (u67 38), (u67 39), (u67 40), (u67 41), undef, undef, undef, undef, undef, undef, undef, undef, undef, undef, undef, undef, undef, undef, undef, undef, undef, undef, undef, undef, undef, undef, undef, undef, undef, undef, undef, undef, undef, undef, undef, undef, undef], []⟩ ∧ EngM w F w68 F66 n46 (runE (l.take j)) [⟨n2, [bF, (iI 0), (iI 0), Zn, Zn], 43⟩] ∧ Le F9 F66 ∧ (j ≤ l.length)) _ ⟨0, _, _, rfl, rfl, rfl, hM69, Le.refl _, (by omega)⟩ ?_
 rintro m70 a71 w72 ⟨j, F66, u67, rfl, -, rfl, hM75, le73, hj⟩ K74 hK74
 obtain ⟨ad76, cd77, ac78, cc79, af80, cf81, aw82, cw83, ar84, cr85, pv86, S87, hd88, ht89⟩ := hM75
 refine sk fun K90 hK90 => ?_
 by_cases hc35 : j < l.length
 refine lssT ?_
 refine wn hK90 ?_
 refine wp_seq_k (fun K91 hK91 => ?_)
 refine wp_cond_true rfl ?_
 refine wp_skip ?_
 refine hK91 _ _ ?_
 refine wp_seq_k (fun K92 hK92 => ?_)
 refine wp_block ?_
 refine wp_seq_k (fun K93 hK93 => ?_)
 obtain ⟨p, hp⟩ : ∃ p, l[j]? = some p := ⟨l[j], List.getElem?_eq_getElem hc35⟩
 have hpo := hok p (List.mem_of_getElem? hp)
 obtain ⟨b94, o95, ha96, xa101, xc102, c97, c98, c99, c100, r103⟩ := Acs.get (hv.mono (le16.trans le73)) hp
 have hgi := run_take_ok hc hok j
 have hri := run_take_room l j hlen
 refine region_wl ?_
 refine dr (pP b94 (o95 + j * 4)) (ex_at (i := j) (sz := 4) Tryz.underlying23 (sizeof_33 _) rfl ha96 rfl (by omega) rfl) ?_
 refine dr _ (ex_load rfl (loadM Tryz.underlying33 rfl (size_33) (range4 (St.fz S87 c97) (St.fz S87 c98) (St.fz S87 c99) (St.fz S87 c100)))) ?_
 simp only [pq]
 refine sA S87 (zero_33 _) fun n104 w105 S106 => ?_
 refine sW 0 S106 (size_33) fun w107 S108 => ?_
 refine wl_nil (hK93 _ _ ?_)
 refine region_wl ?_
 refine dx ?_
 refine dR S108 0 Tryz.underlying33 (size_33) ?_
 simp only [pq]
 have S109 := St.perm S108 (List.perm_middle (l₁ := [_]))
 have hM110 : EngM _ _ _ _ n46 (runE (l.take j)) _ := ⟨_, _, _, _, _, _, _, _, _, _, _, S109, hd88, ht89⟩
 refine doC rfl (fn2 (ent_52 _ _)) (do_eng _ _ _ _ _ _ _ hM110 hh hT hgi.1 hgi.2 hri hpo (u := (.slice xa101 p.data.length xc102)) r103 (hP p (List.mem_of_getElem? hp)) (hK p (List.mem_of_getElem? hp))) ?_
 rintro _ w111 ⟨rfl, F112, le113, hM114⟩
 refine ⟨_, rfl, ?_⟩
 obtain ⟨ad115, cd116, ac117, cc118, af119, cf120, aw121, cw122, ar123, cr124, pv125, S126, hd127, ht128⟩ := hM114
 refine wl_nil (hK92 _ _ ?_)
 refine region_wl ?_
 refine dAdd (j + 1) ?_
 refine dx ?_
 refine wl_nil ?_
 have hM129 : EngM _ _ _ _ n46 ((runE (l.take j)).act p) _ := ⟨_, _, _, _, _, _, _, _, _, _, _, S126, hd127, ht128⟩
 have hM130 := hM129.drop (.cons _ (List.Sublist.refl _))
 rw [(show (runE (l.take j)).act p = runE (l.take (j + 1)) from (runE_take hp).symm)] at hM130
 exact hK74 _ _ _ (by omega) ⟨(j + 1), _, _, rfl, rfl, rfl, hM130, (le73.trans le113), (by omega)⟩
 refine lssF ?_
 simp only [pq]
 refine wn hK90 ?_
 refine wp_seq_k (fun K131 hK131 => ?_)
 refine wp_cond_false rfl ?_
 refine wp_exit ?_
 refine hK49 _ _ ?_
 refine wp_seq_k (fun K132 hK132 => ?_)
 have hil : l.take j = l := List.take_of_length_le (by omega)
 have hM133 : EngM _ _ _ _ n46 (runE (l.take j)) _ := ⟨_, _, _, _, _, _, _, _, _, _, _, S87, hd88, ht89⟩
 rw [hil] at hM133
 obtain ⟨ad134, cd135, ac136, cc137, af138, cf139, aw140, cw141, ar142, cr143, pv144, S145, hd146, ht147⟩ := hM133
 have hge := run_ok (l := l) (by omega) hok
 have hsy := hge.sync
 have hst := hge.states
 have hsl : (runE l).synced ≤ (runE l).commits.length := by omega
 have hfa := forest_at hge hsl
 have hfo := forest_ok hge hsl
 obtain ⟨g148, ha149, xa150, xc151, c152, r153⟩ := fo_at (S145.own (i := 1) rfl) hfa
 refine region_gw F66 15 [(10, .made (fun F' u => TnsE ((runE l).forest (runE l).synced) 0 F' u)), (12, .made (fun F' u => Tns F' u ((runE l).forest (runE l).synced))), (13, .is (iI 0))] (by kernel_rfl) (by kernel_rfl) ?_
 simp only [List.take_succ_cons, List.take_zero]
 refine gm ?_
 refine gi ?_
 refine gf (fa_115_3 _ _) ?_
 simp only [pq]
 refine gl nagg_106 S145 0 ?_
 refine gm ?_
 refine gi ?_
 simp only [pq]
 refine gf (fa_115_4 _ _) ?_
 refine gl nagg_3 S145 0 ?_
 refine gv (pP g148 (0 + ((runE l).synced) * 1)) (fun _ _ => ex_at (i := (runE l).synced) (sz := 1) Tryz.underlying106 (sizeof_24 _) rfl ha149 rfl (by omega) rfl) ?_
 simp only [pq]
 refine gv _ (fun _ C154 => ex_load rfl (load1 (nagg_24 _) (cell_kept C154 c152))) ?_
 simp only [pq]
 refine gw_rel rfl rfl (fun w154 C154 hF => does_call (ex_fn (vs := #[(.slice xa150 ((runE l).forest (runE l).synced).length xc151), Zn]) (map2 rfl rfl) rfl (ent_22 _ _)) (call_made S145.sat C154 (apply_is ((St.tells S145 C154)).sat r153 (Sl.nil _ _ _) hfo (by simp) (show applyE ((runE l).forest (runE l).synced) [] = (0, ((runE l).forest (runE l).synced)) from rfl)))) (fun v155 => ?_)
 refine gm ?_
 simp only [pq]
 refine gw_rel rfl rfl (fun w154 C154 hF_ => ?_) (fun v160 => ?_)
 obtain ⟨F156, g157, _, rfl, hx159⟩ := hF_.get 10 (by kernel_rfl) rfl rfl
 exact does_val (ex_extract rfl rfl) ⟨F156, g157, hx159⟩ (Below.refl _ _)
 simp only [pq]
 refine gw_const rfl rfl (v := (iI 0)) (fun w154 C154 hF_ => ?_) ?_
 obtain ⟨F161, g162, _, rfl, hx164⟩ := hF_.get 10 (by kernel_rfl) rfl rfl
 exact does_is (ex_extract rfl rfl)
 refine ga ?_
 refine gw_nil ?_
 intro w165 hC167 hF168
 obtain ⟨F169, g170, R171⟩ := hF168.get 12 rfl rfl
 have S166 := St.gives S145 g170
 have le173 : Le _ _ := g170.le S145.sat
 have R174 := R171
 generalize F169 = F172 at *
 obtain ⟨a175, c176, rfl, h177, h178⟩ := Sl.shape R174
 have R174 : Tns _ (.slice a175 ((runE l).forest (runE l).synced).length c176) ((runE l).forest (runE l).synced) := R174
 clear hF168
 simp only [List.drop_succ_cons, List.drop_zero]
 refine dy ?_
 simp only [pq]
 refine wl_nil (hK132 _ _ ?_)
 refine wp_seq_k (fun K179 hK179 => ?_)
 refine region_gw F172 18 [] (by kernel_rfl) (by kernel_rfl) ?_
 simp only [List.take_succ_cons, List.take_zero]
 refine gm ?_
 refine gi ?_
 refine gf (fa_115_0 _ _) ?_
 simp only [pq]
 refine gl nagg_4 S166 0 ?_
 refine gm ?_
 refine gi ?_
 simp only [pq]
 refine gf (fa_115_4 _ _) ?_
 refine gl nagg_3 S166 0 ?_
 refine gm ?_
 simp only [pq]
 refine gi ?_
 refine gf (fa_115_6 _ _) ?_
 refine gl nagg_60 S166 0 ?_
 simp only [pq]
 refine gv (.int .i64 (((runE l).waiting.length : Nat) : Int)) (fun _ _ => ex_len Tryz.underlying60 rfl) ?_
 iterate 2 refine gm ?_
 simp only [pq]
 refine gi ?_
 refine gf (fa_115_7 _ _) ?_
 refine gl nagg_41 S166 0 ?_
 simp only [pq]
 refine gw_nil ?_
 intro w181 hC183 hF184
 clear hF184
 have S182 := St.tells S166 hC183
 simp only [List.drop_succ_cons, List.drop_zero]
 refine dr (.agg #[(.bool (runE l).up), (.int .i64 (((runE l).synced : Nat) : Int)), (.int .i64 (((runE l).waiting.length : Nat) : Int)), (.slice a175 ((runE l).forest (runE l).synced).length c176), (.slice ar142 (runE l).replies.length cr143)]) (ex_build (bmap5 rfl rfl rfl rfl rfl) (by kernel_rfl)) ?_
 refine sW 1 S182 (size_43) fun w185 S186 => ?_
 refine dy ?_
 simp only [pq]
 refine wl_nil (hK179 _ _ ?_)
 refine wp_ret ?_
 (try simp only [Exit.then, Exit.inBlock, ↓reduceIte, Nat.reduceEqDiff])
 refine bR (res_ct rfl ⟨_, rfl, lR S186 1 Tryz.underlying43 (size_43)⟩ (gD rfl)) ?_
 obtain ⟨F187, S188, le189, hv190⟩ := St.freeze S186 (i := 3) rfl (Nat.le_refl _)
 have hv190 : Rps _ (.slice ar142 (runE l).replies.length cr143) ((runE l).replies) := hv190
 exact ⟨_, _, rfl, S188.gr, _, rfl, _, _, _, _, rfl, (R174.mono le189), hv190⟩
def AcV (F : Fz) (u : Value) (a : Ac) : Prop := ∃ x y, u = .agg #[.int .i64 ((a.kind : Nat) : Int), .int .i64 ((a.sess : Nat) : Int), .int .i64 ((a.keep : Nat) : Int), .slice x a.data.length y] ∧ Bs F (.slice x a.data.length y) a.data
def RanV (g : Eng) (F : Fz) (u : Value) : Prop := ∃ x, u = .tuple #[x, .bool true] ∧ OutV F x g
theorem Rps.mono {F F' : Fz} {v : Value} {l : List Rep} (h : Rps F v l) (hl : Le F F') : Rps F' v l := Sl.mono RpC.mono h hl
theorem AcC.one (F : Fz) (cs : List Value) (p : Ac) (h : AcC F cs p) : ∀ u ∈ cs, u.oneCell' = true := h.oneCell
theorem topAsk_spec (F : Fz) (w : World) (u : Value) (s k : Nat) (r : Rq) (hs : Sat w F) (hh : Has w) (hv : ReqV F u k r.name r.key r.last r.value) (ok : RqOk k r) :
    Calls Tryz.prog 21 #[.int .i64 ((s : Nat) : Int), u] w (Gives w F fun F' u => AcV F' u (.ask s (encQ k r))) := by
 obtain ⟨_, _, _, _, rfl, q0, q1, q2, q3⟩ := hv
 obtain ⟨a0, c0, rfl, _⟩ := q0.shape
 obtain ⟨a1, c1, rfl, _⟩ := q1.shape
 obtain ⟨a2, c2, rfl, _⟩ := q2.shape
 obtain ⟨a3, c3, rfl, _⟩ := q3.shape
 have S := St.start hs
 go_enter Tryz.func21, Tryz.ntmps21
 refine sk fun K1 hK1 => ?_
 refine stNew S (v := fun n => .pointer (aA n 0)) rfl (ex_box (v := (.agg #[(nI k), (.slice a0 r.name.length c0), (.slice a1 r.key.length c1), (.slice a2 r.last.length c2), (.slice a3 r.value.length c3)])) rfl) (fun n2 w3 S4 => ?_)
 refine sA S4 (zero_33 _) fun n5 w6 S7 => ?_
 refine wn hK1 ?_
 refine sk fun K8 hK8 => ?_
 refine dR S7 1 Tryz.underlying27 (size_27) ?_
 refine stGives S7 rfl (fn1 (ent_31 _ _)) (wireEncode_spec _ _ _ k r (S7).sat (hh.below S7.gr.below) ⟨_, _, _, _, rfl, q0, q1, q2, q3⟩ ok) ?_
 intro v14 w9 F11 S10 le12 R13
 obtain ⟨_, rfl, r15⟩ := R13
 obtain ⟨xa16, xc17, rfl, _⟩ := r15.shape
 simp only [pq]
 refine dx ?_
 iterate 2 refine de ?_
 simp only [pq]
 iterate 2 refine dy ?_
 refine wn hK8 ?_
 refine sk fun K18 hK18 => ?_
 iterate 2 refine dx ?_
 refine dr (.agg #[(iI 1), (nI s), (iI 0), (.slice xa16 (encQ k r).length xc17)]) (ex_build (bmap3 rfl rfl rfl) (by kernel_rfl)) ?_
 simp only [pq]
 refine sW 0 S10 (size_33) fun w19 S20 => ?_
 refine wn hK18 ?_
 refine wp_ret ?_
 try simp only [xt]
 refine bR (res_c rfl ⟨_, rfl, lR S20 0 Tryz.underlying33 (size_33)⟩) ?_
 exact ⟨_, _, rfl, S20.gr, _, _, rfl, r15⟩
theorem ran_spec (F : Fz) (w : World) (v : Value) (l : List Ac) (hs : Sat w F) (hh : Has w) (hT : Tabs w) (hv : Acs F v l) (hok : ∀ a ∈ l, AcOk a) (hc : countC l ≤ 149) (hlen : l.length ≤ 100000) (hP : ∀ a ∈ l, isP a = true → ProveS) (hK : ∀ a ∈ l, isK a = true → CrashS) :
    Calls Tryz.prog 23 #[v] w (Gives w F (RanV (runE l))) := by
 obtain ⟨a, c, rfl, hc1, hc2⟩ := Sl.shape hv
 have S := St.start hs
 go_enter Tryz.func23, Tryz.ntmps23
 refine sk fun K1 hK1 => ?_
 refine sA S (zero_43 _) fun n2 w3 S4 => ?_
 refine dy ?_
 refine wn hK1 ?_
 refine sk fun K5 hK5 => ?_
 refine dx ?_
 simp only [pq]
 refine stGives S4 rfl (fn1 (ent_35 _ _)) (run_spec _ _ _ l (S4).sat (hh.below S4.gr.below) (hT.at S4.gr.below) hv hok hc hlen hP hK) ?_
 intro v11 w6 F8 S7 le9 R10
 obtain ⟨_, rfl, R12⟩ := R10
 obtain ⟨a13, c14, a15, c16, rfl, r17, r18⟩ := R12
 refine dx ?_
 iterate 2 refine de ?_
 simp only [pq]
 refine sA S7 (zero_43 _) fun n19 w20 S21 => ?_
 refine sW 0 S21 (size_43) fun w22 S23 => ?_
 refine dy ?_
 simp only [pq]
 refine wn hK5 ?_
 refine sk fun K24 hK24 => ?_
 refine stGives S23 rfl (fn1 (ent_35 _ _)) (run_spec _ _ _ [] (S23).sat (hh.below S23.gr.below) (hT.at S23.gr.below) (Sl.nil _ _ _) (by simp) (by decide) (by simp) (by simp) (by simp)) ?_
 intro v30 w25 F27 S26 le28 R29
 obtain ⟨_, rfl, R31⟩ := R29
 obtain ⟨a32, c33, a34, c35, rfl, r36, r37⟩ := R31
 refine dx ?_
 iterate 2 refine de ?_
 simp only [pq]
 refine sA S26 (zero_43 _) fun n38 w39 S40 => ?_
 refine sW 0 S40 (size_43) fun w41 S42 => ?_
 refine dy ?_
 simp only [pq]
 refine wn hK24 ?_
 refine wp_seq_k (fun K43 hK43 => ?_)
 obtain ⟨S44, le45, hc46⟩ := St.freezeBlk S42 (i := 1) rfl
 generalize addF F27 w41 n19 = F47 at *
 obtain ⟨S48, le49, hc50⟩ := St.freezeBlk S44 (i := 0) rfl
 generalize addF F47 w41 n38 = F51 at *
 refine region_hl S48 (by kernel_rfl) (fun w53 S52 => ?_)
 refine hl_take 0 rfl (by kernel_rfl) (v := (.agg #[(.bool (runE l).up), (.int .i64 (((runE l).synced : Nat) : Int)), (.int .i64 (((runE l).waiting.length : Nat) : Int)), (.slice a13 ((runE l).forest (runE l).synced).length c14), (.slice a15 (runE l).replies.length c16)])) (fun _ _ _ h => h) S52.sat rfl (fun w54 hs55 => ex_load rfl (loadN (cs := [(.bool (runE l).up), (.int .i64 (((runE l).synced : Nat) : Int)), (.int .i64 (((runE l).waiting.length : Nat) : Int)), (.slice a13 ((runE l).forest (runE l).synced).length c14), (.slice a15 (runE l).replies.length c16)]) Tryz.underlying43 rfl (size_43) (rangeF (c := [(.bool (runE l).up), (.int .i64 (((runE l).synced : Nat) : Int)), (.int .i64 (((runE l).waiting.length : Nat) : Int)), (.slice a13 ((runE l).forest (runE l).synced).length c14), (.slice a15 (runE l).replies.length c16)]) (St.start hs55).sat (Le.cells le49 hc46)))) ?_
 simp only [pq]
 refine hl_take 1 rfl (by kernel_rfl) (v := (iI 0)) (fun _ _ _ h => h) S52.sat rfl (fun w56 hs57 => ex_move _) ?_
 simp only [pq]
 refine hl_take 2 rfl (by kernel_rfl) (v := bT) (fun _ _ _ h => h) S52.sat rfl (fun w58 hs59 => ex_eql (b := true) rfl rfl (by decide)) ?_
 simp only [pq]
 refine hl_take 3 rfl (by kernel_rfl) (v := bT) (fun _ _ _ h => h) S52.sat rfl (fun w60 hs61 => ex_move _) ?_
 simp only [pq]
 refine hl_take 4 rfl (by kernel_rfl) (v := (iI 0)) (fun _ _ _ h => h) S52.sat rfl (fun w62 hs63 => ex_move _) ?_
 simp only [pq]
 refine hl_take 5 rfl (by kernel_rfl) (v := bT) (fun _ _ _ h => h) S52.sat rfl (fun w64 hs65 => ex_eql (b := true) rfl rfl (by decide)) ?_
 simp only [pq]
 refine hl_take 6 rfl (by kernel_rfl) (v := bT) (fun _ _ _ h => h) S52.sat rfl (fun w66 hs67 => ex_pick (b := true) rfl) ?_
 simp only [pq]
 refine hl_take 7 rfl (by kernel_rfl) (v := bT) (fun _ _ _ h => h) S52.sat rfl (fun w68 hs69 => ex_move _) ?_
 simp only [pq]
 refine hl_take 8 rfl (by kernel_rfl) (v := (pP n38 0)) (fun _ _ _ h => h) S52.sat rfl (fun w70 hs71 => ef (fa_43_0 _ _)) ?_
 simp only [pq]
 refine hl_take 9 rfl (by kernel_rfl) (v := bT) (fun _ _ _ h => h) S52.sat rfl (fun w72 hs73 => ex_load rfl (load1 (nagg_4 _) (St.fz (St.start hs73) (hc50 0 _ rfl)))) ?_
 simp only [pq]
 refine hl_take 10 rfl (by kernel_rfl) (v := bT) (fun _ _ _ h => h) S52.sat rfl (fun w74 hs75 => ex_pick (b := true) rfl) ?_
 simp only [pq]
 refine hl_next 11 (by kernel_rfl) rfl ?_
 refine sW 0 S52 (size_43) fun w76 S77 => ?_
 refine wl_nil (hl_back S77.sat ?_)
 refine hl_take 12 rfl (by kernel_rfl) (v := bT) (fun _ _ _ h => h) S77.sat rfl (fun w78 hs79 => ex_assign _) ?_
 simp only [pq]
 refine hl_done (by kernel_rfl) ?_
 refine hK43 _ _ ?_
 refine wp_ret ?_
 try simp only [xt]
 refine bR (res_ct rfl ⟨_, rfl, lR S77 0 Tryz.underlying43 (size_43)⟩ (gD rfl)) ?_
 exact ⟨_, _, rfl, S77.gr, _, rfl, _, _, _, _, rfl, (r17.mono ((le28.trans le45).trans le49)), (r18.mono ((le28.trans le45).trans le49))⟩
structure ScrOk (l : List Ac) : Prop where
  ok : ∀ a ∈ l, AcOk a
  c : countC l ≤ 149
  len : l.length ≤ 100000
  P : ∀ a ∈ l, isP a = true → ProveS
  K : ∀ a ∈ l, isK a = true → CrashS
theorem ranIs_spec (F : Fz) (w : World) (v : Value) (l : List Ac) {g : Eng} (hs : Sat w F) (hh : Has w) (hT : Tabs w) (hv : Acs F v l) (h : ScrOk l) (hg : runE l = g) :
    Calls Tryz.prog 23 #[v] w (Gives w F (RanV g)) := hg ▸ ran_spec F w v l hs hh hT hv h.ok h.c h.len h.P h.K
def rq0 : Rq := ⟨[], [], [], []⟩
/-- A byte of any number. -/
def u8of (z : Int) : UInt8 := UInt8.ofNat (z % 256).toNat
theorem ask_enc {g : Eng} {s k : Nat} {r : Rq} (ok : RqOk k r) : g.act (.ask s (encQ k r)) = if g.up then g.req s k r else g.reply (repC s 13) := by
 unfold Eng.act Eng.ask
 simp only [(wd_back ok).1, (wd_back ok).2]
 rfl
/-- A script of whole requests. -/
inductive Rc where
  | rq (s k : Nat) (r : Rq)
  | sync
  | crash (k : Nat)
  | start
def Rc.ac : Rc → Ac
  | .rq s k r => .ask s (encQ k r)
  | .sync => .sync
  | .crash k => .crash k
  | .start => .start
def Eng.rc (g : Eng) : Rc → Eng
  | .rq s k r => if g.up then g.req s k r else g.reply (repC s 13)
  | .sync => g.sync
  | .crash k => g.crash k
  | .start => g.start
def RcOk : Rc → Prop
  | .rq s k r => s < 8 ∧ RqOk k r
  | .crash k => k ≤ 100000
  | _ => True
theorem rc_act (g : Eng) {a : Rc} (h : RcOk a) : g.act a.ac = g.rc a := by
 cases a with
 | rq s k r => exact ask_enc h.2
 | sync => rfl
 | crash k => rfl
 | start => rfl
theorem rc_run : ∀ (l : List Rc) (g : Eng), (∀ a ∈ l, RcOk a) → (l.map Rc.ac).foldl Eng.act g = l.foldl Eng.rc g
  | [], g, _ => rfl
  | a :: l, g, h => by
    rw [List.map_cons, List.foldl_cons, List.foldl_cons, rc_act g (h a (by simp)), rc_run l _ (fun x hx => h x (by simp [hx]))]
def runR (l : List Rc) : Eng := l.foldl Eng.rc eng0
theorem runE_rc {l : List Rc} (h : ∀ a ∈ l, RcOk a) : runE (l.map Rc.ac) = runR l := rc_run l eng0 h
def rcP : Rc → Bool
  | .rq _ k _ => k == 8
  | _ => false
def rcK : Rc → Bool
  | .crash _ => true
  | _ => false
def rcC : Rc → Bool
  | .rq _ k _ => k == 6
  | _ => false
theorem isP_rc {a : Rc} (h : RcOk a) : isP a.ac = rcP a := by
 cases a with
 | rq s k r => unfold Rc.ac isP rcP; simp only [(wd_back h.2).1, (wd_back h.2).2]; rfl
 | _ => rfl
theorem isK_rc (a : Rc) : isK a.ac = rcK a := by cases a <;> rfl
theorem isC_rc {a : Rc} (h : RcOk a) : isC a.ac = rcC a := by
 cases a with
 | rq s k r => unfold Rc.ac isC rcC; simp only [(wd_back h.2).1, (wd_back h.2).2]; rfl
 | _ => rfl
theorem AcOk_rc {a : Rc} (h : RcOk a) : AcOk a.ac := by
 cases a with
 | rq s k r =>
  refine ⟨h.1, ?_⟩
  have := encQ_len h.2
  omega
 | sync => trivial
 | crash k => exact h
 | start => trivial
theorem countC_rc {l : List Rc} (h : ∀ a ∈ l, RcOk a) : countC (l.map Rc.ac) = (l.map fun a => if rcC a then 1 else 0).sum := by
 unfold countC
 rw [List.map_map]
 congr 1
 refine List.map_congr_left fun a ha => ?_
 simp only [Function.comp_apply, isC_rc (h a ha)]
theorem conv_u8 (z : Int) (w : World) : (convert 3 5 (.int .i64 z)).run Tryz.prog w = .ok (.int .u8 (((u8of z).toNat : Nat) : Int)) w := by
 have e : IntKind.u8.wrap z = (((u8of z).toNat : Nat) : Int) := by
  rw [show IntKind.u8.wrap z = z % 256 from rfl]
  have h : (u8of z).toNat = (z % 256).toNat := by
   have hm : (z % 256).toNat < 256 := by omega
   unfold u8of
   simp only [UInt8.toNat_ofNat']
   exact Nat.mod_eq_of_lt hm
  rw [h]; omega
 rw [← e]
 go_simp
theorem Rps.get {F : Fz} {a : Option Addr} {n c : Nat} {l : List Rep} (h : Rps F (.slice a n c) l) {i : Nat} {r : Rep} (hp : l[i]? = some r) :
    ∃ b o, a = some ⟨b, o, none⟩ ∧ ∃ va vc pa pc ra rc, cellF F b (o + i * 15) = some (.int .i64 ((r.s : Nat) : Int)) ∧ cellF F b (o + i * 15 + 1) = some (.int .i64 r.code) ∧ cellF F b (o + i * 15 + 2) = some (.int .i64 r.turn) ∧ cellF F b (o + i * 15 + 3) = some (.bool r.found) ∧ cellF F b (o + i * 15 + 4) = some (.slice va r.value.length vc) ∧ cellF F b (o + i * 15 + 5) = some (.slice pa r.pairs.length pc) ∧ cellF F b (o + i * 15 + 6) = some (.slice ra r.root.length rc) ∧ Bs F (.slice va r.value.length vc) r.value ∧ Prs F (.slice pa r.pairs.length pc) r.pairs ∧ Bs F (.slice ra r.root.length rc) r.root := by
 obtain ⟨hi, rfl⟩ := List.getElem?_eq_some_iff.1 hp
 have hn := Sl.len h
 obtain ⟨b, o, e, h1⟩ := Sl.at h (by omega) (by omega)
 obtain ⟨cs, q1, ⟨v, p, q, a1, a2, a3, b1, b2, b3, rfl, r1, r2, r3, _⟩, q3⟩ := h1 i hi
 obtain ⟨va, vc, rfl, _⟩ := r1.shape
 obtain ⟨pa, pc, rfl, _⟩ := Sl.shape r2
 obtain ⟨ra, rc, rfl, _⟩ := r3.shape
 refine ⟨b, o, e, va, vc, pa, pc, ra, rc, ?_, ?_, ?_, ?_, ?_, ?_, ?_, r1, r2, r3⟩
 have := q3 0 (by simp); simpa [Nat.add_assoc] using this
 have := q3 1 (by simp); simpa [Nat.add_assoc] using this
 have := q3 2 (by simp); simpa [Nat.add_assoc] using this
 have := q3 3 (by simp); simpa [Nat.add_assoc] using this
 have := q3 4 (by simp); simpa [Nat.add_assoc] using this
 have := q3 5 (by simp); simpa [Nat.add_assoc] using this
 have := q3 6 (by simp); simpa [Nat.add_assoc] using this
def rcB : Rc → Bool
  | .rq s k r => decide (s < 8) && decide (1 ≤ k) && decide (k ≤ 8) && (wireN k r.name.length r.key.length r.last.length r.value.length == 0)
  | .crash k => decide (k ≤ 100000)
  | _ => true
theorem rcB_ok {a : Rc} (h : rcB a = true) : RcOk a := by
 cases a with
 | rq s k r =>
  simp only [rcB, Bool.and_eq_true, decide_eq_true_eq, beq_iff_eq] at h
  exact ⟨h.1.1.1, ⟨h.1.1.2, h.1.2⟩, h.2⟩
 | crash k => simpa [rcB, RcOk] using h
 | sync => trivial
 | start => trivial
def scrB (l : List Rc) : Bool := l.all rcB && decide ((l.map fun a => if rcC a then 1 else 0).sum ≤ 149) && decide (l.length ≤ 100000)
theorem scr_of {l : List Rc} (h : scrB l = true) (hP : l.any rcP = true → ProveS) (hK : l.any rcK = true → CrashS) : ScrOk (l.map Rc.ac) := by
 simp only [scrB, Bool.and_eq_true, decide_eq_true_eq] at h
 have hok : ∀ a ∈ l, RcOk a := fun a ha => rcB_ok (List.all_eq_true.1 h.1.1 a ha)
 refine ⟨fun a ha => ?_, by rw [countC_rc hok]; exact h.1.2, by rw [List.length_map]; exact h.2, fun a ha hp => ?_, fun a ha hk => ?_⟩
 obtain ⟨x, hx, rfl⟩ := List.mem_map.1 ha; exact AcOk_rc (hok x hx)
 obtain ⟨x, hx, rfl⟩ := List.mem_map.1 ha
 exact hP (List.any_eq_true.2 ⟨x, hx, by rw [← isP_rc (hok x hx)]; exact hp⟩)
 obtain ⟨x, hx, rfl⟩ := List.mem_map.1 ha
 exact hK (List.any_eq_true.2 ⟨x, hx, by rw [← isK_rc]; exact hk⟩)
theorem scr_no {l : List Rc} (h : (scrB l && !l.any rcP && !l.any rcK) = true) : ScrOk (l.map Rc.ac) ∧ runE (l.map Rc.ac) = runR l := by
 simp only [Bool.and_eq_true, Bool.not_eq_true'] at h
 have h1 := h.1.1
 simp only [scrB, Bool.and_eq_true, decide_eq_true_eq] at h1
 exact ⟨scr_of h.1.1 (fun k => by rw [h.1.2] at k; cases k) (fun k => by rw [h.2] at k; cases k), runE_rc fun a ha => rcB_ok (List.all_eq_true.1 h1.1.1 a ha)⟩
theorem getD_some {α : Type} {l : List α} {i : Nat} {x : α} (h : l[i]? = some x) : i < l.length := (List.getElem?_eq_some_iff.1 h).1
open Go.ChangeShapes Go.WideShapes Go.ChangeAt Go.RowKit
abbrev laid4 : List (String × DataW Unit) := [("canopy/digest.rounds", Rows.laid_canopy_digest_rounds), ("canopy/digest.goes", Rows.laid_canopy_digest_goes), ("canopy/digest.turns", Rows.laid_canopy_digest_turns), ("canopy/wire.has", Rows.laid_canopy_wire_has)]
theorem dig_met4 {W : World} (h : laidMetH Tryz.prog laid4 W) : Tabs W := by
 have hr : Lib.TabIs Tryz.prog W "canopy/digest.rounds" .u64 roundsZ :=
  tabIs_at (l := laid4) h 0 _ _ _ rfl gRounds gRoundsType Tryz.underlying218 Tryz.underlying215 gRoundsOne gRoundsCells
 have hg : Lib.TabIs Tryz.prog W "canopy/digest.goes" .i64 goesZ :=
  tabIs_at (l := laid4) h 1 _ _ _ rfl gGoes gGoesType Tryz.underlying235 Tryz.underlying3 gGoesOne gGoesCells
 have ht : Lib.TabIs Tryz.prog W "canopy/digest.turns" .i64 turnsZ :=
  tabIs_at (l := laid4) h 2 _ _ _ rfl gTurns gTurnsType Tryz.underlying235 Tryz.underlying3 gTurnsOne gTurnsCells
 refine ⟨fun i hi => ?_, fun i hi => ?_, fun i hi => ?_⟩
 rw [tab_at hg gGoes (n := 24) rfl hi, goes_are i hi]
 rw [tab_at ht gTurns (n := 24) rfl hi, turns_are i hi]
 rw [tab_at hr gRounds (n := 24) rfl hi, rounds_are i hi]
theorem gHas : Tryz.prog.globalNamed "canopy/wire.has" = some 0 := by kernel_rfl
theorem gHasType : (Tryz.prog.globals[(0 : Nat)]?).map (·.type) = some 92 := by kernel_rfl
theorem gHasCells : Tryz.prog.cellsOf 92 = 9 := by kernel_rfl
theorem intCells : Tryz.prog.cellsOf 3 = 1 := by kernel_rfl
theorem has_met4 {W : World} (h : laidMetH Tryz.prog laid4 W) : Has W := by
 have ht : Lib.TabIs Tryz.prog W "canopy/wire.has" .i64 hasL :=
  tabIs_at (l := laid4) h 3 _ _ _ rfl gHas gHasType Tryz.underlying92 Tryz.underlying3 intCells gHasCells
 intro i hi
 have := ht.cell gHas i hi
 rw [this]
 simp [List.getD, hi]
theorem top_met {W : World} (h : laidMetH Tryz.prog [("canopy/digest.rounds", Rows.laid_canopy_digest_rounds), ("canopy/digest.goes", Rows.laid_canopy_digest_goes), ("canopy/digest.turns", Rows.laid_canopy_digest_turns), ("canopy/wire.has", Rows.laid_canopy_wire_has)] W) : Has W ∧ Tabs W := ⟨has_met4 h, dig_met4 h⟩
noncomputable def topWorld (os : Os) : World := { digWorld os with heap := (digWorld os).heap.modify 0 (setCells #[.int .i64 0, .int .i64 0, .int .i64 3, .int .i64 7, .int .i64 11, .int .i64 3, .int .i64 0, .int .i64 0, .int .i64 3]) }
theorem Rps.row {F : Fz} {a : Option Addr} {n c : Nat} {l : List Rep} (h : Rps F (.slice a n c) l) {i : Nat} {r : Rep} (hp : l[i]? = some r) :
    ∃ b o, a = some ⟨b, o, none⟩ ∧ ∃ va vc pa pc ra rc a1 a2 a3 b1 b2 b3, (∀ (j : Nat) v, [Value.int .i64 ((r.s : Nat) : Int), .int .i64 r.code, .int .i64 r.turn, .bool r.found, .slice va r.value.length vc, .slice pa r.pairs.length pc, .slice ra r.root.length rc, .bool r.outer.empty, a1, a2, a3, .bool r.inner.empty, b1, b2, b3][j]? = some v → cellF F b (o + i * 15 + j) = some v) ∧ (∀ u ∈ [a1, a2, a3, b1, b2, b3], u.oneCell' = true) ∧ Bs F (.slice va r.value.length vc) r.value ∧ Prs F (.slice pa r.pairs.length pc) r.pairs ∧ Bs F (.slice ra r.root.length rc) r.root := by
 obtain ⟨hi, rfl⟩ := List.getElem?_eq_some_iff.1 hp
 have hn := Sl.len h
 obtain ⟨b, o, e, h1⟩ := Sl.at h (by omega) (by omega)
 obtain ⟨cs, q1, hc, q3⟩ := h1 i hi
 have hone := RpC.oneCell hc
 obtain ⟨v, p, q, a1, a2, a3, b1, b2, b3, rfl, r1, r2, r3, _⟩ := hc
 obtain ⟨va, vc, rfl, _⟩ := r1.shape
 obtain ⟨pa, pc, rfl, _⟩ := Sl.shape r2
 obtain ⟨ra, rc, rfl, _⟩ := r3.shape
 refine ⟨b, o, e, va, vc, pa, pc, ra, rc, a1, a2, a3, b1, b2, b3, fun j v hv => ?_, fun u hu => hone u ?_, r1, r2, r3⟩
 obtain ⟨hj, e⟩ := List.getElem?_eq_some_iff.1 hv
 have := q3 j (by simpa using hj)
 rw [← e]; simpa [Nat.add_assoc] using this
 simp only [List.mem_cons, List.not_mem_nil, or_false] at hu ⊢
 rcases hu with h | h | h | h | h | h <;> simp [h]
theorem does_byte {P : Program} {o : Oper} {a : Act} {W w : World} {F F1 : Fz} {b : UInt8} {E : TypeId} (g : Gr W F w F1)
    (hr : (execOp a.eval o).run P w = .ok (.value (.slice (some ⟨w.heap.size, 0, none⟩) 1 1)) (w.alloc (.cells #[bv b] E))) : Does P o a w (RelPost (Made W F fun F' u => Bs F' u [b]) w) := by
 have h := does_lit (R := ByC) (hR := ByC.mono) (p := b) (cs := [bv b]) (k := 1) g rfl rfl hr
 unfold Does at h ⊢
 rw [hr] at h ⊢
 obtain ⟨⟨F', h2, h3⟩, h4⟩ := h
 exact ⟨⟨F', h2, bs_of_sl h3⟩, h4⟩
def ReqR (F : Fz) (v : Value) (p : Nat × Rq) : Prop := ∃ a c a1 c1 a2 c2 a3 c3, v = .agg #[.int .i64 ((p.1 : Nat) : Int), .slice a p.2.name.length c, .slice a1 p.2.key.length c1, .slice a2 p.2.last.length c2, .slice a3 p.2.value.length c3] ∧ Bs F (.slice a p.2.name.length c) p.2.name ∧ Bs F (.slice a1 p.2.key.length c1) p.2.key ∧ Bs F (.slice a2 p.2.last.length c2) p.2.last ∧ Bs F (.slice a3 p.2.value.length c3) p.2.value
theorem AcV.mono {F F' : Fz} {v : Value} {a : Ac} (h : AcV F v a) (hl : Le F F') : AcV F' v a := by
 obtain ⟨x, y, e, r⟩ := h
 exact ⟨x, y, e, r.mono hl⟩
def apartS (s : Nat) (x : UInt8) : List Rc := [.rq s 1 rq0, .rq s 3 ⟨[u8of ((97 + s : Nat) : Int)], [97], [122], []⟩, .rq s 4 ⟨[u8of ((97 + s : Nat) : Int)], [107], [], [x]⟩]
def apartA (v w : UInt8) : Nat → List Rc
  | 0 => []
  | 1 => apartS 0 v
  | _ => apartS 0 v ++ apartS 1 w
def apartR (v w : UInt8) : List Rc := apartA v w 2 ++ [.rq 0 6 rq0, .rq 1 6 rq0, .sync]
theorem topApart_run (v w : UInt8) : let g := runR (apartR v w)
    g.synced = 2 ∧ g.replies.length = 8 ∧ g.forest g.synced = [([97], [([107], [v])]), ([98], [([107], [w])])] := by
 exact ⟨by kernel_rfl, by kernel_rfl, by kernel_rfl⟩
def blindA (v : Nat → UInt8) (n : Nat) : List Rc := (List.range n).flatMap fun i => [.rq i 1 rq0, .rq i 4 ⟨[97], [107], [], [v i]⟩]
def blindB (v : Nat → UInt8) (n m : Nat) : List Rc := blindA v n ++ (List.range m).map fun i => .rq i 6 rq0
def blindR (v : Nat → UInt8) (n : Nat) : List Rc := blindB v n n ++ [.sync]
theorem blind_run (v : Nat → UInt8) (n : Nat) (hn : n ≤ 6) : let g := runR (blindR v n)
    g.synced = n ∧ g.replies.length = 3 * n ∧ g.forest g.synced = if n = 0 then [] else [([97], [([107], [v (n - 1)])])] := by
 match n, hn with
 | 0, _ => exact ⟨by kernel_rfl, by kernel_rfl, by kernel_rfl⟩
 | 1, _ => exact ⟨by kernel_rfl, by kernel_rfl, by kernel_rfl⟩
 | 2, _ => exact ⟨by kernel_rfl, by kernel_rfl, by kernel_rfl⟩
 | 3, _ => exact ⟨by kernel_rfl, by kernel_rfl, by kernel_rfl⟩
 | 4, _ => exact ⟨by kernel_rfl, by kernel_rfl, by kernel_rfl⟩
 | 5, _ => exact ⟨by kernel_rfl, by kernel_rfl, by kernel_rfl⟩
 | 6, _ => exact ⟨by kernel_rfl, by kernel_rfl, by kernel_rfl⟩
 | n + 7, h => omega
open Go.ChangeShapes Go.WideShapes Go.ChangeAt Go.RowKit Go.Deep
def I64 (z : Int) : Prop := -9223372036854775808 ≤ z ∧ z ≤ 9223372036854775807
def IntC (F : Fz) (cs : List Value) (z : Int) : Prop := cs = [.int .i64 z] ∧ I64 z
theorem IntC.mono (F F' : Fz) (x : List Value) (p : Int) (hl : Le F F') (h : IntC F x p) : IntC F' x p := h
def Ints (F : Fz) (v : Value) (l : List Int) : Prop := Sl 1 IntC F v l
theorem Ints.mono {F F' : Fz} {v : Value} {l : List Int} (h : Ints F v l) (hl : Le F F') : Ints F' v l := Sl.mono IntC.mono h hl
theorem Ints.get {F : Fz} {a : Option Addr} {n c : Nat} {l : List Int} (h : Ints F (.slice a n c) l) {i : Nat} {z : Int} (hz : l[i]? = some z) :
    ∃ b o, a = some ⟨b, o, none⟩ ∧ cellF F b (o + i * 1) = some (.int .i64 z) ∧ I64 z := by
 obtain ⟨hi, rfl⟩ := List.getElem?_eq_some_iff.1 hz
 have hn := h.len
 obtain ⟨b, o, e, h1⟩ := Sl.at h (by omega) (by omega)
 obtain ⟨cs, q1, ⟨rfl, r1⟩, q4⟩ := h1 i hi
 exact ⟨b, o, e, by have := q4 0 (by simp); simpa using this, r1⟩
structure Ge where
  kind : Int
  session : Int
  name : Int
  key : Int
  value : Int
def GeOk (g : Ge) : Prop := I64 g.kind ∧ I64 g.session ∧ I64 g.name ∧ I64 g.key ∧ I64 g.value
def GeC (F : Fz) (cs : List Value) (g : Ge) : Prop := cs = [.int .i64 g.kind, .int .i64 g.session, .int .i64 g.name, .int .i64 g.key, .int .i64 g.value] ∧ GeOk g
theorem GeC.mono (F F' : Fz) (x : List Value) (p : Ge) (hl : Le F F') (h : GeC F x p) : GeC F' x p := h
def Ges (F : Fz) (v : Value) (l : List Ge) : Prop := Sl 5 GeC F v l
theorem Ges.mono {F F' : Fz} {v : Value} {l : List Ge} (h : Ges F v l) (hl : Le F F') : Ges F' v l := Sl.mono GeC.mono h hl
theorem Ges.get {F : Fz} {a : Option Addr} {n c : Nat} {l : List Ge} (h : Ges F (.slice a n c) l) {i : Nat} {g : Ge} (hz : l[i]? = some g) :
    ∃ b o, a = some ⟨b, o, none⟩ ∧ (∀ (j : Nat) v, [Value.int .i64 g.kind, .int .i64 g.session, .int .i64 g.name, .int .i64 g.key, .int .i64 g.value][j]? = some v → cellF F b (o + i * 5 + j) = some v) ∧ GeOk g := by
 obtain ⟨hi, rfl⟩ := List.getElem?_eq_some_iff.1 hz
 have hn := h.len
 obtain ⟨b, o, e, h1⟩ := Sl.at h (by omega) (by omega)
 obtain ⟨cs, q1, ⟨rfl, r1⟩, q4⟩ := h1 i hi
 refine ⟨b, o, e, fun j v hv => ?_, r1⟩
 obtain ⟨hj, e⟩ := List.getElem?_eq_some_iff.1 hv
 have := q4 j (by simpa using hj)
 rw [← e]; simpa [Nat.add_assoc] using this
section
variable {H : Type} {enc : TypeId × Value → H} {P : Program} {w : World}
theorem rd_ints {t e : TypeId} {fuel : Nat} {v : Value} {x : DataW H × List MemPlace} (ht : P.underlying t = some (.slice e)) (he : P.underlying e = some (.int .i64)) (hc : P.cellsOf e = 1)
    (h : DataW.trod enc P w 0 (fun _ => true) true fuel t [v] = some x) : ∃ l : List Int, Ints (whole w) v l :=
  rd_slice (α := Int) (k := 1) (R := IntC) ht hc (by omega) h (fun n cs y hl hy => by
    obtain ⟨c, rfl⟩ := List.length_eq_one_iff.1 hl
    obtain ⟨z, hz, _, hwf⟩ := DataW.trod_int he hy
    simp at hz
    subst hz
    have hb := bounds_i64 hwf
    exact ⟨z, rfl, by omega, by omega⟩)
end
section
variable {P : Program} {w0 w w' : World} {F0 F : Fz} {L : List Blk} {M : List RowP} {α : Type} {k E : Nat} {R : Fz → List Value → α → Prop} {hR : ∀ F F' x p, Le F F' → R F x p → R F' x p} {v : Value} {l : List α}
end
theorem allR_mono {α : Type} {F F' : Fz} {R : Fz → List Value → α → Prop} (hR : ∀ F F' x p, Le F F' → R F x p → R F' x p) (hl : Le F F') : ∀ {el : List (List Value)} {l : List α}, AllR (R F) el l → AllR (R F') el l
  | [], [], _ => trivial
  | _ :: _, _ :: _, h => ⟨hR _ _ _ _ hl h.1, allR_mono hR hl h.2⟩
theorem does_litN {P : Program} {o : Oper} {a : Act} {W w : World} {F F1 : Fz} {α : Type} {k : Nat} {R : Fz → List Value → α → Prop} (hR : ∀ F F' x p, Le F F' → R F x p → R F' x p) {el : List (List Value)} {l : List α} {E : TypeId} (g : Gr W F w F1) (hp : AllR (R F1) el l) (hk : ∀ x ∈ el, x.length = k) (hl : l.length ≤ maxLen)
    (hr : (execOp a.eval o).run P w = .ok (.value (.slice (some ⟨w.heap.size, 0, none⟩) l.length l.length)) (w.alloc (.cells el.flatten.toArray E))) : Does P o a w (RelPost (Made W F fun F' u => Sl k R F' u l) w) := by
 unfold Does
 rw [hr]
 have g2 := g.new (.cells el.flatten.toArray E)
 have g3 := g2.add (g := w.heap.size) g.below.size
 have hle : Le F1 (addF F1 (w.alloc (.cells el.flatten.toArray E)) w.heap.size) := fun b o hb => addF_le _ _ _ _ _ hb
 refine ⟨⟨_, g3, sl_of_block (R := R) (l := l) (c := el.flatten) (el := el) (fun j v hj => ?_) rfl (allR_mono hR hle hp) hk hl⟩, (Below.refl _ _).alloc (Nat.le_refl _) _⟩
 unfold cellF addF
 rw [g.sat.out (Nat.le_refl _)]
 simp only [if_true, heap_alloc_new]
 simpa using hj
end Go.Proofs.YtilgpdpooildcaaGreatDoor
