/- Walk: canopykeep.Request -/
import Derived.Test.YtokfcofjdbnagaaDoorW1
namespace Go.Proofs.YtokfcofjdbnagaaDoor
open Go.RowKit
set_option maxRecDepth 100000
set_option linter.unusedVariables false
def reqKind (kind : Int) : Int := 1 + pick kind 8
def reqHas (k : Int) : Bool := k == 2 || k == 3 || k == 4 || k == 5 || k == 8
def reqName (kind : Int) (n : List UInt8) : List UInt8 := if reqHas (reqKind kind) then nameL n else []
def reqKey (kind : Int) (n : List UInt8) : List UInt8 := if reqHas (reqKind kind) then keyL n else []
def reqLast (kind : Int) (n : List UInt8) : List UInt8 := if reqKind kind = 3 then keyL n else []
def reqValue (kind : Int) (n : List UInt8) : List UInt8 := if reqKind kind = 4 then n.take 32 else []
theorem reqKind_bd (kind : Int) : 1 ≤ reqKind kind ∧ reqKind kind ≤ 8 := by have := pick_bd kind 8 (by omega); unfold reqKind; omega
set_option maxHeartbeats 4000000 in
theorem request_1 (F : Fz) (w : World) (kind : Int) (a b c d : Value) (n y l x : List UInt8) (hs : Sat w F) (ha : Bs F a n) (hb : Bs F b y) (hc : Bs F c l) (hd : Bs F d x) (k1 : -9223372036854775808 ≤ kind) (k2 : kind ≤ 9223372036854775807) (hp : pick kind 8 = 0) :
    Calls Tryd.prog 15 #[.agg #[.int .i64 kind, a, b, c, d]] w (Gives w F fun F' u => ReqV F' u 1 ([]) ([]) ([]) ([])) := by
  have hP := hid (fun X : World => picked_spec kind 8 X k1 k2 (by omega) (by omega))
  rw [hp] at hP
  clear hp
  go_enter Tryd.func15, Tryd.ntmps15
  go_wp2_with fail
  refine (hP.out _).mono ?_; rintro e w' ⟨rfl, rfl⟩
  go_wp2_with fail
  have xc : (((w.alloc (.cells #[.int .i64 kind, a, b, c, d] 24)).alloc (.cells #[.int .i64 0, .slice none 0 0, .slice none 0 0, .slice none 0 0, .slice none 0 0] 25)).alloc (.cells #[.int .i64 1, .slice none 0 0, .slice none 0 0, .slice none 0 0, .slice none 0 0] 25)).heap[w.heap.size]? = some (.cells #[.int .i64 kind, a, b, c, d] 24) := heap_new_past _ _ (heap_new_past _ _ (heap_new_at w (.cells #[.int .i64 kind, a, b, c, d] 24) (n := w.heap.size) rfl))
  have xz : (((w.alloc (.cells #[.int .i64 kind, a, b, c, d] 24)).alloc (.cells #[.int .i64 0, .slice none 0 0, .slice none 0 0, .slice none 0 0, .slice none 0 0] 25)).alloc (.cells #[.int .i64 1, .slice none 0 0, .slice none 0 0, .slice none 0 0, .slice none 0 0] 25)).heap[w.heap.size + 1]? = some (.cells #[.int .i64 0, .slice none 0 0, .slice none 0 0, .slice none 0 0, .slice none 0 0] 25) := heap_new_past _ _ (heap_new_at _ (.cells #[.int .i64 0, .slice none 0 0, .slice none 0 0, .slice none 0 0, .slice none 0 0] 25) (n := w.heap.size + 1) (by simp))
  have xr : (((w.alloc (.cells #[.int .i64 kind, a, b, c, d] 24)).alloc (.cells #[.int .i64 0, .slice none 0 0, .slice none 0 0, .slice none 0 0, .slice none 0 0] 25)).alloc (.cells #[.int .i64 1, .slice none 0 0, .slice none 0 0, .slice none 0 0, .slice none 0 0] 25)).heap[w.heap.size + 1 + 1]? = some (.cells #[.int .i64 1, .slice none 0 0, .slice none 0 0, .slice none 0 0, .slice none 0 0] 25) := heap_new_at _ (.cells #[.int .i64 1, .slice none 0 0, .slice none 0 0, .slice none 0 0, .slice none 0 0] 25) (n := w.heap.size + 1 + 1) (by simp)
  have hg : Gr w F (((w.alloc (.cells #[.int .i64 kind, a, b, c, d] 24)).alloc (.cells #[.int .i64 0, .slice none 0 0, .slice none 0 0, .slice none 0 0, .slice none 0 0] 25)).alloc (.cells #[.int .i64 1, .slice none 0 0, .slice none 0 0, .slice none 0 0, .slice none 0 0] 25)) F := (((Gr.refl hs).new _).new _).new _
  have n1 : F (w.heap.size + 1) = none := hs.out (by omega)
  have n2 : F (w.heap.size + 1 + 1) = none := hs.out (by omega)
  refine bodyPost_ret (v := .agg #[.int .i64 1, .slice none 0 0, .slice none 0 0, .slice none 0 0, .slice none 0 0]) (by simp [results, Tryd.results15, go_sem]) rfl ⟨_, F, rfl, ?_, _, _, _, _, rfl, Bs.nil F, Bs.nil F, Bs.nil F, Bs.nil F⟩
  exact (((Gr.refl hs).new _).new _).new _
set_option maxHeartbeats 4000000 in
theorem request_2 (F : Fz) (w : World) (kind : Int) (a b c d : Value) (n y l x : List UInt8) (hs : Sat w F) (ha : Bs F a n) (hb : Bs F b y) (hc : Bs F c l) (hd : Bs F d x) (k1 : -9223372036854775808 ≤ kind) (k2 : kind ≤ 9223372036854775807) (hp : pick kind 8 = 1) :
    Calls Tryd.prog 15 #[.agg #[.int .i64 kind, a, b, c, d]] w (Gives w F fun F' u => ReqV F' u 2 (nameL n) (keyL y) ([]) ([])) := by
  have hP := hid (fun X : World => picked_spec kind 8 X k1 k2 (by omega) (by omega))
  rw [hp] at hP
  clear hp
  go_enter Tryd.func15, Tryd.ntmps15
  go_wp2_with fail
  refine (hP.out _).mono ?_; rintro e w' ⟨rfl, rfl⟩
  go_wp2_with fail
  have xc : (((w.alloc (.cells #[.int .i64 kind, a, b, c, d] 24)).alloc (.cells #[.int .i64 0, .slice none 0 0, .slice none 0 0, .slice none 0 0, .slice none 0 0] 25)).alloc (.cells #[.int .i64 2, .slice none 0 0, .slice none 0 0, .slice none 0 0, .slice none 0 0] 25)).heap[w.heap.size]? = some (.cells #[.int .i64 kind, a, b, c, d] 24) := heap_new_past _ _ (heap_new_past _ _ (heap_new_at w (.cells #[.int .i64 kind, a, b, c, d] 24) (n := w.heap.size) rfl))
  have xz : (((w.alloc (.cells #[.int .i64 kind, a, b, c, d] 24)).alloc (.cells #[.int .i64 0, .slice none 0 0, .slice none 0 0, .slice none 0 0, .slice none 0 0] 25)).alloc (.cells #[.int .i64 2, .slice none 0 0, .slice none 0 0, .slice none 0 0, .slice none 0 0] 25)).heap[w.heap.size + 1]? = some (.cells #[.int .i64 0, .slice none 0 0, .slice none 0 0, .slice none 0 0, .slice none 0 0] 25) := heap_new_past _ _ (heap_new_at _ (.cells #[.int .i64 0, .slice none 0 0, .slice none 0 0, .slice none 0 0, .slice none 0 0] 25) (n := w.heap.size + 1) (by simp))
  have xr : (((w.alloc (.cells #[.int .i64 kind, a, b, c, d] 24)).alloc (.cells #[.int .i64 0, .slice none 0 0, .slice none 0 0, .slice none 0 0, .slice none 0 0] 25)).alloc (.cells #[.int .i64 2, .slice none 0 0, .slice none 0 0, .slice none 0 0, .slice none 0 0] 25)).heap[w.heap.size + 1 + 1]? = some (.cells #[.int .i64 2, .slice none 0 0, .slice none 0 0, .slice none 0 0, .slice none 0 0] 25) := heap_new_at _ (.cells #[.int .i64 2, .slice none 0 0, .slice none 0 0, .slice none 0 0, .slice none 0 0] 25) (n := w.heap.size + 1 + 1) (by simp)
  have hg : Gr w F (((w.alloc (.cells #[.int .i64 kind, a, b, c, d] 24)).alloc (.cells #[.int .i64 0, .slice none 0 0, .slice none 0 0, .slice none 0 0, .slice none 0 0] 25)).alloc (.cells #[.int .i64 2, .slice none 0 0, .slice none 0 0, .slice none 0 0, .slice none 0 0] 25)) F := (((Gr.refl hs).new _).new _).new _
  have n1 : F (w.heap.size + 1) = none := hs.out (by omega)
  have n2 : F (w.heap.size + 1 + 1) = none := hs.out (by omega)
  generalize (((w.alloc (.cells #[.int .i64 kind, a, b, c, d] 24)).alloc (.cells #[.int .i64 0, .slice none 0 0, .slice none 0 0, .slice none 0 0, .slice none 0 0] 25)).alloc (.cells #[.int .i64 2, .slice none 0 0, .slice none 0 0, .slice none 0 0, .slice none 0 0] 25)) = W at *
  refine (name_spec F _ _ n hg.sat ha).mono ?_; rintro e w1 ⟨v1, F1, rfl, g1, r1⟩
  have lp := g1.le hg.sat
  replace ha := ha.mono lp; replace hb := hb.mono lp; replace hc := hc.mono lp; replace hd := hd.mono lp
  replace n1 : F1 (w.heap.size + 1) = none := g1.out (Array.getElem?_eq_some_iff.1 xz).1 n1
  replace n2 : F1 (w.heap.size + 1 + 1) = none := g1.out (Array.getElem?_eq_some_iff.1 xr).1 n2
  replace hg := hg.trans g1
  replace xc := heap_kept g1.below xc; replace xz := heap_kept g1.below xz; replace xr := heap_kept g1.below xr
  clear g1 lp
  obtain ⟨p1, q1, rfl, _, _⟩ := r1.shape
  obtain ⟨s0, s1, s2, s3, s4, sf⟩ := box5 xr
  obtain ⟨t0, t1, t2, t3, t4, tf⟩ := box5 xc
  obtain ⟨z0, z1, z2, z3, z4, zf⟩ := box5 xz
  have xr' := heap_set_at xr 1 (.slice p1 (nameL n).length q1)
  have xc' := heap_set_past xc (a := ⟨w.heap.size + 1 + 1, 1, none⟩) (by simp; try omega) (.slice p1 (nameL n).length q1)
  have xz' := heap_set_past xz (a := ⟨w.heap.size + 1 + 1, 1, none⟩) (by simp; try omega) (.slice p1 (nameL n).length q1)
  have hg' := hg.set (a := ⟨w.heap.size + 1 + 1, 1, none⟩) (by simp; try omega) n2 (.slice p1 (nameL n).length q1)
  go_wp2_with fail
  clear s0 s1 s2 s3 s4 sf t0 t1 t2 t3 t4 tf z0 z1 z2 z3 z4 zf
  generalize w1.setCell ⟨w.heap.size + 1 + 1, 1, none⟩ (.slice p1 (nameL n).length q1) = W1 at *
  clear xr xc xz hg
  have xr := xr'; have xc := xc'; have xz := xz'; have hg := hg'; clear xr' xc' xz' hg'
  refine (key_spec F1 _ _ y hg.sat hb).mono ?_; rintro e w2 ⟨v2, F2, rfl, g2, r2⟩
  have lp := g2.le hg.sat
  replace ha := ha.mono lp; replace hb := hb.mono lp; replace hc := hc.mono lp; replace hd := hd.mono lp
  replace r1 := r1.mono lp
  replace n1 : F2 (w.heap.size + 1) = none := g2.out (Array.getElem?_eq_some_iff.1 xz).1 n1
  replace n2 : F2 (w.heap.size + 1 + 1) = none := g2.out (Array.getElem?_eq_some_iff.1 xr).1 n2
  replace hg := hg.trans g2
  replace xc := heap_kept g2.below xc; replace xz := heap_kept g2.below xz; replace xr := heap_kept g2.below xr
  clear g2 lp
  obtain ⟨p2, q2, rfl, _, _⟩ := r2.shape
  obtain ⟨s0, s1, s2, s3, s4, sf⟩ := box5 xr
  obtain ⟨t0, t1, t2, t3, t4, tf⟩ := box5 xc
  obtain ⟨z0, z1, z2, z3, z4, zf⟩ := box5 xz
  have xr' := heap_set_at xr 2 (.slice p2 (keyL y).length q2)
  have xc' := heap_set_past xc (a := ⟨w.heap.size + 1 + 1, 2, none⟩) (by simp; try omega) (.slice p2 (keyL y).length q2)
  have xz' := heap_set_past xz (a := ⟨w.heap.size + 1 + 1, 2, none⟩) (by simp; try omega) (.slice p2 (keyL y).length q2)
  have hg' := hg.set (a := ⟨w.heap.size + 1 + 1, 2, none⟩) (by simp; try omega) n2 (.slice p2 (keyL y).length q2)
  clear xr' xc' xz' hg'
  go_wp2_with fail
  refine bodyPost_ret (v := .agg #[.int .i64 2, .slice p1 (nameL n).length q1, .slice p2 (keyL y).length q2, .slice none 0 0, .slice none 0 0]) ?_ rfl ?_
  · simp [results, Tryd.results15, go_sem, z0, z1, z2, z3, z4]
  refine ⟨_, F2, rfl, ?_, _, _, _, _, rfl, ?_, ?_, ?_, ?_⟩
  · repeat (first | (with_reducible exact hg) | refine Gr.set ?_ (by first | (simp; done) | (simp; omega)) (by first | exact n1 | exact n2) _)
  · exact r1
  · exact r2
  · exact Bs.nil _
  · exact Bs.nil _
set_option maxHeartbeats 4000000 in
theorem request_3 (F : Fz) (w : World) (kind : Int) (a b c d : Value) (n y l x : List UInt8) (hs : Sat w F) (ha : Bs F a n) (hb : Bs F b y) (hc : Bs F c l) (hd : Bs F d x) (k1 : -9223372036854775808 ≤ kind) (k2 : kind ≤ 9223372036854775807) (hp : pick kind 8 = 2) :
    Calls Tryd.prog 15 #[.agg #[.int .i64 kind, a, b, c, d]] w (Gives w F fun F' u => ReqV F' u 3 (nameL n) (keyL y) (keyL l) ([])) := by
  have hP := hid (fun X : World => picked_spec kind 8 X k1 k2 (by omega) (by omega))
  rw [hp] at hP
  clear hp
  go_enter Tryd.func15, Tryd.ntmps15
  go_wp2_with fail
  refine (hP.out _).mono ?_; rintro e w' ⟨rfl, rfl⟩
  go_wp2_with fail
  have xc : (((w.alloc (.cells #[.int .i64 kind, a, b, c, d] 24)).alloc (.cells #[.int .i64 0, .slice none 0 0, .slice none 0 0, .slice none 0 0, .slice none 0 0] 25)).alloc (.cells #[.int .i64 3, .slice none 0 0, .slice none 0 0, .slice none 0 0, .slice none 0 0] 25)).heap[w.heap.size]? = some (.cells #[.int .i64 kind, a, b, c, d] 24) := heap_new_past _ _ (heap_new_past _ _ (heap_new_at w (.cells #[.int .i64 kind, a, b, c, d] 24) (n := w.heap.size) rfl))
  have xz : (((w.alloc (.cells #[.int .i64 kind, a, b, c, d] 24)).alloc (.cells #[.int .i64 0, .slice none 0 0, .slice none 0 0, .slice none 0 0, .slice none 0 0] 25)).alloc (.cells #[.int .i64 3, .slice none 0 0, .slice none 0 0, .slice none 0 0, .slice none 0 0] 25)).heap[w.heap.size + 1]? = some (.cells #[.int .i64 0, .slice none 0 0, .slice none 0 0, .slice none 0 0, .slice none 0 0] 25) := heap_new_past _ _ (heap_new_at _ (.cells #[.int .i64 0, .slice none 0 0, .slice none 0 0, .slice none 0 0, .slice none 0 0] 25) (n := w.heap.size + 1) (by simp))
  have xr : (((w.alloc (.cells #[.int .i64 kind, a, b, c, d] 24)).alloc (.cells #[.int .i64 0, .slice none 0 0, .slice none 0 0, .slice none 0 0, .slice none 0 0] 25)).alloc (.cells #[.int .i64 3, .slice none 0 0, .slice none 0 0, .slice none 0 0, .slice none 0 0] 25)).heap[w.heap.size + 1 + 1]? = some (.cells #[.int .i64 3, .slice none 0 0, .slice none 0 0, .slice none 0 0, .slice none 0 0] 25) := heap_new_at _ (.cells #[.int .i64 3, .slice none 0 0, .slice none 0 0, .slice none 0 0, .slice none 0 0] 25) (n := w.heap.size + 1 + 1) (by simp)
  have hg : Gr w F (((w.alloc (.cells #[.int .i64 kind, a, b, c, d] 24)).alloc (.cells #[.int .i64 0, .slice none 0 0, .slice none 0 0, .slice none 0 0, .slice none 0 0] 25)).alloc (.cells #[.int .i64 3, .slice none 0 0, .slice none 0 0, .slice none 0 0, .slice none 0 0] 25)) F := (((Gr.refl hs).new _).new _).new _
  have n1 : F (w.heap.size + 1) = none := hs.out (by omega)
  have n2 : F (w.heap.size + 1 + 1) = none := hs.out (by omega)
  generalize (((w.alloc (.cells #[.int .i64 kind, a, b, c, d] 24)).alloc (.cells #[.int .i64 0, .slice none 0 0, .slice none 0 0, .slice none 0 0, .slice none 0 0] 25)).alloc (.cells #[.int .i64 3, .slice none 0 0, .slice none 0 0, .slice none 0 0, .slice none 0 0] 25)) = W at *
  refine (name_spec F _ _ n hg.sat ha).mono ?_; rintro e w1 ⟨v1, F1, rfl, g1, r1⟩
  have lp := g1.le hg.sat
  replace ha := ha.mono lp; replace hb := hb.mono lp; replace hc := hc.mono lp; replace hd := hd.mono lp
  replace n1 : F1 (w.heap.size + 1) = none := g1.out (Array.getElem?_eq_some_iff.1 xz).1 n1
  replace n2 : F1 (w.heap.size + 1 + 1) = none := g1.out (Array.getElem?_eq_some_iff.1 xr).1 n2
  replace hg := hg.trans g1
  replace xc := heap_kept g1.below xc; replace xz := heap_kept g1.below xz; replace xr := heap_kept g1.below xr
  clear g1 lp
  obtain ⟨p1, q1, rfl, _, _⟩ := r1.shape
  obtain ⟨s0, s1, s2, s3, s4, sf⟩ := box5 xr
  obtain ⟨t0, t1, t2, t3, t4, tf⟩ := box5 xc
  obtain ⟨z0, z1, z2, z3, z4, zf⟩ := box5 xz
  have xr' := heap_set_at xr 1 (.slice p1 (nameL n).length q1)
  have xc' := heap_set_past xc (a := ⟨w.heap.size + 1 + 1, 1, none⟩) (by simp; try omega) (.slice p1 (nameL n).length q1)
  have xz' := heap_set_past xz (a := ⟨w.heap.size + 1 + 1, 1, none⟩) (by simp; try omega) (.slice p1 (nameL n).length q1)
  have hg' := hg.set (a := ⟨w.heap.size + 1 + 1, 1, none⟩) (by simp; try omega) n2 (.slice p1 (nameL n).length q1)
  go_wp2_with fail
  clear s0 s1 s2 s3 s4 sf t0 t1 t2 t3 t4 tf z0 z1 z2 z3 z4 zf
  generalize w1.setCell ⟨w.heap.size + 1 + 1, 1, none⟩ (.slice p1 (nameL n).length q1) = W1 at *
  clear xr xc xz hg
  have xr := xr'; have xc := xc'; have xz := xz'; have hg := hg'; clear xr' xc' xz' hg'
  refine (key_spec F1 _ _ y hg.sat hb).mono ?_; rintro e w2 ⟨v2, F2, rfl, g2, r2⟩
  have lp := g2.le hg.sat
  replace ha := ha.mono lp; replace hb := hb.mono lp; replace hc := hc.mono lp; replace hd := hd.mono lp
  replace r1 := r1.mono lp
  replace n1 : F2 (w.heap.size + 1) = none := g2.out (Array.getElem?_eq_some_iff.1 xz).1 n1
  replace n2 : F2 (w.heap.size + 1 + 1) = none := g2.out (Array.getElem?_eq_some_iff.1 xr).1 n2
  replace hg := hg.trans g2
  replace xc := heap_kept g2.below xc; replace xz := heap_kept g2.below xz; replace xr := heap_kept g2.below xr
  clear g2 lp
  obtain ⟨p2, q2, rfl, _, _⟩ := r2.shape
  obtain ⟨s0, s1, s2, s3, s4, sf⟩ := box5 xr
  obtain ⟨t0, t1, t2, t3, t4, tf⟩ := box5 xc
  obtain ⟨z0, z1, z2, z3, z4, zf⟩ := box5 xz
  have xr' := heap_set_at xr 2 (.slice p2 (keyL y).length q2)
  have xc' := heap_set_past xc (a := ⟨w.heap.size + 1 + 1, 2, none⟩) (by simp; try omega) (.slice p2 (keyL y).length q2)
  have xz' := heap_set_past xz (a := ⟨w.heap.size + 1 + 1, 2, none⟩) (by simp; try omega) (.slice p2 (keyL y).length q2)
  have hg' := hg.set (a := ⟨w.heap.size + 1 + 1, 2, none⟩) (by simp; try omega) n2 (.slice p2 (keyL y).length q2)
  go_wp2_with fail
  clear s0 s1 s2 s3 s4 sf t0 t1 t2 t3 t4 tf z0 z1 z2 z3 z4 zf
  generalize w2.setCell ⟨w.heap.size + 1 + 1, 2, none⟩ (.slice p2 (keyL y).length q2) = W2 at *
  clear xr xc xz hg
  have xr := xr'; have xc := xc'; have xz := xz'; have hg := hg'; clear xr' xc' xz' hg'
  refine (key_spec F2 _ _ l hg.sat hc).mono ?_; rintro e w3 ⟨v3, F3, rfl, g3, r3⟩
  have lp := g3.le hg.sat
  replace ha := ha.mono lp; replace hb := hb.mono lp; replace hc := hc.mono lp; replace hd := hd.mono lp
  replace r1 := r1.mono lp
  replace r2 := r2.mono lp
  replace n1 : F3 (w.heap.size + 1) = none := g3.out (Array.getElem?_eq_some_iff.1 xz).1 n1
  replace n2 : F3 (w.heap.size + 1 + 1) = none := g3.out (Array.getElem?_eq_some_iff.1 xr).1 n2
  replace hg := hg.trans g3
  replace xc := heap_kept g3.below xc; replace xz := heap_kept g3.below xz; replace xr := heap_kept g3.below xr
  clear g3 lp
  obtain ⟨p3, q3, rfl, _, _⟩ := r3.shape
  obtain ⟨s0, s1, s2, s3, s4, sf⟩ := box5 xr
  obtain ⟨t0, t1, t2, t3, t4, tf⟩ := box5 xc
  obtain ⟨z0, z1, z2, z3, z4, zf⟩ := box5 xz
  have xr' := heap_set_at xr 3 (.slice p3 (keyL l).length q3)
  have xc' := heap_set_past xc (a := ⟨w.heap.size + 1 + 1, 3, none⟩) (by simp; try omega) (.slice p3 (keyL l).length q3)
  have xz' := heap_set_past xz (a := ⟨w.heap.size + 1 + 1, 3, none⟩) (by simp; try omega) (.slice p3 (keyL l).length q3)
  have hg' := hg.set (a := ⟨w.heap.size + 1 + 1, 3, none⟩) (by simp; try omega) n2 (.slice p3 (keyL l).length q3)
  clear xr' xc' xz' hg'
  go_wp2_with fail
  refine bodyPost_ret (v := .agg #[.int .i64 3, .slice p1 (nameL n).length q1, .slice p2 (keyL y).length q2, .slice p3 (keyL l).length q3, .slice none 0 0]) ?_ rfl ?_
  · simp [results, Tryd.results15, go_sem, z0, z1, z2, z3, z4]
  refine ⟨_, F3, rfl, ?_, _, _, _, _, rfl, ?_, ?_, ?_, ?_⟩
  · repeat (first | (with_reducible exact hg) | refine Gr.set ?_ (by first | (simp; done) | (simp; omega)) (by first | exact n1 | exact n2) _)
  · exact r1
  · exact r2
  · exact r3
  · exact Bs.nil _
set_option maxHeartbeats 4000000 in
theorem request_4 (F : Fz) (w : World) (kind : Int) (a b c d : Value) (n y l x : List UInt8) (hs : Sat w F) (ha : Bs F a n) (hb : Bs F b y) (hc : Bs F c l) (hd : Bs F d x) (k1 : -9223372036854775808 ≤ kind) (k2 : kind ≤ 9223372036854775807) (hp : pick kind 8 = 3) :
    Calls Tryd.prog 15 #[.agg #[.int .i64 kind, a, b, c, d]] w (Gives w F fun F' u => ReqV F' u 4 (nameL n) (keyL y) ([]) (x.take 32)) := by
  have hP := hid (fun X : World => picked_spec kind 8 X k1 k2 (by omega) (by omega))
  rw [hp] at hP
  clear hp
  go_enter Tryd.func15, Tryd.ntmps15
  go_wp2_with fail
  refine (hP.out _).mono ?_; rintro e w' ⟨rfl, rfl⟩
  go_wp2_with fail
  have xc : (((w.alloc (.cells #[.int .i64 kind, a, b, c, d] 24)).alloc (.cells #[.int .i64 0, .slice none 0 0, .slice none 0 0, .slice none 0 0, .slice none 0 0] 25)).alloc (.cells #[.int .i64 4, .slice none 0 0, .slice none 0 0, .slice none 0 0, .slice none 0 0] 25)).heap[w.heap.size]? = some (.cells #[.int .i64 kind, a, b, c, d] 24) := heap_new_past _ _ (heap_new_past _ _ (heap_new_at w (.cells #[.int .i64 kind, a, b, c, d] 24) (n := w.heap.size) rfl))
  have xz : (((w.alloc (.cells #[.int .i64 kind, a, b, c, d] 24)).alloc (.cells #[.int .i64 0, .slice none 0 0, .slice none 0 0, .slice none 0 0, .slice none 0 0] 25)).alloc (.cells #[.int .i64 4, .slice none 0 0, .slice none 0 0, .slice none 0 0, .slice none 0 0] 25)).heap[w.heap.size + 1]? = some (.cells #[.int .i64 0, .slice none 0 0, .slice none 0 0, .slice none 0 0, .slice none 0 0] 25) := heap_new_past _ _ (heap_new_at _ (.cells #[.int .i64 0, .slice none 0 0, .slice none 0 0, .slice none 0 0, .slice none 0 0] 25) (n := w.heap.size + 1) (by simp))
  have xr : (((w.alloc (.cells #[.int .i64 kind, a, b, c, d] 24)).alloc (.cells #[.int .i64 0, .slice none 0 0, .slice none 0 0, .slice none 0 0, .slice none 0 0] 25)).alloc (.cells #[.int .i64 4, .slice none 0 0, .slice none 0 0, .slice none 0 0, .slice none 0 0] 25)).heap[w.heap.size + 1 + 1]? = some (.cells #[.int .i64 4, .slice none 0 0, .slice none 0 0, .slice none 0 0, .slice none 0 0] 25) := heap_new_at _ (.cells #[.int .i64 4, .slice none 0 0, .slice none 0 0, .slice none 0 0, .slice none 0 0] 25) (n := w.heap.size + 1 + 1) (by simp)
  have hg : Gr w F (((w.alloc (.cells #[.int .i64 kind, a, b, c, d] 24)).alloc (.cells #[.int .i64 0, .slice none 0 0, .slice none 0 0, .slice none 0 0, .slice none 0 0] 25)).alloc (.cells #[.int .i64 4, .slice none 0 0, .slice none 0 0, .slice none 0 0, .slice none 0 0] 25)) F := (((Gr.refl hs).new _).new _).new _
  have n1 : F (w.heap.size + 1) = none := hs.out (by omega)
  have n2 : F (w.heap.size + 1 + 1) = none := hs.out (by omega)
  generalize (((w.alloc (.cells #[.int .i64 kind, a, b, c, d] 24)).alloc (.cells #[.int .i64 0, .slice none 0 0, .slice none 0 0, .slice none 0 0, .slice none 0 0] 25)).alloc (.cells #[.int .i64 4, .slice none 0 0, .slice none 0 0, .slice none 0 0, .slice none 0 0] 25)) = W at *
  refine (name_spec F _ _ n hg.sat ha).mono ?_; rintro e w1 ⟨v1, F1, rfl, g1, r1⟩
  have lp := g1.le hg.sat
  replace ha := ha.mono lp; replace hb := hb.mono lp; replace hc := hc.mono lp; replace hd := hd.mono lp
  replace n1 : F1 (w.heap.size + 1) = none := g1.out (Array.getElem?_eq_some_iff.1 xz).1 n1
  replace n2 : F1 (w.heap.size + 1 + 1) = none := g1.out (Array.getElem?_eq_some_iff.1 xr).1 n2
  replace hg := hg.trans g1
  replace xc := heap_kept g1.below xc; replace xz := heap_kept g1.below xz; replace xr := heap_kept g1.below xr
  clear g1 lp
  obtain ⟨p1, q1, rfl, _, _⟩ := r1.shape
  obtain ⟨s0, s1, s2, s3, s4, sf⟩ := box5 xr
  obtain ⟨t0, t1, t2, t3, t4, tf⟩ := box5 xc
  obtain ⟨z0, z1, z2, z3, z4, zf⟩ := box5 xz
  have xr' := heap_set_at xr 1 (.slice p1 (nameL n).length q1)
  have xc' := heap_set_past xc (a := ⟨w.heap.size + 1 + 1, 1, none⟩) (by simp; try omega) (.slice p1 (nameL n).length q1)
  have xz' := heap_set_past xz (a := ⟨w.heap.size + 1 + 1, 1, none⟩) (by simp; try omega) (.slice p1 (nameL n).length q1)
  have hg' := hg.set (a := ⟨w.heap.size + 1 + 1, 1, none⟩) (by simp; try omega) n2 (.slice p1 (nameL n).length q1)
  go_wp2_with fail
  clear s0 s1 s2 s3 s4 sf t0 t1 t2 t3 t4 tf z0 z1 z2 z3 z4 zf
  generalize w1.setCell ⟨w.heap.size + 1 + 1, 1, none⟩ (.slice p1 (nameL n).length q1) = W1 at *
  clear xr xc xz hg
  have xr := xr'; have xc := xc'; have xz := xz'; have hg := hg'; clear xr' xc' xz' hg'
  refine (key_spec F1 _ _ y hg.sat hb).mono ?_; rintro e w2 ⟨v2, F2, rfl, g2, r2⟩
  have lp := g2.le hg.sat
  replace ha := ha.mono lp; replace hb := hb.mono lp; replace hc := hc.mono lp; replace hd := hd.mono lp
  replace r1 := r1.mono lp
  replace n1 : F2 (w.heap.size + 1) = none := g2.out (Array.getElem?_eq_some_iff.1 xz).1 n1
  replace n2 : F2 (w.heap.size + 1 + 1) = none := g2.out (Array.getElem?_eq_some_iff.1 xr).1 n2
  replace hg := hg.trans g2
  replace xc := heap_kept g2.below xc; replace xz := heap_kept g2.below xz; replace xr := heap_kept g2.below xr
  clear g2 lp
  obtain ⟨p2, q2, rfl, _, _⟩ := r2.shape
  obtain ⟨s0, s1, s2, s3, s4, sf⟩ := box5 xr
  obtain ⟨t0, t1, t2, t3, t4, tf⟩ := box5 xc
  obtain ⟨z0, z1, z2, z3, z4, zf⟩ := box5 xz
  have xr' := heap_set_at xr 2 (.slice p2 (keyL y).length q2)
  have xc' := heap_set_past xc (a := ⟨w.heap.size + 1 + 1, 2, none⟩) (by simp; try omega) (.slice p2 (keyL y).length q2)
  have xz' := heap_set_past xz (a := ⟨w.heap.size + 1 + 1, 2, none⟩) (by simp; try omega) (.slice p2 (keyL y).length q2)
  have hg' := hg.set (a := ⟨w.heap.size + 1 + 1, 2, none⟩) (by simp; try omega) n2 (.slice p2 (keyL y).length q2)
  go_wp2_with fail
  clear s0 s1 s2 s3 s4 sf t0 t1 t2 t3 t4 tf z0 z1 z2 z3 z4 zf
  generalize w2.setCell ⟨w.heap.size + 1 + 1, 2, none⟩ (.slice p2 (keyL y).length q2) = W2 at *
  clear xr xc xz hg
  have xr := xr'; have xc := xc'; have xz := xz'; have hg := hg'; clear xr' xc' xz' hg'
  refine (some_spec F2 _ _ x _ hg.sat hd (by omega) (by omega)).mono ?_; rintro e w3 ⟨v3, F3, rfl, g3, r3⟩
  have lp := g3.le hg.sat
  replace ha := ha.mono lp; replace hb := hb.mono lp; replace hc := hc.mono lp; replace hd := hd.mono lp
  replace r1 := r1.mono lp
  replace r2 := r2.mono lp
  replace n1 : F3 (w.heap.size + 1) = none := g3.out (Array.getElem?_eq_some_iff.1 xz).1 n1
  replace n2 : F3 (w.heap.size + 1 + 1) = none := g3.out (Array.getElem?_eq_some_iff.1 xr).1 n2
  replace hg := hg.trans g3
  replace xc := heap_kept g3.below xc; replace xz := heap_kept g3.below xz; replace xr := heap_kept g3.below xr
  clear g3 lp
  obtain ⟨p3, q3, rfl, _, _⟩ := r3.shape
  obtain ⟨s0, s1, s2, s3, s4, sf⟩ := box5 xr
  obtain ⟨t0, t1, t2, t3, t4, tf⟩ := box5 xc
  obtain ⟨z0, z1, z2, z3, z4, zf⟩ := box5 xz
  have xr' := heap_set_at xr 4 (.slice p3 (x.take (Int.toNat 32)).length q3)
  have xc' := heap_set_past xc (a := ⟨w.heap.size + 1 + 1, 4, none⟩) (by simp; try omega) (.slice p3 (x.take (Int.toNat 32)).length q3)
  have xz' := heap_set_past xz (a := ⟨w.heap.size + 1 + 1, 4, none⟩) (by simp; try omega) (.slice p3 (x.take (Int.toNat 32)).length q3)
  have hg' := hg.set (a := ⟨w.heap.size + 1 + 1, 4, none⟩) (by simp; try omega) n2 (.slice p3 (x.take (Int.toNat 32)).length q3)
  clear xr' xc' xz' hg'
  go_wp2_with fail
  refine bodyPost_ret (v := .agg #[.int .i64 4, .slice p1 (nameL n).length q1, .slice p2 (keyL y).length q2, .slice none 0 0, .slice p3 (x.take (Int.toNat 32)).length q3]) ?_ rfl ?_
  · simp [results, Tryd.results15, go_sem, z0, z1, z2, z3, z4]
  refine ⟨_, F3, rfl, ?_, _, _, _, _, rfl, ?_, ?_, ?_, ?_⟩
  · repeat (first | (with_reducible exact hg) | refine Gr.set ?_ (by first | (simp; done) | (simp; omega)) (by first | exact n1 | exact n2) _)
  · exact r1
  · exact r2
  · exact Bs.nil _
  · exact r3
set_option maxHeartbeats 4000000 in
theorem request_5 (F : Fz) (w : World) (kind : Int) (a b c d : Value) (n y l x : List UInt8) (hs : Sat w F) (ha : Bs F a n) (hb : Bs F b y) (hc : Bs F c l) (hd : Bs F d x) (k1 : -9223372036854775808 ≤ kind) (k2 : kind ≤ 9223372036854775807) (hp : pick kind 8 = 4) :
    Calls Tryd.prog 15 #[.agg #[.int .i64 kind, a, b, c, d]] w (Gives w F fun F' u => ReqV F' u 5 (nameL n) (keyL y) ([]) ([])) := by
  have hP := hid (fun X : World => picked_spec kind 8 X k1 k2 (by omega) (by omega))
  rw [hp] at hP
  clear hp
  go_enter Tryd.func15, Tryd.ntmps15
  go_wp2_with fail
  refine (hP.out _).mono ?_; rintro e w' ⟨rfl, rfl⟩
  go_wp2_with fail
  have xc : (((w.alloc (.cells #[.int .i64 kind, a, b, c, d] 24)).alloc (.cells #[.int .i64 0, .slice none 0 0, .slice none 0 0, .slice none 0 0, .slice none 0 0] 25)).alloc (.cells #[.int .i64 5, .slice none 0 0, .slice none 0 0, .slice none 0 0, .slice none 0 0] 25)).heap[w.heap.size]? = some (.cells #[.int .i64 kind, a, b, c, d] 24) := heap_new_past _ _ (heap_new_past _ _ (heap_new_at w (.cells #[.int .i64 kind, a, b, c, d] 24) (n := w.heap.size) rfl))
  have xz : (((w.alloc (.cells #[.int .i64 kind, a, b, c, d] 24)).alloc (.cells #[.int .i64 0, .slice none 0 0, .slice none 0 0, .slice none 0 0, .slice none 0 0] 25)).alloc (.cells #[.int .i64 5, .slice none 0 0, .slice none 0 0, .slice none 0 0, .slice none 0 0] 25)).heap[w.heap.size + 1]? = some (.cells #[.int .i64 0, .slice none 0 0, .slice none 0 0, .slice none 0 0, .slice none 0 0] 25) := heap_new_past _ _ (heap_new_at _ (.cells #[.int .i64 0, .slice none 0 0, .slice none 0 0, .slice none 0 0, .slice none 0 0] 25) (n := w.heap.size + 1) (by simp))
  have xr : (((w.alloc (.cells #[.int .i64 kind, a, b, c, d] 24)).alloc (.cells #[.int .i64 0, .slice none 0 0, .slice none 0 0, .slice none 0 0, .slice none 0 0] 25)).alloc (.cells #[.int .i64 5, .slice none 0 0, .slice none 0 0, .slice none 0 0, .slice none 0 0] 25)).heap[w.heap.size + 1 + 1]? = some (.cells #[.int .i64 5, .slice none 0 0, .slice none 0 0, .slice none 0 0, .slice none 0 0] 25) := heap_new_at _ (.cells #[.int .i64 5, .slice none 0 0, .slice none 0 0, .slice none 0 0, .slice none 0 0] 25) (n := w.heap.size + 1 + 1) (by simp)
  have hg : Gr w F (((w.alloc (.cells #[.int .i64 kind, a, b, c, d] 24)).alloc (.cells #[.int .i64 0, .slice none 0 0, .slice none 0 0, .slice none 0 0, .slice none 0 0] 25)).alloc (.cells #[.int .i64 5, .slice none 0 0, .slice none 0 0, .slice none 0 0, .slice none 0 0] 25)) F := (((Gr.refl hs).new _).new _).new _
  have n1 : F (w.heap.size + 1) = none := hs.out (by omega)
  have n2 : F (w.heap.size + 1 + 1) = none := hs.out (by omega)
  generalize (((w.alloc (.cells #[.int .i64 kind, a, b, c, d] 24)).alloc (.cells #[.int .i64 0, .slice none 0 0, .slice none 0 0, .slice none 0 0, .slice none 0 0] 25)).alloc (.cells #[.int .i64 5, .slice none 0 0, .slice none 0 0, .slice none 0 0, .slice none 0 0] 25)) = W at *
  refine (name_spec F _ _ n hg.sat ha).mono ?_; rintro e w1 ⟨v1, F1, rfl, g1, r1⟩
  have lp := g1.le hg.sat
  replace ha := ha.mono lp; replace hb := hb.mono lp; replace hc := hc.mono lp; replace hd := hd.mono lp
  replace n1 : F1 (w.heap.size + 1) = none := g1.out (Array.getElem?_eq_some_iff.1 xz).1 n1
  replace n2 : F1 (w.heap.size + 1 + 1) = none := g1.out (Array.getElem?_eq_some_iff.1 xr).1 n2
  replace hg := hg.trans g1
  replace xc := heap_kept g1.below xc; replace xz := heap_kept g1.below xz; replace xr := heap_kept g1.below xr
  clear g1 lp
  obtain ⟨p1, q1, rfl, _, _⟩ := r1.shape
  obtain ⟨s0, s1, s2, s3, s4, sf⟩ := box5 xr
  obtain ⟨t0, t1, t2, t3, t4, tf⟩ := box5 xc
  obtain ⟨z0, z1, z2, z3, z4, zf⟩ := box5 xz
  have xr' := heap_set_at xr 1 (.slice p1 (nameL n).length q1)
  have xc' := heap_set_past xc (a := ⟨w.heap.size + 1 + 1, 1, none⟩) (by simp; try omega) (.slice p1 (nameL n).length q1)
  have xz' := heap_set_past xz (a := ⟨w.heap.size + 1 + 1, 1, none⟩) (by simp; try omega) (.slice p1 (nameL n).length q1)
  have hg' := hg.set (a := ⟨w.heap.size + 1 + 1, 1, none⟩) (by simp; try omega) n2 (.slice p1 (nameL n).length q1)
  go_wp2_with fail
  clear s0 s1 s2 s3 s4 sf t0 t1 t2 t3 t4 tf z0 z1 z2 z3 z4 zf
  generalize w1.setCell ⟨w.heap.size + 1 + 1, 1, none⟩ (.slice p1 (nameL n).length q1) = W1 at *
  clear xr xc xz hg
  have xr := xr'; have xc := xc'; have xz := xz'; have hg := hg'; clear xr' xc' xz' hg'
  refine (key_spec F1 _ _ y hg.sat hb).mono ?_; rintro e w2 ⟨v2, F2, rfl, g2, r2⟩
  have lp := g2.le hg.sat
  replace ha := ha.mono lp; replace hb := hb.mono lp; replace hc := hc.mono lp; replace hd := hd.mono lp
  replace r1 := r1.mono lp
  replace n1 : F2 (w.heap.size + 1) = none := g2.out (Array.getElem?_eq_some_iff.1 xz).1 n1
  replace n2 : F2 (w.heap.size + 1 + 1) = none := g2.out (Array.getElem?_eq_some_iff.1 xr).1 n2
  replace hg := hg.trans g2
  replace xc := heap_kept g2.below xc; replace xz := heap_kept g2.below xz; replace xr := heap_kept g2.below xr
  clear g2 lp
  obtain ⟨p2, q2, rfl, _, _⟩ := r2.shape
  obtain ⟨s0, s1, s2, s3, s4, sf⟩ := box5 xr
  obtain ⟨t0, t1, t2, t3, t4, tf⟩ := box5 xc
  obtain ⟨z0, z1, z2, z3, z4, zf⟩ := box5 xz
  have xr' := heap_set_at xr 2 (.slice p2 (keyL y).length q2)
  have xc' := heap_set_past xc (a := ⟨w.heap.size + 1 + 1, 2, none⟩) (by simp; try omega) (.slice p2 (keyL y).length q2)
  have xz' := heap_set_past xz (a := ⟨w.heap.size + 1 + 1, 2, none⟩) (by simp; try omega) (.slice p2 (keyL y).length q2)
  have hg' := hg.set (a := ⟨w.heap.size + 1 + 1, 2, none⟩) (by simp; try omega) n2 (.slice p2 (keyL y).length q2)
  clear xr' xc' xz' hg'
  go_wp2_with fail
  refine bodyPost_ret (v := .agg #[.int .i64 5, .slice p1 (nameL n).length q1, .slice p2 (keyL y).length q2, .slice none 0 0, .slice none 0 0]) ?_ rfl ?_
  · simp [results, Tryd.results15, go_sem, z0, z1, z2, z3, z4]
  refine ⟨_, F2, rfl, ?_, _, _, _, _, rfl, ?_, ?_, ?_, ?_⟩
  · repeat (first | (with_reducible exact hg) | refine Gr.set ?_ (by first | (simp; done) | (simp; omega)) (by first | exact n1 | exact n2) _)
  · exact r1
  · exact r2
  · exact Bs.nil _
  · exact Bs.nil _
set_option maxHeartbeats 4000000 in
theorem request_6 (F : Fz) (w : World) (kind : Int) (a b c d : Value) (n y l x : List UInt8) (hs : Sat w F) (ha : Bs F a n) (hb : Bs F b y) (hc : Bs F c l) (hd : Bs F d x) (k1 : -9223372036854775808 ≤ kind) (k2 : kind ≤ 9223372036854775807) (hp : pick kind 8 = 5) :
    Calls Tryd.prog 15 #[.agg #[.int .i64 kind, a, b, c, d]] w (Gives w F fun F' u => ReqV F' u 6 ([]) ([]) ([]) ([])) := by
  have hP := hid (fun X : World => picked_spec kind 8 X k1 k2 (by omega) (by omega))
  rw [hp] at hP
  clear hp
  go_enter Tryd.func15, Tryd.ntmps15
  go_wp2_with fail
  refine (hP.out _).mono ?_; rintro e w' ⟨rfl, rfl⟩
  go_wp2_with fail
  have xc : (((w.alloc (.cells #[.int .i64 kind, a, b, c, d] 24)).alloc (.cells #[.int .i64 0, .slice none 0 0, .slice none 0 0, .slice none 0 0, .slice none 0 0] 25)).alloc (.cells #[.int .i64 6, .slice none 0 0, .slice none 0 0, .slice none 0 0, .slice none 0 0] 25)).heap[w.heap.size]? = some (.cells #[.int .i64 kind, a, b, c, d] 24) := heap_new_past _ _ (heap_new_past _ _ (heap_new_at w (.cells #[.int .i64 kind, a, b, c, d] 24) (n := w.heap.size) rfl))
  have xz : (((w.alloc (.cells #[.int .i64 kind, a, b, c, d] 24)).alloc (.cells #[.int .i64 0, .slice none 0 0, .slice none 0 0, .slice none 0 0, .slice none 0 0] 25)).alloc (.cells #[.int .i64 6, .slice none 0 0, .slice none 0 0, .slice none 0 0, .slice none 0 0] 25)).heap[w.heap.size + 1]? = some (.cells #[.int .i64 0, .slice none 0 0, .slice none 0 0, .slice none 0 0, .slice none 0 0] 25) := heap_new_past _ _ (heap_new_at _ (.cells #[.int .i64 0, .slice none 0 0, .slice none 0 0, .slice none 0 0, .slice none 0 0] 25) (n := w.heap.size + 1) (by simp))
  have xr : (((w.alloc (.cells #[.int .i64 kind, a, b, c, d] 24)).alloc (.cells #[.int .i64 0, .slice none 0 0, .slice none 0 0, .slice none 0 0, .slice none 0 0] 25)).alloc (.cells #[.int .i64 6, .slice none 0 0, .slice none 0 0, .slice none 0 0, .slice none 0 0] 25)).heap[w.heap.size + 1 + 1]? = some (.cells #[.int .i64 6, .slice none 0 0, .slice none 0 0, .slice none 0 0, .slice none 0 0] 25) := heap_new_at _ (.cells #[.int .i64 6, .slice none 0 0, .slice none 0 0, .slice none 0 0, .slice none 0 0] 25) (n := w.heap.size + 1 + 1) (by simp)
  have hg : Gr w F (((w.alloc (.cells #[.int .i64 kind, a, b, c, d] 24)).alloc (.cells #[.int .i64 0, .slice none 0 0, .slice none 0 0, .slice none 0 0, .slice none 0 0] 25)).alloc (.cells #[.int .i64 6, .slice none 0 0, .slice none 0 0, .slice none 0 0, .slice none 0 0] 25)) F := (((Gr.refl hs).new _).new _).new _
  have n1 : F (w.heap.size + 1) = none := hs.out (by omega)
  have n2 : F (w.heap.size + 1 + 1) = none := hs.out (by omega)
  refine bodyPost_ret (v := .agg #[.int .i64 6, .slice none 0 0, .slice none 0 0, .slice none 0 0, .slice none 0 0]) (by simp [results, Tryd.results15, go_sem]) rfl ⟨_, F, rfl, ?_, _, _, _, _, rfl, Bs.nil F, Bs.nil F, Bs.nil F, Bs.nil F⟩
  exact (((Gr.refl hs).new _).new _).new _
set_option maxHeartbeats 4000000 in
theorem request_7 (F : Fz) (w : World) (kind : Int) (a b c d : Value) (n y l x : List UInt8) (hs : Sat w F) (ha : Bs F a n) (hb : Bs F b y) (hc : Bs F c l) (hd : Bs F d x) (k1 : -9223372036854775808 ≤ kind) (k2 : kind ≤ 9223372036854775807) (hp : pick kind 8 = 6) :
    Calls Tryd.prog 15 #[.agg #[.int .i64 kind, a, b, c, d]] w (Gives w F fun F' u => ReqV F' u 7 ([]) ([]) ([]) ([])) := by
  have hP := hid (fun X : World => picked_spec kind 8 X k1 k2 (by omega) (by omega))
  rw [hp] at hP
  clear hp
  go_enter Tryd.func15, Tryd.ntmps15
  go_wp2_with fail
  refine (hP.out _).mono ?_; rintro e w' ⟨rfl, rfl⟩
  go_wp2_with fail
  have xc : (((w.alloc (.cells #[.int .i64 kind, a, b, c, d] 24)).alloc (.cells #[.int .i64 0, .slice none 0 0, .slice none 0 0, .slice none 0 0, .slice none 0 0] 25)).alloc (.cells #[.int .i64 7, .slice none 0 0, .slice none 0 0, .slice none 0 0, .slice none 0 0] 25)).heap[w.heap.size]? = some (.cells #[.int .i64 kind, a, b, c, d] 24) := heap_new_past _ _ (heap_new_past _ _ (heap_new_at w (.cells #[.int .i64 kind, a, b, c, d] 24) (n := w.heap.size) rfl))
  have xz : (((w.alloc (.cells #[.int .i64 kind, a, b, c, d] 24)).alloc (.cells #[.int .i64 0, .slice none 0 0, .slice none 0 0, .slice none 0 0, .slice none 0 0] 25)).alloc (.cells #[.int .i64 7, .slice none 0 0, .slice none 0 0, .slice none 0 0, .slice none 0 0] 25)).heap[w.heap.size + 1]? = some (.cells #[.int .i64 0, .slice none 0 0, .slice none 0 0, .slice none 0 0, .slice none 0 0] 25) := heap_new_past _ _ (heap_new_at _ (.cells #[.int .i64 0, .slice none 0 0, .slice none 0 0, .slice none 0 0, .slice none 0 0] 25) (n := w.heap.size + 1) (by simp))
  have xr : (((w.alloc (.cells #[.int .i64 kind, a, b, c, d] 24)).alloc (.cells #[.int .i64 0, .slice none 0 0, .slice none 0 0, .slice none 0 0, .slice none 0 0] 25)).alloc (.cells #[.int .i64 7, .slice none 0 0, .slice none 0 0, .slice none 0 0, .slice none 0 0] 25)).heap[w.heap.size + 1 + 1]? = some (.cells #[.int .i64 7, .slice none 0 0, .slice none 0 0, .slice none 0 0, .slice none 0 0] 25) := heap_new_at _ (.cells #[.int .i64 7, .slice none 0 0, .slice none 0 0, .slice none 0 0, .slice none 0 0] 25) (n := w.heap.size + 1 + 1) (by simp)
  have hg : Gr w F (((w.alloc (.cells #[.int .i64 kind, a, b, c, d] 24)).alloc (.cells #[.int .i64 0, .slice none 0 0, .slice none 0 0, .slice none 0 0, .slice none 0 0] 25)).alloc (.cells #[.int .i64 7, .slice none 0 0, .slice none 0 0, .slice none 0 0, .slice none 0 0] 25)) F := (((Gr.refl hs).new _).new _).new _
  have n1 : F (w.heap.size + 1) = none := hs.out (by omega)
  have n2 : F (w.heap.size + 1 + 1) = none := hs.out (by omega)
  refine bodyPost_ret (v := .agg #[.int .i64 7, .slice none 0 0, .slice none 0 0, .slice none 0 0, .slice none 0 0]) (by simp [results, Tryd.results15, go_sem]) rfl ⟨_, F, rfl, ?_, _, _, _, _, rfl, Bs.nil F, Bs.nil F, Bs.nil F, Bs.nil F⟩
  exact (((Gr.refl hs).new _).new _).new _
set_option maxHeartbeats 4000000 in
theorem request_8 (F : Fz) (w : World) (kind : Int) (a b c d : Value) (n y l x : List UInt8) (hs : Sat w F) (ha : Bs F a n) (hb : Bs F b y) (hc : Bs F c l) (hd : Bs F d x) (k1 : -9223372036854775808 ≤ kind) (k2 : kind ≤ 9223372036854775807) (hp : pick kind 8 = 7) :
    Calls Tryd.prog 15 #[.agg #[.int .i64 kind, a, b, c, d]] w (Gives w F fun F' u => ReqV F' u 8 (nameL n) (keyL y) ([]) ([])) := by
  have hP := hid (fun X : World => picked_spec kind 8 X k1 k2 (by omega) (by omega))
  rw [hp] at hP
  clear hp
  go_enter Tryd.func15, Tryd.ntmps15
  go_wp2_with fail
  refine (hP.out _).mono ?_; rintro e w' ⟨rfl, rfl⟩
  go_wp2_with fail
  have xc : (((w.alloc (.cells #[.int .i64 kind, a, b, c, d] 24)).alloc (.cells #[.int .i64 0, .slice none 0 0, .slice none 0 0, .slice none 0 0, .slice none 0 0] 25)).alloc (.cells #[.int .i64 8, .slice none 0 0, .slice none 0 0, .slice none 0 0, .slice none 0 0] 25)).heap[w.heap.size]? = some (.cells #[.int .i64 kind, a, b, c, d] 24) := heap_new_past _ _ (heap_new_past _ _ (heap_new_at w (.cells #[.int .i64 kind, a, b, c, d] 24) (n := w.heap.size) rfl))
  have xz : (((w.alloc (.cells #[.int .i64 kind, a, b, c, d] 24)).alloc (.cells #[.int .i64 0, .slice none 0 0, .slice none 0 0, .slice none 0 0, .slice none 0 0] 25)).alloc (.cells #[.int .i64 8, .slice none 0 0, .slice none 0 0, .slice none 0 0, .slice none 0 0] 25)).heap[w.heap.size + 1]? = some (.cells #[.int .i64 0, .slice none 0 0, .slice none 0 0, .slice none 0 0, .slice none 0 0] 25) := heap_new_past _ _ (heap_new_at _ (.cells #[.int .i64 0, .slice none 0 0, .slice none 0 0, .slice none 0 0, .slice none 0 0] 25) (n := w.heap.size + 1) (by simp))
  have xr : (((w.alloc (.cells #[.int .i64 kind, a, b, c, d] 24)).alloc (.cells #[.int .i64 0, .slice none 0 0, .slice none 0 0, .slice none 0 0, .slice none 0 0] 25)).alloc (.cells #[.int .i64 8, .slice none 0 0, .slice none 0 0, .slice none 0 0, .slice none 0 0] 25)).heap[w.heap.size + 1 + 1]? = some (.cells #[.int .i64 8, .slice none 0 0, .slice none 0 0, .slice none 0 0, .slice none 0 0] 25) := heap_new_at _ (.cells #[.int .i64 8, .slice none 0 0, .slice none 0 0, .slice none 0 0, .slice none 0 0] 25) (n := w.heap.size + 1 + 1) (by simp)
  have hg : Gr w F (((w.alloc (.cells #[.int .i64 kind, a, b, c, d] 24)).alloc (.cells #[.int .i64 0, .slice none 0 0, .slice none 0 0, .slice none 0 0, .slice none 0 0] 25)).alloc (.cells #[.int .i64 8, .slice none 0 0, .slice none 0 0, .slice none 0 0, .slice none 0 0] 25)) F := (((Gr.refl hs).new _).new _).new _
  have n1 : F (w.heap.size + 1) = none := hs.out (by omega)
  have n2 : F (w.heap.size + 1 + 1) = none := hs.out (by omega)
  generalize (((w.alloc (.cells #[.int .i64 kind, a, b, c, d] 24)).alloc (.cells #[.int .i64 0, .slice none 0 0, .slice none 0 0, .slice none 0 0, .slice none 0 0] 25)).alloc (.cells #[.int .i64 8, .slice none 0 0, .slice none 0 0, .slice none 0 0, .slice none 0 0] 25)) = W at *
  refine (name_spec F _ _ n hg.sat ha).mono ?_; rintro e w1 ⟨v1, F1, rfl, g1, r1⟩
  have lp := g1.le hg.sat
  replace ha := ha.mono lp; replace hb := hb.mono lp; replace hc := hc.mono lp; replace hd := hd.mono lp
  replace n1 : F1 (w.heap.size + 1) = none := g1.out (Array.getElem?_eq_some_iff.1 xz).1 n1
  replace n2 : F1 (w.heap.size + 1 + 1) = none := g1.out (Array.getElem?_eq_some_iff.1 xr).1 n2
  replace hg := hg.trans g1
  replace xc := heap_kept g1.below xc; replace xz := heap_kept g1.below xz; replace xr := heap_kept g1.below xr
  clear g1 lp
  obtain ⟨p1, q1, rfl, _, _⟩ := r1.shape
  obtain ⟨s0, s1, s2, s3, s4, sf⟩ := box5 xr
  obtain ⟨t0, t1, t2, t3, t4, tf⟩ := box5 xc
  obtain ⟨z0, z1, z2, z3, z4, zf⟩ := box5 xz
  have xr' := heap_set_at xr 1 (.slice p1 (nameL n).length q1)
  have xc' := heap_set_past xc (a := ⟨w.heap.size + 1 + 1, 1, none⟩) (by simp; try omega) (.slice p1 (nameL n).length q1)
  have xz' := heap_set_past xz (a := ⟨w.heap.size + 1 + 1, 1, none⟩) (by simp; try omega) (.slice p1 (nameL n).length q1)
  have hg' := hg.set (a := ⟨w.heap.size + 1 + 1, 1, none⟩) (by simp; try omega) n2 (.slice p1 (nameL n).length q1)
  go_wp2_with fail
  clear s0 s1 s2 s3 s4 sf t0 t1 t2 t3 t4 tf z0 z1 z2 z3 z4 zf
  generalize w1.setCell ⟨w.heap.size + 1 + 1, 1, none⟩ (.slice p1 (nameL n).length q1) = W1 at *
  clear xr xc xz hg
  have xr := xr'; have xc := xc'; have xz := xz'; have hg := hg'; clear xr' xc' xz' hg'
  refine (key_spec F1 _ _ y hg.sat hb).mono ?_; rintro e w2 ⟨v2, F2, rfl, g2, r2⟩
  have lp := g2.le hg.sat
  replace ha := ha.mono lp; replace hb := hb.mono lp; replace hc := hc.mono lp; replace hd := hd.mono lp
  replace r1 := r1.mono lp
  replace n1 : F2 (w.heap.size + 1) = none := g2.out (Array.getElem?_eq_some_iff.1 xz).1 n1
  replace n2 : F2 (w.heap.size + 1 + 1) = none := g2.out (Array.getElem?_eq_some_iff.1 xr).1 n2
  replace hg := hg.trans g2
  replace xc := heap_kept g2.below xc; replace xz := heap_kept g2.below xz; replace xr := heap_kept g2.below xr
  clear g2 lp
  obtain ⟨p2, q2, rfl, _, _⟩ := r2.shape
  obtain ⟨s0, s1, s2, s3, s4, sf⟩ := box5 xr
  obtain ⟨t0, t1, t2, t3, t4, tf⟩ := box5 xc
  obtain ⟨z0, z1, z2, z3, z4, zf⟩ := box5 xz
  have xr' := heap_set_at xr 2 (.slice p2 (keyL y).length q2)
  have xc' := heap_set_past xc (a := ⟨w.heap.size + 1 + 1, 2, none⟩) (by simp; try omega) (.slice p2 (keyL y).length q2)
  have xz' := heap_set_past xz (a := ⟨w.heap.size + 1 + 1, 2, none⟩) (by simp; try omega) (.slice p2 (keyL y).length q2)
  have hg' := hg.set (a := ⟨w.heap.size + 1 + 1, 2, none⟩) (by simp; try omega) n2 (.slice p2 (keyL y).length q2)
  clear xr' xc' xz' hg'
  go_wp2_with fail
  refine bodyPost_ret (v := .agg #[.int .i64 8, .slice p1 (nameL n).length q1, .slice p2 (keyL y).length q2, .slice none 0 0, .slice none 0 0]) ?_ rfl ?_
  · simp [results, Tryd.results15, go_sem, z0, z1, z2, z3, z4]
  refine ⟨_, F2, rfl, ?_, _, _, _, _, rfl, ?_, ?_, ?_, ?_⟩
  · repeat (first | (with_reducible exact hg) | refine Gr.set ?_ (by first | (simp; done) | (simp; omega)) (by first | exact n1 | exact n2) _)
  · exact r1
  · exact r2
  · exact Bs.nil _
  · exact Bs.nil _
theorem request_spec (F : Fz) (w : World) (kind : Int) (a b c d : Value) (n y l x : List UInt8) (hs : Sat w F) (ha : Bs F a n) (hb : Bs F b y) (hc : Bs F c l) (hd : Bs F d x) (k1 : -9223372036854775808 ≤ kind) (k2 : kind ≤ 9223372036854775807) :
    Calls Tryd.prog 15 #[.agg #[.int .i64 kind, a, b, c, d]] w (Gives w F fun F' u => ReqV F' u (reqKind kind) (reqName kind n) (reqKey kind y) (reqLast kind l) (reqValue kind x)) := by
  obtain ⟨p1, p2⟩ := pick_bd kind 8 (by omega)
  rcases (by omega : pick kind 8 = 0 ∨ pick kind 8 = 1 ∨ pick kind 8 = 2 ∨ pick kind 8 = 3 ∨ pick kind 8 = 4 ∨ pick kind 8 = 5 ∨ pick kind 8 = 6 ∨ pick kind 8 = 7) with h | h | h | h | h | h | h | h
  · have K : reqKind kind = 1 := by unfold reqKind; omega
    have e1 : reqName kind n = [] := by unfold reqName; rw [K]; rfl
    have e2 : reqKey kind y = [] := by unfold reqKey; rw [K]; rfl
    have e3 : reqLast kind l = [] := by unfold reqLast; rw [K]; rfl
    have e4 : reqValue kind x = [] := by unfold reqValue; rw [K]; rfl
    rw [K, e1, e2, e3, e4]
    exact request_1 F w kind a b c d n y l x hs ha hb hc hd k1 k2 h
  · have K : reqKind kind = 2 := by unfold reqKind; omega
    have e1 : reqName kind n = nameL n := by unfold reqName; rw [K]; rfl
    have e2 : reqKey kind y = keyL y := by unfold reqKey; rw [K]; rfl
    have e3 : reqLast kind l = [] := by unfold reqLast; rw [K]; rfl
    have e4 : reqValue kind x = [] := by unfold reqValue; rw [K]; rfl
    rw [K, e1, e2, e3, e4]
    exact request_2 F w kind a b c d n y l x hs ha hb hc hd k1 k2 h
  · have K : reqKind kind = 3 := by unfold reqKind; omega
    have e1 : reqName kind n = nameL n := by unfold reqName; rw [K]; rfl
    have e2 : reqKey kind y = keyL y := by unfold reqKey; rw [K]; rfl
    have e3 : reqLast kind l = keyL l := by unfold reqLast; rw [K]; rfl
    have e4 : reqValue kind x = [] := by unfold reqValue; rw [K]; rfl
    rw [K, e1, e2, e3, e4]
    exact request_3 F w kind a b c d n y l x hs ha hb hc hd k1 k2 h
  · have K : reqKind kind = 4 := by unfold reqKind; omega
    have e1 : reqName kind n = nameL n := by unfold reqName; rw [K]; rfl
    have e2 : reqKey kind y = keyL y := by unfold reqKey; rw [K]; rfl
    have e3 : reqLast kind l = [] := by unfold reqLast; rw [K]; rfl
    have e4 : reqValue kind x = x.take 32 := by unfold reqValue; rw [K]; rfl
    rw [K, e1, e2, e3, e4]
    exact request_4 F w kind a b c d n y l x hs ha hb hc hd k1 k2 h
  · have K : reqKind kind = 5 := by unfold reqKind; omega
    have e1 : reqName kind n = nameL n := by unfold reqName; rw [K]; rfl
    have e2 : reqKey kind y = keyL y := by unfold reqKey; rw [K]; rfl
    have e3 : reqLast kind l = [] := by unfold reqLast; rw [K]; rfl
    have e4 : reqValue kind x = [] := by unfold reqValue; rw [K]; rfl
    rw [K, e1, e2, e3, e4]
    exact request_5 F w kind a b c d n y l x hs ha hb hc hd k1 k2 h
  · have K : reqKind kind = 6 := by unfold reqKind; omega
    have e1 : reqName kind n = [] := by unfold reqName; rw [K]; rfl
    have e2 : reqKey kind y = [] := by unfold reqKey; rw [K]; rfl
    have e3 : reqLast kind l = [] := by unfold reqLast; rw [K]; rfl
    have e4 : reqValue kind x = [] := by unfold reqValue; rw [K]; rfl
    rw [K, e1, e2, e3, e4]
    exact request_6 F w kind a b c d n y l x hs ha hb hc hd k1 k2 h
  · have K : reqKind kind = 7 := by unfold reqKind; omega
    have e1 : reqName kind n = [] := by unfold reqName; rw [K]; rfl
    have e2 : reqKey kind y = [] := by unfold reqKey; rw [K]; rfl
    have e3 : reqLast kind l = [] := by unfold reqLast; rw [K]; rfl
    have e4 : reqValue kind x = [] := by unfold reqValue; rw [K]; rfl
    rw [K, e1, e2, e3, e4]
    exact request_7 F w kind a b c d n y l x hs ha hb hc hd k1 k2 h
  · have K : reqKind kind = 8 := by unfold reqKind; omega
    have e1 : reqName kind n = nameL n := by unfold reqName; rw [K]; rfl
    have e2 : reqKey kind y = keyL y := by unfold reqKey; rw [K]; rfl
    have e3 : reqLast kind l = [] := by unfold reqLast; rw [K]; rfl
    have e4 : reqValue kind x = [] := by unfold reqValue; rw [K]; rfl
    rw [K, e1, e2, e3, e4]
    exact request_8 F w kind a b c d n y l x hs ha hb hc hd k1 k2 h
end Go.Proofs.YtokfcofjdbnagaaDoor
