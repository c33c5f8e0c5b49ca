/- Rules, plain laws and walks: W2 W3 T1 PW BY WQ1 -/
import Derived.Test.YticbfdhdipfjmaaDoorBX10
import Derived.Test.YticbfdhdipfjmaaDoorBX2
import Derived.Test.YticbfdhdipfjmaaDoorBX4
namespace Go.Proofs.YticbfdhdipfjmaaDoor
open Go.RowKit
set_option maxRecDepth 100000
set_option linter.unusedVariables false
def reqKind (kind : Int) : Int := 1 + pick kind 8
def reqHas (k : Int) : Bool := k == 2 || k == 3 || k == 4 || k == 5 || k == 8
def reqName (kind : Int) (n : List UInt8) : List UInt8 := if reqHas (reqKind kind) then nameL n else []
def reqKey (kind : Int) (n : List UInt8) : List UInt8 := if reqHas (reqKind kind) then keyL n else []
def reqLast (kind : Int) (n : List UInt8) : List UInt8 := if reqKind kind = 3 then keyL n else []
def reqValue (kind : Int) (n : List UInt8) : List UInt8 := if reqKind kind = 4 then n.take 32 else []
theorem reqKind_bd (kind : Int) : 1 ≤ reqKind kind ∧ reqKind kind ≤ 8 := by have := pick_bd kind 8 (by omega); unfold reqKind; omega
set_option maxHeartbeats 4000000 in
theorem request_1 (F : Fz) (w : World) (kind : Int) (a b c d : Value) (n y l x : List UInt8) (hs : Sat w F) (ha : Bs F a n) (hb : Bs F b y) (hc : Bs F c l) (hd : Bs F d x) (k1 : -9223372036854775808 ≤ kind) (k2 : kind ≤ 9223372036854775807) (hp : pick kind 8 = 0) :
    Calls Tryd.prog 10 #[.agg #[.int .i64 kind, a, b, c, d]] w (Gives w F fun F' u => ReqV F' u 1 ([]) ([]) ([]) ([])) := by
  have hP := hid (fun X : World => picked_spec kind 8 X k1 k2 (by omega) (by omega))
  rw [hp] at hP
  clear hp
  go_enter Tryd.func10, Tryd.ntmps10
  go_wp2_with fail
  refine (hP.out _).mono ?_; rintro e w' ⟨rfl, rfl⟩
  go_wp2_with fail
  have xc : (((w.alloc (.cells #[.int .i64 kind, a, b, c, d] 24)).alloc (.cells #[.int .i64 0, .slice none 0 0, .slice none 0 0, .slice none 0 0, .slice none 0 0] 25)).alloc (.cells #[.int .i64 1, .slice none 0 0, .slice none 0 0, .slice none 0 0, .slice none 0 0] 25)).heap[w.heap.size]? = some (.cells #[.int .i64 kind, a, b, c, d] 24) := heap_new_past _ _ (heap_new_past _ _ (heap_new_at w (.cells #[.int .i64 kind, a, b, c, d] 24) (n := w.heap.size) rfl))
  have xz : (((w.alloc (.cells #[.int .i64 kind, a, b, c, d] 24)).alloc (.cells #[.int .i64 0, .slice none 0 0, .slice none 0 0, .slice none 0 0, .slice none 0 0] 25)).alloc (.cells #[.int .i64 1, .slice none 0 0, .slice none 0 0, .slice none 0 0, .slice none 0 0] 25)).heap[w.heap.size + 1]? = some (.cells #[.int .i64 0, .slice none 0 0, .slice none 0 0, .slice none 0 0, .slice none 0 0] 25) := heap_new_past _ _ (heap_new_at _ (.cells #[.int .i64 0, .slice none 0 0, .slice none 0 0, .slice none 0 0, .slice none 0 0] 25) (n := w.heap.size + 1) (by simp))
  have xr : (((w.alloc (.cells #[.int .i64 kind, a, b, c, d] 24)).alloc (.cells #[.int .i64 0, .slice none 0 0, .slice none 0 0, .slice none 0 0, .slice none 0 0] 25)).alloc (.cells #[.int .i64 1, .slice none 0 0, .slice none 0 0, .slice none 0 0, .slice none 0 0] 25)).heap[w.heap.size + 1 + 1]? = some (.cells #[.int .i64 1, .slice none 0 0, .slice none 0 0, .slice none 0 0, .slice none 0 0] 25) := heap_new_at _ (.cells #[.int .i64 1, .slice none 0 0, .slice none 0 0, .slice none 0 0, .slice none 0 0] 25) (n := w.heap.size + 1 + 1) (by simp)
  have hg : Gr w F (((w.alloc (.cells #[.int .i64 kind, a, b, c, d] 24)).alloc (.cells #[.int .i64 0, .slice none 0 0, .slice none 0 0, .slice none 0 0, .slice none 0 0] 25)).alloc (.cells #[.int .i64 1, .slice none 0 0, .slice none 0 0, .slice none 0 0, .slice none 0 0] 25)) F := (((Gr.refl hs).new _).new _).new _
  have n1 : F (w.heap.size + 1) = none := hs.out (by omega)
  have n2 : F (w.heap.size + 1 + 1) = none := hs.out (by omega)
  refine bodyPost_ret (v := .agg #[.int .i64 1, .slice none 0 0, .slice none 0 0, .slice none 0 0, .slice none 0 0]) (by simp [results, Tryd.results10, go_sem]) rfl ⟨_, F, rfl, ?_, _, _, _, _, rfl, Bs.nil F, Bs.nil F, Bs.nil F, Bs.nil F⟩
  exact (((Gr.refl hs).new _).new _).new _
set_option maxHeartbeats 4000000 in
theorem request_2 (F : Fz) (w : World) (kind : Int) (a b c d : Value) (n y l x : List UInt8) (hs : Sat w F) (ha : Bs F a n) (hb : Bs F b y) (hc : Bs F c l) (hd : Bs F d x) (k1 : -9223372036854775808 ≤ kind) (k2 : kind ≤ 9223372036854775807) (hp : pick kind 8 = 1) :
    Calls Tryd.prog 10 #[.agg #[.int .i64 kind, a, b, c, d]] w (Gives w F fun F' u => ReqV F' u 2 (nameL n) (keyL y) ([]) ([])) := by
  have hP := hid (fun X : World => picked_spec kind 8 X k1 k2 (by omega) (by omega))
  rw [hp] at hP
  clear hp
  go_enter Tryd.func10, Tryd.ntmps10
  go_wp2_with fail
  refine (hP.out _).mono ?_; rintro e w' ⟨rfl, rfl⟩
  go_wp2_with fail
  have xc : (((w.alloc (.cells #[.int .i64 kind, a, b, c, d] 24)).alloc (.cells #[.int .i64 0, .slice none 0 0, .slice none 0 0, .slice none 0 0, .slice none 0 0] 25)).alloc (.cells #[.int .i64 2, .slice none 0 0, .slice none 0 0, .slice none 0 0, .slice none 0 0] 25)).heap[w.heap.size]? = some (.cells #[.int .i64 kind, a, b, c, d] 24) := heap_new_past _ _ (heap_new_past _ _ (heap_new_at w (.cells #[.int .i64 kind, a, b, c, d] 24) (n := w.heap.size) rfl))
  have xz : (((w.alloc (.cells #[.int .i64 kind, a, b, c, d] 24)).alloc (.cells #[.int .i64 0, .slice none 0 0, .slice none 0 0, .slice none 0 0, .slice none 0 0] 25)).alloc (.cells #[.int .i64 2, .slice none 0 0, .slice none 0 0, .slice none 0 0, .slice none 0 0] 25)).heap[w.heap.size + 1]? = some (.cells #[.int .i64 0, .slice none 0 0, .slice none 0 0, .slice none 0 0, .slice none 0 0] 25) := heap_new_past _ _ (heap_new_at _ (.cells #[.int .i64 0, .slice none 0 0, .slice none 0 0, .slice none 0 0, .slice none 0 0] 25) (n := w.heap.size + 1) (by simp))
  have xr : (((w.alloc (.cells #[.int .i64 kind, a, b, c, d] 24)).alloc (.cells #[.int .i64 0, .slice none 0 0, .slice none 0 0, .slice none 0 0, .slice none 0 0] 25)).alloc (.cells #[.int .i64 2, .slice none 0 0, .slice none 0 0, .slice none 0 0, .slice none 0 0] 25)).heap[w.heap.size + 1 + 1]? = some (.cells #[.int .i64 2, .slice none 0 0, .slice none 0 0, .slice none 0 0, .slice none 0 0] 25) := heap_new_at _ (.cells #[.int .i64 2, .slice none 0 0, .slice none 0 0, .slice none 0 0, .slice none 0 0] 25) (n := w.heap.size + 1 + 1) (by simp)
  have hg : Gr w F (((w.alloc (.cells #[.int .i64 kind, a, b, c, d] 24)).alloc (.cells #[.int .i64 0, .slice none 0 0, .slice none 0 0, .slice none 0 0, .slice none 0 0] 25)).alloc (.cells #[.int .i64 2, .slice none 0 0, .slice none 0 0, .slice none 0 0, .slice none 0 0] 25)) F := (((Gr.refl hs).new _).new _).new _
  have n1 : F (w.heap.size + 1) = none := hs.out (by omega)
  have n2 : F (w.heap.size + 1 + 1) = none := hs.out (by omega)
  generalize (((w.alloc (.cells #[.int .i64 kind, a, b, c, d] 24)).alloc (.cells #[.int .i64 0, .slice none 0 0, .slice none 0 0, .slice none 0 0, .slice none 0 0] 25)).alloc (.cells #[.int .i64 2, .slice none 0 0, .slice none 0 0, .slice none 0 0, .slice none 0 0] 25)) = W at *
  refine (name_spec F _ _ n hg.sat ha).mono ?_; rintro e w1 ⟨v1, F1, rfl, g1, r1⟩
  have lp := g1.le hg.sat
  replace ha := ha.mono lp; replace hb := hb.mono lp; replace hc := hc.mono lp; replace hd := hd.mono lp
  replace n1 : F1 (w.heap.size + 1) = none := g1.out (Array.getElem?_eq_some_iff.1 xz).1 n1
  replace n2 : F1 (w.heap.size + 1 + 1) = none := g1.out (Array.getElem?_eq_some_iff.1 xr).1 n2
  replace hg := hg.trans g1
  replace xc := heap_kept g1.below xc; replace xz := heap_kept g1.below xz; replace xr := heap_kept g1.below xr
  clear g1 lp
  obtain ⟨p1, q1, rfl, _, _⟩ := r1.shape
  obtain ⟨s0, s1, s2, s3, s4, sf⟩ := box5 xr
  obtain ⟨t0, t1, t2, t3, t4, tf⟩ := box5 xc
  obtain ⟨z0, z1, z2, z3, z4, zf⟩ := box5 xz
  have xr' := heap_set_at xr 1 (.slice p1 (nameL n).length q1)
  have xc' := heap_set_past xc (a := ⟨w.heap.size + 1 + 1, 1, none⟩) (by simp; try omega) (.slice p1 (nameL n).length q1)
  have xz' := heap_set_past xz (a := ⟨w.heap.size + 1 + 1, 1, none⟩) (by simp; try omega) (.slice p1 (nameL n).length q1)
  have hg' := hg.set (a := ⟨w.heap.size + 1 + 1, 1, none⟩) (by simp; try omega) n2 (.slice p1 (nameL n).length q1)
  go_wp2_with fail
  clear s0 s1 s2 s3 s4 sf t0 t1 t2 t3 t4 tf z0 z1 z2 z3 z4 zf
  generalize w1.setCell ⟨w.heap.size + 1 + 1, 1, none⟩ (.slice p1 (nameL n).length q1) = W1 at *
  clear xr xc xz hg
  have xr := xr'; have xc := xc'; have xz := xz'; have hg := hg'; clear xr' xc' xz' hg'
  refine (key_spec F1 _ _ y hg.sat hb).mono ?_; rintro e w2 ⟨v2, F2, rfl, g2, r2⟩
  have lp := g2.le hg.sat
  replace ha := ha.mono lp; replace hb := hb.mono lp; replace hc := hc.mono lp; replace hd := hd.mono lp
  replace r1 := r1.mono lp
  replace n1 : F2 (w.heap.size + 1) = none := g2.out (Array.getElem?_eq_some_iff.1 xz).1 n1
  replace n2 : F2 (w.heap.size + 1 + 1) = none := g2.out (Array.getElem?_eq_some_iff.1 xr).1 n2
  replace hg := hg.trans g2
  replace xc := heap_kept g2.below xc; replace xz := heap_kept g2.below xz; replace xr := heap_kept g2.below xr
  clear g2 lp
  obtain ⟨p2, q2, rfl, _, _⟩ := r2.shape
  obtain ⟨s0, s1, s2, s3, s4, sf⟩ := box5 xr
  obtain ⟨t0, t1, t2, t3, t4, tf⟩ := box5 xc
  obtain ⟨z0, z1, z2, z3, z4, zf⟩ := box5 xz
  have xr' := heap_set_at xr 2 (.slice p2 (keyL y).length q2)
  have xc' := heap_set_past xc (a := ⟨w.heap.size + 1 + 1, 2, none⟩) (by simp; try omega) (.slice p2 (keyL y).length q2)
  have xz' := heap_set_past xz (a := ⟨w.heap.size + 1 + 1, 2, none⟩) (by simp; try omega) (.slice p2 (keyL y).length q2)
  have hg' := hg.set (a := ⟨w.heap.size + 1 + 1, 2, none⟩) (by simp; try omega) n2 (.slice p2 (keyL y).length q2)
  clear xr' xc' xz' hg'
  go_wp2_with fail
  refine bodyPost_ret (v := .agg #[.int .i64 2, .slice p1 (nameL n).length q1, .slice p2 (keyL y).length q2, .slice none 0 0, .slice none 0 0]) ?_ rfl ?_
  · simp [results, Tryd.results10, go_sem, z0, z1, z2, z3, z4]
  refine ⟨_, F2, rfl, ?_, _, _, _, _, rfl, ?_, ?_, ?_, ?_⟩
  · repeat (first | (with_reducible exact hg) | refine Gr.set ?_ (by first | (simp; done) | (simp; omega)) (by first | exact n1 | exact n2) _)
  · exact r1
  · exact r2
  · exact Bs.nil _
  · exact Bs.nil _
set_option maxHeartbeats 4000000 in
theorem request_3 (F : Fz) (w : World) (kind : Int) (a b c d : Value) (n y l x : List UInt8) (hs : Sat w F) (ha : Bs F a n) (hb : Bs F b y) (hc : Bs F c l) (hd : Bs F d x) (k1 : -9223372036854775808 ≤ kind) (k2 : kind ≤ 9223372036854775807) (hp : pick kind 8 = 2) :
    Calls Tryd.prog 10 #[.agg #[.int .i64 kind, a, b, c, d]] w (Gives w F fun F' u => ReqV F' u 3 (nameL n) (keyL y) (keyL l) ([])) := by
  have hP := hid (fun X : World => picked_spec kind 8 X k1 k2 (by omega) (by omega))
  rw [hp] at hP
  clear hp
  go_enter Tryd.func10, Tryd.ntmps10
  go_wp2_with fail
  refine (hP.out _).mono ?_; rintro e w' ⟨rfl, rfl⟩
  go_wp2_with fail
  have xc : (((w.alloc (.cells #[.int .i64 kind, a, b, c, d] 24)).alloc (.cells #[.int .i64 0, .slice none 0 0, .slice none 0 0, .slice none 0 0, .slice none 0 0] 25)).alloc (.cells #[.int .i64 3, .slice none 0 0, .slice none 0 0, .slice none 0 0, .slice none 0 0] 25)).heap[w.heap.size]? = some (.cells #[.int .i64 kind, a, b, c, d] 24) := heap_new_past _ _ (heap_new_past _ _ (heap_new_at w (.cells #[.int .i64 kind, a, b, c, d] 24) (n := w.heap.size) rfl))
  have xz : (((w.alloc (.cells #[.int .i64 kind, a, b, c, d] 24)).alloc (.cells #[.int .i64 0, .slice none 0 0, .slice none 0 0, .slice none 0 0, .slice none 0 0] 25)).alloc (.cells #[.int .i64 3, .slice none 0 0, .slice none 0 0, .slice none 0 0, .slice none 0 0] 25)).heap[w.heap.size + 1]? = some (.cells #[.int .i64 0, .slice none 0 0, .slice none 0 0, .slice none 0 0, .slice none 0 0] 25) := heap_new_past _ _ (heap_new_at _ (.cells #[.int .i64 0, .slice none 0 0, .slice none 0 0, .slice none 0 0, .slice none 0 0] 25) (n := w.heap.size + 1) (by simp))
  have xr : (((w.alloc (.cells #[.int .i64 kind, a, b, c, d] 24)).alloc (.cells #[.int .i64 0, .slice none 0 0, .slice none 0 0, .slice none 0 0, .slice none 0 0] 25)).alloc (.cells #[.int .i64 3, .slice none 0 0, .slice none 0 0, .slice none 0 0, .slice none 0 0] 25)).heap[w.heap.size + 1 + 1]? = some (.cells #[.int .i64 3, .slice none 0 0, .slice none 0 0, .slice none 0 0, .slice none 0 0] 25) := heap_new_at _ (.cells #[.int .i64 3, .slice none 0 0, .slice none 0 0, .slice none 0 0, .slice none 0 0] 25) (n := w.heap.size + 1 + 1) (by simp)
  have hg : Gr w F (((w.alloc (.cells #[.int .i64 kind, a, b, c, d] 24)).alloc (.cells #[.int .i64 0, .slice none 0 0, .slice none 0 0, .slice none 0 0, .slice none 0 0] 25)).alloc (.cells #[.int .i64 3, .slice none 0 0, .slice none 0 0, .slice none 0 0, .slice none 0 0] 25)) F := (((Gr.refl hs).new _).new _).new _
  have n1 : F (w.heap.size + 1) = none := hs.out (by omega)
  have n2 : F (w.heap.size + 1 + 1) = none := hs.out (by omega)
  generalize (((w.alloc (.cells #[.int .i64 kind, a, b, c, d] 24)).alloc (.cells #[.int .i64 0, .slice none 0 0, .slice none 0 0, .slice none 0 0, .slice none 0 0] 25)).alloc (.cells #[.int .i64 3, .slice none 0 0, .slice none 0 0, .slice none 0 0, .slice none 0 0] 25)) = W at *
  refine (name_spec F _ _ n hg.sat ha).mono ?_; rintro e w1 ⟨v1, F1, rfl, g1, r1⟩
  have lp := g1.le hg.sat
  replace ha := ha.mono lp; replace hb := hb.mono lp; replace hc := hc.mono lp; replace hd := hd.mono lp
  replace n1 : F1 (w.heap.size + 1) = none := g1.out (Array.getElem?_eq_some_iff.1 xz).1 n1
  replace n2 : F1 (w.heap.size + 1 + 1) = none := g1.out (Array.getElem?_eq_some_iff.1 xr).1 n2
  replace hg := hg.trans g1
  replace xc := heap_kept g1.below xc; replace xz := heap_kept g1.below xz; replace xr := heap_kept g1.below xr
  clear g1 lp
  obtain ⟨p1, q1, rfl, _, _⟩ := r1.shape
  obtain ⟨s0, s1, s2, s3, s4, sf⟩ := box5 xr
  obtain ⟨t0, t1, t2, t3, t4, tf⟩ := box5 xc
  obtain ⟨z0, z1, z2, z3, z4, zf⟩ := box5 xz
  have xr' := heap_set_at xr 1 (.slice p1 (nameL n).length q1)
  have xc' := heap_set_past xc (a := ⟨w.heap.size + 1 + 1, 1, none⟩) (by simp; try omega) (.slice p1 (nameL n).length q1)
  have xz' := heap_set_past xz (a := ⟨w.heap.size + 1 + 1, 1, none⟩) (by simp; try omega) (.slice p1 (nameL n).length q1)
  have hg' := hg.set (a := ⟨w.heap.size + 1 + 1, 1, none⟩) (by simp; try omega) n2 (.slice p1 (nameL n).length q1)
  go_wp2_with fail
  clear s0 s1 s2 s3 s4 sf t0 t1 t2 t3 t4 tf z0 z1 z2 z3 z4 zf
  generalize w1.setCell ⟨w.heap.size + 1 + 1, 1, none⟩ (.slice p1 (nameL n).length q1) = W1 at *
  clear xr xc xz hg
  have xr := xr'; have xc := xc'; have xz := xz'; have hg := hg'; clear xr' xc' xz' hg'
  refine (key_spec F1 _ _ y hg.sat hb).mono ?_; rintro e w2 ⟨v2, F2, rfl, g2, r2⟩
  have lp := g2.le hg.sat
  replace ha := ha.mono lp; replace hb := hb.mono lp; replace hc := hc.mono lp; replace hd := hd.mono lp
  replace r1 := r1.mono lp
  replace n1 : F2 (w.heap.size + 1) = none := g2.out (Array.getElem?_eq_some_iff.1 xz).1 n1
  replace n2 : F2 (w.heap.size + 1 + 1) = none := g2.out (Array.getElem?_eq_some_iff.1 xr).1 n2
  replace hg := hg.trans g2
  replace xc := heap_kept g2.below xc; replace xz := heap_kept g2.below xz; replace xr := heap_kept g2.below xr
  clear g2 lp
  obtain ⟨p2, q2, rfl, _, _⟩ := r2.shape
  obtain ⟨s0, s1, s2, s3, s4, sf⟩ := box5 xr
  obtain ⟨t0, t1, t2, t3, t4, tf⟩ := box5 xc
  obtain ⟨z0, z1, z2, z3, z4, zf⟩ := box5 xz
  have xr' := heap_set_at xr 2 (.slice p2 (keyL y).length q2)
  have xc' := heap_set_past xc (a := ⟨w.heap.size + 1 + 1, 2, none⟩) (by simp; try omega) (.slice p2 (keyL y).length q2)
  have xz' := heap_set_past xz (a := ⟨w.heap.size + 1 + 1, 2, none⟩) (by simp; try omega) (.slice p2 (keyL y).length q2)
  have hg' := hg.set (a := ⟨w.heap.size + 1 + 1, 2, none⟩) (by simp; try omega) n2 (.slice p2 (keyL y).length q2)
  go_wp2_with fail
  clear s0 s1 s2 s3 s4 sf t0 t1 t2 t3 t4 tf z0 z1 z2 z3 z4 zf
  generalize w2.setCell ⟨w.heap.size + 1 + 1, 2, none⟩ (.slice p2 (keyL y).length q2) = W2 at *
  clear xr xc xz hg
  have xr := xr'; have xc := xc'; have xz := xz'; have hg := hg'; clear xr' xc' xz' hg'
  refine (key_spec F2 _ _ l hg.sat hc).mono ?_; rintro e w3 ⟨v3, F3, rfl, g3, r3⟩
  have lp := g3.le hg.sat
  replace ha := ha.mono lp; replace hb := hb.mono lp; replace hc := hc.mono lp; replace hd := hd.mono lp
  replace r1 := r1.mono lp
  replace r2 := r2.mono lp
  replace n1 : F3 (w.heap.size + 1) = none := g3.out (Array.getElem?_eq_some_iff.1 xz).1 n1
  replace n2 : F3 (w.heap.size + 1 + 1) = none := g3.out (Array.getElem?_eq_some_iff.1 xr).1 n2
  replace hg := hg.trans g3
  replace xc := heap_kept g3.below xc; replace xz := heap_kept g3.below xz; replace xr := heap_kept g3.below xr
  clear g3 lp
  obtain ⟨p3, q3, rfl, _, _⟩ := r3.shape
  obtain ⟨s0, s1, s2, s3, s4, sf⟩ := box5 xr
  obtain ⟨t0, t1, t2, t3, t4, tf⟩ := box5 xc
  obtain ⟨z0, z1, z2, z3, z4, zf⟩ := box5 xz
  have xr' := heap_set_at xr 3 (.slice p3 (keyL l).length q3)
  have xc' := heap_set_past xc (a := ⟨w.heap.size + 1 + 1, 3, none⟩) (by simp; try omega) (.slice p3 (keyL l).length q3)
  have xz' := heap_set_past xz (a := ⟨w.heap.size + 1 + 1, 3, none⟩) (by simp; try omega) (.slice p3 (keyL l).length q3)
  have hg' := hg.set (a := ⟨w.heap.size + 1 + 1, 3, none⟩) (by simp; try omega) n2 (.slice p3 (keyL l).length q3)
  clear xr' xc' xz' hg'
  go_wp2_with fail
  refine bodyPost_ret (v := .agg #[.int .i64 3, .slice p1 (nameL n).length q1, .slice p2 (keyL y).length q2, .slice p3 (keyL l).length q3, .slice none 0 0]) ?_ rfl ?_
  · simp [results, Tryd.results10, go_sem, z0, z1, z2, z3, z4]
  refine ⟨_, F3, rfl, ?_, _, _, _, _, rfl, ?_, ?_, ?_, ?_⟩
  · repeat (first | (with_reducible exact hg) | refine Gr.set ?_ (by first | (simp; done) | (simp; omega)) (by first | exact n1 | exact n2) _)
  · exact r1
  · exact r2
  · exact r3
  · exact Bs.nil _
set_option maxHeartbeats 4000000 in
theorem request_4 (F : Fz) (w : World) (kind : Int) (a b c d : Value) (n y l x : List UInt8) (hs : Sat w F) (ha : Bs F a n) (hb : Bs F b y) (hc : Bs F c l) (hd : Bs F d x) (k1 : -9223372036854775808 ≤ kind) (k2 : kind ≤ 9223372036854775807) (hp : pick kind 8 = 3) :
    Calls Tryd.prog 10 #[.agg #[.int .i64 kind, a, b, c, d]] w (Gives w F fun F' u => ReqV F' u 4 (nameL n) (keyL y) ([]) (x.take 32)) := by
  have hP := hid (fun X : World => picked_spec kind 8 X k1 k2 (by omega) (by omega))
  rw [hp] at hP
  clear hp
  go_enter Tryd.func10, Tryd.ntmps10
  go_wp2_with fail
  refine (hP.out _).mono ?_; rintro e w' ⟨rfl, rfl⟩
  go_wp2_with fail
  have xc : (((w.alloc (.cells #[.int .i64 kind, a, b, c, d] 24)).alloc (.cells #[.int .i64 0, .slice none 0 0, .slice none 0 0, .slice none 0 0, .slice none 0 0] 25)).alloc (.cells #[.int .i64 4, .slice none 0 0, .slice none 0 0, .slice none 0 0, .slice none 0 0] 25)).heap[w.heap.size]? = some (.cells #[.int .i64 kind, a, b, c, d] 24) := heap_new_past _ _ (heap_new_past _ _ (heap_new_at w (.cells #[.int .i64 kind, a, b, c, d] 24) (n := w.heap.size) rfl))
  have xz : (((w.alloc (.cells #[.int .i64 kind, a, b, c, d] 24)).alloc (.cells #[.int .i64 0, .slice none 0 0, .slice none 0 0, .slice none 0 0, .slice none 0 0] 25)).alloc (.cells #[.int .i64 4, .slice none 0 0, .slice none 0 0, .slice none 0 0, .slice none 0 0] 25)).heap[w.heap.size + 1]? = some (.cells #[.int .i64 0, .slice none 0 0, .slice none 0 0, .slice none 0 0, .slice none 0 0] 25) := heap_new_past _ _ (heap_new_at _ (.cells #[.int .i64 0, .slice none 0 0, .slice none 0 0, .slice none 0 0, .slice none 0 0] 25) (n := w.heap.size + 1) (by simp))
  have xr : (((w.alloc (.cells #[.int .i64 kind, a, b, c, d] 24)).alloc (.cells #[.int .i64 0, .slice none 0 0, .slice none 0 0, .slice none 0 0, .slice none 0 0] 25)).alloc (.cells #[.int .i64 4, .slice none 0 0, .slice none 0 0, .slice none 0 0, .slice none 0 0] 25)).heap[w.heap.size + 1 + 1]? = some (.cells #[.int .i64 4, .slice none 0 0, .slice none 0 0, .slice none 0 0, .slice none 0 0] 25) := heap_new_at _ (.cells #[.int .i64 4, .slice none 0 0, .slice none 0 0, .slice none 0 0, .slice none 0 0] 25) (n := w.heap.size + 1 + 1) (by simp)
  have hg : Gr w F (((w.alloc (.cells #[.int .i64 kind, a, b, c, d] 24)).alloc (.cells #[.int .i64 0, .slice none 0 0, .slice none 0 0, .slice none 0 0, .slice none 0 0] 25)).alloc (.cells #[.int .i64 4, .slice none 0 0, .slice none 0 0, .slice none 0 0, .slice none 0 0] 25)) F := (((Gr.refl hs).new _).new _).new _
  have n1 : F (w.heap.size + 1) = none := hs.out (by omega)
  have n2 : F (w.heap.size + 1 + 1) = none := hs.out (by omega)
  generalize (((w.alloc (.cells #[.int .i64 kind, a, b, c, d] 24)).alloc (.cells #[.int .i64 0, .slice none 0 0, .slice none 0 0, .slice none 0 0, .slice none 0 0] 25)).alloc (.cells #[.int .i64 4, .slice none 0 0, .slice none 0 0, .slice none 0 0, .slice none 0 0] 25)) = W at *
  refine (name_spec F _ _ n hg.sat ha).mono ?_; rintro e w1 ⟨v1, F1, rfl, g1, r1⟩
  have lp := g1.le hg.sat
  replace ha := ha.mono lp; replace hb := hb.mono lp; replace hc := hc.mono lp; replace hd := hd.mono lp
  replace n1 : F1 (w.heap.size + 1) = none := g1.out (Array.getElem?_eq_some_iff.1 xz).1 n1
  replace n2 : F1 (w.heap.size + 1 + 1) = none := g1.out (Array.getElem?_eq_some_iff.1 xr).1 n2
  replace hg := hg.trans g1
  replace xc := heap_kept g1.below xc; replace xz := heap_kept g1.below xz; replace xr := heap_kept g1.below xr
  clear g1 lp
  obtain ⟨p1, q1, rfl, _, _⟩ := r1.shape
  obtain ⟨s0, s1, s2, s3, s4, sf⟩ := box5 xr
  obtain ⟨t0, t1, t2, t3, t4, tf⟩ := box5 xc
  obtain ⟨z0, z1, z2, z3, z4, zf⟩ := box5 xz
  have xr' := heap_set_at xr 1 (.slice p1 (nameL n).length q1)
  have xc' := heap_set_past xc (a := ⟨w.heap.size + 1 + 1, 1, none⟩) (by simp; try omega) (.slice p1 (nameL n).length q1)
  have xz' := heap_set_past xz (a := ⟨w.heap.size + 1 + 1, 1, none⟩) (by simp; try omega) (.slice p1 (nameL n).length q1)
  have hg' := hg.set (a := ⟨w.heap.size + 1 + 1, 1, none⟩) (by simp; try omega) n2 (.slice p1 (nameL n).length q1)
  go_wp2_with fail
  clear s0 s1 s2 s3 s4 sf t0 t1 t2 t3 t4 tf z0 z1 z2 z3 z4 zf
  generalize w1.setCell ⟨w.heap.size + 1 + 1, 1, none⟩ (.slice p1 (nameL n).length q1) = W1 at *
  clear xr xc xz hg
  have xr := xr'; have xc := xc'; have xz := xz'; have hg := hg'; clear xr' xc' xz' hg'
  refine (key_spec F1 _ _ y hg.sat hb).mono ?_; rintro e w2 ⟨v2, F2, rfl, g2, r2⟩
  have lp := g2.le hg.sat
  replace ha := ha.mono lp; replace hb := hb.mono lp; replace hc := hc.mono lp; replace hd := hd.mono lp
  replace r1 := r1.mono lp
  replace n1 : F2 (w.heap.size + 1) = none := g2.out (Array.getElem?_eq_some_iff.1 xz).1 n1
  replace n2 : F2 (w.heap.size + 1 + 1) = none := g2.out (Array.getElem?_eq_some_iff.1 xr).1 n2
  replace hg := hg.trans g2
  replace xc := heap_kept g2.below xc; replace xz := heap_kept g2.below xz; replace xr := heap_kept g2.below xr
  clear g2 lp
  obtain ⟨p2, q2, rfl, _, _⟩ := r2.shape
  obtain ⟨s0, s1, s2, s3, s4, sf⟩ := box5 xr
  obtain ⟨t0, t1, t2, t3, t4, tf⟩ := box5 xc
  obtain ⟨z0, z1, z2, z3, z4, zf⟩ := box5 xz
  have xr' := heap_set_at xr 2 (.slice p2 (keyL y).length q2)
  have xc' := heap_set_past xc (a := ⟨w.heap.size + 1 + 1, 2, none⟩) (by simp; try omega) (.slice p2 (keyL y).length q2)
  have xz' := heap_set_past xz (a := ⟨w.heap.size + 1 + 1, 2, none⟩) (by simp; try omega) (.slice p2 (keyL y).length q2)
  have hg' := hg.set (a := ⟨w.heap.size + 1 + 1, 2, none⟩) (by simp; try omega) n2 (.slice p2 (keyL y).length q2)
  go_wp2_with fail
  clear s0 s1 s2 s3 s4 sf t0 t1 t2 t3 t4 tf z0 z1 z2 z3 z4 zf
  generalize w2.setCell ⟨w.heap.size + 1 + 1, 2, none⟩ (.slice p2 (keyL y).length q2) = W2 at *
  clear xr xc xz hg
  have xr := xr'; have xc := xc'; have xz := xz'; have hg := hg'; clear xr' xc' xz' hg'
  refine (some_spec F2 _ _ x _ hg.sat hd (by omega) (by omega)).mono ?_; rintro e w3 ⟨v3, F3, rfl, g3, r3⟩
  have lp := g3.le hg.sat
  replace ha := ha.mono lp; replace hb := hb.mono lp; replace hc := hc.mono lp; replace hd := hd.mono lp
  replace r1 := r1.mono lp
  replace r2 := r2.mono lp
  replace n1 : F3 (w.heap.size + 1) = none := g3.out (Array.getElem?_eq_some_iff.1 xz).1 n1
  replace n2 : F3 (w.heap.size + 1 + 1) = none := g3.out (Array.getElem?_eq_some_iff.1 xr).1 n2
  replace hg := hg.trans g3
  replace xc := heap_kept g3.below xc; replace xz := heap_kept g3.below xz; replace xr := heap_kept g3.below xr
  clear g3 lp
  obtain ⟨p3, q3, rfl, _, _⟩ := r3.shape
  obtain ⟨s0, s1, s2, s3, s4, sf⟩ := box5 xr
  obtain ⟨t0, t1, t2, t3, t4, tf⟩ := box5 xc
  obtain ⟨z0, z1, z2, z3, z4, zf⟩ := box5 xz
  have xr' := heap_set_at xr 4 (.slice p3 (x.take (Int.toNat 32)).length q3)
  have xc' := heap_set_past xc (a := ⟨w.heap.size + 1 + 1, 4, none⟩) (by simp; try omega) (.slice p3 (x.take (Int.toNat 32)).length q3)
  have xz' := heap_set_past xz (a := ⟨w.heap.size + 1 + 1, 4, none⟩) (by simp; try omega) (.slice p3 (x.take (Int.toNat 32)).length q3)
  have hg' := hg.set (a := ⟨w.heap.size + 1 + 1, 4, none⟩) (by simp; try omega) n2 (.slice p3 (x.take (Int.toNat 32)).length q3)
  clear xr' xc' xz' hg'
  go_wp2_with fail
  refine bodyPost_ret (v := .agg #[.int .i64 4, .slice p1 (nameL n).length q1, .slice p2 (keyL y).length q2, .slice none 0 0, .slice p3 (x.take (Int.toNat 32)).length q3]) ?_ rfl ?_
  · simp [results, Tryd.results10, go_sem, z0, z1, z2, z3, z4]
  refine ⟨_, F3, rfl, ?_, _, _, _, _, rfl, ?_, ?_, ?_, ?_⟩
  · repeat (first | (with_reducible exact hg) | refine Gr.set ?_ (by first | (simp; done) | (simp; omega)) (by first | exact n1 | exact n2) _)
  · exact r1
  · exact r2
  · exact Bs.nil _
  · exact r3
set_option maxHeartbeats 4000000 in
theorem request_5 (F : Fz) (w : World) (kind : Int) (a b c d : Value) (n y l x : List UInt8) (hs : Sat w F) (ha : Bs F a n) (hb : Bs F b y) (hc : Bs F c l) (hd : Bs F d x) (k1 : -9223372036854775808 ≤ kind) (k2 : kind ≤ 9223372036854775807) (hp : pick kind 8 = 4) :
    Calls Tryd.prog 10 #[.agg #[.int .i64 kind, a, b, c, d]] w (Gives w F fun F' u => ReqV F' u 5 (nameL n) (keyL y) ([]) ([])) := by
  have hP := hid (fun X : World => picked_spec kind 8 X k1 k2 (by omega) (by omega))
  rw [hp] at hP
  clear hp
  go_enter Tryd.func10, Tryd.ntmps10
  go_wp2_with fail
  refine (hP.out _).mono ?_; rintro e w' ⟨rfl, rfl⟩
  go_wp2_with fail
  have xc : (((w.alloc (.cells #[.int .i64 kind, a, b, c, d] 24)).alloc (.cells #[.int .i64 0, .slice none 0 0, .slice none 0 0, .slice none 0 0, .slice none 0 0] 25)).alloc (.cells #[.int .i64 5, .slice none 0 0, .slice none 0 0, .slice none 0 0, .slice none 0 0] 25)).heap[w.heap.size]? = some (.cells #[.int .i64 kind, a, b, c, d] 24) := heap_new_past _ _ (heap_new_past _ _ (heap_new_at w (.cells #[.int .i64 kind, a, b, c, d] 24) (n := w.heap.size) rfl))
  have xz : (((w.alloc (.cells #[.int .i64 kind, a, b, c, d] 24)).alloc (.cells #[.int .i64 0, .slice none 0 0, .slice none 0 0, .slice none 0 0, .slice none 0 0] 25)).alloc (.cells #[.int .i64 5, .slice none 0 0, .slice none 0 0, .slice none 0 0, .slice none 0 0] 25)).heap[w.heap.size + 1]? = some (.cells #[.int .i64 0, .slice none 0 0, .slice none 0 0, .slice none 0 0, .slice none 0 0] 25) := heap_new_past _ _ (heap_new_at _ (.cells #[.int .i64 0, .slice none 0 0, .slice none 0 0, .slice none 0 0, .slice none 0 0] 25) (n := w.heap.size + 1) (by simp))
  have xr : (((w.alloc (.cells #[.int .i64 kind, a, b, c, d] 24)).alloc (.cells #[.int .i64 0, .slice none 0 0, .slice none 0 0, .slice none 0 0, .slice none 0 0] 25)).alloc (.cells #[.int .i64 5, .slice none 0 0, .slice none 0 0, .slice none 0 0, .slice none 0 0] 25)).heap[w.heap.size + 1 + 1]? = some (.cells #[.int .i64 5, .slice none 0 0, .slice none 0 0, .slice none 0 0, .slice none 0 0] 25) := heap_new_at _ (.cells #[.int .i64 5, .slice none 0 0, .slice none 0 0, .slice none 0 0, .slice none 0 0] 25) (n := w.heap.size + 1 + 1) (by simp)
  have hg : Gr w F (((w.alloc (.cells #[.int .i64 kind, a, b, c, d] 24)).alloc (.cells #[.int .i64 0, .slice none 0 0, .slice none 0 0, .slice none 0 0, .slice none 0 0] 25)).alloc (.cells #[.int .i64 5, .slice none 0 0, .slice none 0 0, .slice none 0 0, .slice none 0 0] 25)) F := (((Gr.refl hs).new _).new _).new _
  have n1 : F (w.heap.size + 1) = none := hs.out (by omega)
  have n2 : F (w.heap.size + 1 + 1) = none := hs.out (by omega)
  generalize (((w.alloc (.cells #[.int .i64 kind, a, b, c, d] 24)).alloc (.cells #[.int .i64 0, .slice none 0 0, .slice none 0 0, .slice none 0 0, .slice none 0 0] 25)).alloc (.cells #[.int .i64 5, .slice none 0 0, .slice none 0 0, .slice none 0 0, .slice none 0 0] 25)) = W at *
  refine (name_spec F _ _ n hg.sat ha).mono ?_; rintro e w1 ⟨v1, F1, rfl, g1, r1⟩
  have lp := g1.le hg.sat
  replace ha := ha.mono lp; replace hb := hb.mono lp; replace hc := hc.mono lp; replace hd := hd.mono lp
  replace n1 : F1 (w.heap.size + 1) = none := g1.out (Array.getElem?_eq_some_iff.1 xz).1 n1
  replace n2 : F1 (w.heap.size + 1 + 1) = none := g1.out (Array.getElem?_eq_some_iff.1 xr).1 n2
  replace hg := hg.trans g1
  replace xc := heap_kept g1.below xc; replace xz := heap_kept g1.below xz; replace xr := heap_kept g1.below xr
  clear g1 lp
  obtain ⟨p1, q1, rfl, _, _⟩ := r1.shape
  obtain ⟨s0, s1, s2, s3, s4, sf⟩ := box5 xr
  obtain ⟨t0, t1, t2, t3, t4, tf⟩ := box5 xc
  obtain ⟨z0, z1, z2, z3, z4, zf⟩ := box5 xz
  have xr' := heap_set_at xr 1 (.slice p1 (nameL n).length q1)
  have xc' := heap_set_past xc (a := ⟨w.heap.size + 1 + 1, 1, none⟩) (by simp; try omega) (.slice p1 (nameL n).length q1)
  have xz' := heap_set_past xz (a := ⟨w.heap.size + 1 + 1, 1, none⟩) (by simp; try omega) (.slice p1 (nameL n).length q1)
  have hg' := hg.set (a := ⟨w.heap.size + 1 + 1, 1, none⟩) (by simp; try omega) n2 (.slice p1 (nameL n).length q1)
  go_wp2_with fail
  clear s0 s1 s2 s3 s4 sf t0 t1 t2 t3 t4 tf z0 z1 z2 z3 z4 zf
  generalize w1.setCell ⟨w.heap.size + 1 + 1, 1, none⟩ (.slice p1 (nameL n).length q1) = W1 at *
  clear xr xc xz hg
  have xr := xr'; have xc := xc'; have xz := xz'; have hg := hg'; clear xr' xc' xz' hg'
  refine (key_spec F1 _ _ y hg.sat hb).mono ?_; rintro e w2 ⟨v2, F2, rfl, g2, r2⟩
  have lp := g2.le hg.sat
  replace ha := ha.mono lp; replace hb := hb.mono lp; replace hc := hc.mono lp; replace hd := hd.mono lp
  replace r1 := r1.mono lp
  replace n1 : F2 (w.heap.size + 1) = none := g2.out (Array.getElem?_eq_some_iff.1 xz).1 n1
  replace n2 : F2 (w.heap.size + 1 + 1) = none := g2.out (Array.getElem?_eq_some_iff.1 xr).1 n2
  replace hg := hg.trans g2
  replace xc := heap_kept g2.below xc; replace xz := heap_kept g2.below xz; replace xr := heap_kept g2.below xr
  clear g2 lp
  obtain ⟨p2, q2, rfl, _, _⟩ := r2.shape
  obtain ⟨s0, s1, s2, s3, s4, sf⟩ := box5 xr
  obtain ⟨t0, t1, t2, t3, t4, tf⟩ := box5 xc
  obtain ⟨z0, z1, z2, z3, z4, zf⟩ := box5 xz
  have xr' := heap_set_at xr 2 (.slice p2 (keyL y).length q2)
  have xc' := heap_set_past xc (a := ⟨w.heap.size + 1 + 1, 2, none⟩) (by simp; try omega) (.slice p2 (keyL y).length q2)
  have xz' := heap_set_past xz (a := ⟨w.heap.size + 1 + 1, 2, none⟩) (by simp; try omega) (.slice p2 (keyL y).length q2)
  have hg' := hg.set (a := ⟨w.heap.size + 1 + 1, 2, none⟩) (by simp; try omega) n2 (.slice p2 (keyL y).length q2)
  clear xr' xc' xz' hg'
  go_wp2_with fail
  refine bodyPost_ret (v := .agg #[.int .i64 5, .slice p1 (nameL n).length q1, .slice p2 (keyL y).length q2, .slice none 0 0, .slice none 0 0]) ?_ rfl ?_
  · simp [results, Tryd.results10, go_sem, z0, z1, z2, z3, z4]
  refine ⟨_, F2, rfl, ?_, _, _, _, _, rfl, ?_, ?_, ?_, ?_⟩
  · repeat (first | (with_reducible exact hg) | refine Gr.set ?_ (by first | (simp; done) | (simp; omega)) (by first | exact n1 | exact n2) _)
  · exact r1
  · exact r2
  · exact Bs.nil _
  · exact Bs.nil _
set_option maxHeartbeats 4000000 in
theorem request_6 (F : Fz) (w : World) (kind : Int) (a b c d : Value) (n y l x : List UInt8) (hs : Sat w F) (ha : Bs F a n) (hb : Bs F b y) (hc : Bs F c l) (hd : Bs F d x) (k1 : -9223372036854775808 ≤ kind) (k2 : kind ≤ 9223372036854775807) (hp : pick kind 8 = 5) :
    Calls Tryd.prog 10 #[.agg #[.int .i64 kind, a, b, c, d]] w (Gives w F fun F' u => ReqV F' u 6 ([]) ([]) ([]) ([])) := by
  have hP := hid (fun X : World => picked_spec kind 8 X k1 k2 (by omega) (by omega))
  rw [hp] at hP
  clear hp
  go_enter Tryd.func10, Tryd.ntmps10
  go_wp2_with fail
  refine (hP.out _).mono ?_; rintro e w' ⟨rfl, rfl⟩
  go_wp2_with fail
  have xc : (((w.alloc (.cells #[.int .i64 kind, a, b, c, d] 24)).alloc (.cells #[.int .i64 0, .slice none 0 0, .slice none 0 0, .slice none 0 0, .slice none 0 0] 25)).alloc (.cells #[.int .i64 6, .slice none 0 0, .slice none 0 0, .slice none 0 0, .slice none 0 0] 25)).heap[w.heap.size]? = some (.cells #[.int .i64 kind, a, b, c, d] 24) := heap_new_past _ _ (heap_new_past _ _ (heap_new_at w (.cells #[.int .i64 kind, a, b, c, d] 24) (n := w.heap.size) rfl))
  have xz : (((w.alloc (.cells #[.int .i64 kind, a, b, c, d] 24)).alloc (.cells #[.int .i64 0, .slice none 0 0, .slice none 0 0, .slice none 0 0, .slice none 0 0] 25)).alloc (.cells #[.int .i64 6, .slice none 0 0, .slice none 0 0, .slice none 0 0, .slice none 0 0] 25)).heap[w.heap.size + 1]? = some (.cells #[.int .i64 0, .slice none 0 0, .slice none 0 0, .slice none 0 0, .slice none 0 0] 25) := heap_new_past _ _ (heap_new_at _ (.cells #[.int .i64 0, .slice none 0 0, .slice none 0 0, .slice none 0 0, .slice none 0 0] 25) (n := w.heap.size + 1) (by simp))
  have xr : (((w.alloc (.cells #[.int .i64 kind, a, b, c, d] 24)).alloc (.cells #[.int .i64 0, .slice none 0 0, .slice none 0 0, .slice none 0 0, .slice none 0 0] 25)).alloc (.cells #[.int .i64 6, .slice none 0 0, .slice none 0 0, .slice none 0 0, .slice none 0 0] 25)).heap[w.heap.size + 1 + 1]? = some (.cells #[.int .i64 6, .slice none 0 0, .slice none 0 0, .slice none 0 0, .slice none 0 0] 25) := heap_new_at _ (.cells #[.int .i64 6, .slice none 0 0, .slice none 0 0, .slice none 0 0, .slice none 0 0] 25) (n := w.heap.size + 1 + 1) (by simp)
  have hg : Gr w F (((w.alloc (.cells #[.int .i64 kind, a, b, c, d] 24)).alloc (.cells #[.int .i64 0, .slice none 0 0, .slice none 0 0, .slice none 0 0, .slice none 0 0] 25)).alloc (.cells #[.int .i64 6, .slice none 0 0, .slice none 0 0, .slice none 0 0, .slice none 0 0] 25)) F := (((Gr.refl hs).new _).new _).new _
  have n1 : F (w.heap.size + 1) = none := hs.out (by omega)
  have n2 : F (w.heap.size + 1 + 1) = none := hs.out (by omega)
  refine bodyPost_ret (v := .agg #[.int .i64 6, .slice none 0 0, .slice none 0 0, .slice none 0 0, .slice none 0 0]) (by simp [results, Tryd.results10, go_sem]) rfl ⟨_, F, rfl, ?_, _, _, _, _, rfl, Bs.nil F, Bs.nil F, Bs.nil F, Bs.nil F⟩
  exact (((Gr.refl hs).new _).new _).new _
set_option maxHeartbeats 4000000 in
theorem request_7 (F : Fz) (w : World) (kind : Int) (a b c d : Value) (n y l x : List UInt8) (hs : Sat w F) (ha : Bs F a n) (hb : Bs F b y) (hc : Bs F c l) (hd : Bs F d x) (k1 : -9223372036854775808 ≤ kind) (k2 : kind ≤ 9223372036854775807) (hp : pick kind 8 = 6) :
    Calls Tryd.prog 10 #[.agg #[.int .i64 kind, a, b, c, d]] w (Gives w F fun F' u => ReqV F' u 7 ([]) ([]) ([]) ([])) := by
  have hP := hid (fun X : World => picked_spec kind 8 X k1 k2 (by omega) (by omega))
  rw [hp] at hP
  clear hp
  go_enter Tryd.func10, Tryd.ntmps10
  go_wp2_with fail
  refine (hP.out _).mono ?_; rintro e w' ⟨rfl, rfl⟩
  go_wp2_with fail
  have xc : (((w.alloc (.cells #[.int .i64 kind, a, b, c, d] 24)).alloc (.cells #[.int .i64 0, .slice none 0 0, .slice none 0 0, .slice none 0 0, .slice none 0 0] 25)).alloc (.cells #[.int .i64 7, .slice none 0 0, .slice none 0 0, .slice none 0 0, .slice none 0 0] 25)).heap[w.heap.size]? = some (.cells #[.int .i64 kind, a, b, c, d] 24) := heap_new_past _ _ (heap_new_past _ _ (heap_new_at w (.cells #[.int .i64 kind, a, b, c, d] 24) (n := w.heap.size) rfl))
  have xz : (((w.alloc (.cells #[.int .i64 kind, a, b, c, d] 24)).alloc (.cells #[.int .i64 0, .slice none 0 0, .slice none 0 0, .slice none 0 0, .slice none 0 0] 25)).alloc (.cells #[.int .i64 7, .slice none 0 0, .slice none 0 0, .slice none 0 0, .slice none 0 0] 25)).heap[w.heap.size + 1]? = some (.cells #[.int .i64 0, .slice none 0 0, .slice none 0 0, .slice none 0 0, .slice none 0 0] 25) := heap_new_past _ _ (heap_new_at _ (.cells #[.int .i64 0, .slice none 0 0, .slice none 0 0, .slice none 0 0, .slice none 0 0] 25) (n := w.heap.size + 1) (by simp))
  have xr : (((w.alloc (.cells #[.int .i64 kind, a, b, c, d] 24)).alloc (.cells #[.int .i64 0, .slice none 0 0, .slice none 0 0, .slice none 0 0, .slice none 0 0] 25)).alloc (.cells #[.int .i64 7, .slice none 0 0, .slice none 0 0, .slice none 0 0, .slice none 0 0] 25)).heap[w.heap.size + 1 + 1]? = some (.cells #[.int .i64 7, .slice none 0 0, .slice none 0 0, .slice none 0 0, .slice none 0 0] 25) := heap_new_at _ (.cells #[.int .i64 7, .slice none 0 0, .slice none 0 0, .slice none 0 0, .slice none 0 0] 25) (n := w.heap.size + 1 + 1) (by simp)
  have hg : Gr w F (((w.alloc (.cells #[.int .i64 kind, a, b, c, d] 24)).alloc (.cells #[.int .i64 0, .slice none 0 0, .slice none 0 0, .slice none 0 0, .slice none 0 0] 25)).alloc (.cells #[.int .i64 7, .slice none 0 0, .slice none 0 0, .slice none 0 0, .slice none 0 0] 25)) F := (((Gr.refl hs).new _).new _).new _
  have n1 : F (w.heap.size + 1) = none := hs.out (by omega)
  have n2 : F (w.heap.size + 1 + 1) = none := hs.out (by omega)
  refine bodyPost_ret (v := .agg #[.int .i64 7, .slice none 0 0, .slice none 0 0, .slice none 0 0, .slice none 0 0]) (by simp [results, Tryd.results10, go_sem]) rfl ⟨_, F, rfl, ?_, _, _, _, _, rfl, Bs.nil F, Bs.nil F, Bs.nil F, Bs.nil F⟩
  exact (((Gr.refl hs).new _).new _).new _
set_option maxHeartbeats 4000000 in
theorem request_8 (F : Fz) (w : World) (kind : Int) (a b c d : Value) (n y l x : List UInt8) (hs : Sat w F) (ha : Bs F a n) (hb : Bs F b y) (hc : Bs F c l) (hd : Bs F d x) (k1 : -9223372036854775808 ≤ kind) (k2 : kind ≤ 9223372036854775807) (hp : pick kind 8 = 7) :
    Calls Tryd.prog 10 #[.agg #[.int .i64 kind, a, b, c, d]] w (Gives w F fun F' u => ReqV F' u 8 (nameL n) (keyL y) ([]) ([])) := by
  have hP := hid (fun X : World => picked_spec kind 8 X k1 k2 (by omega) (by omega))
  rw [hp] at hP
  clear hp
  go_enter Tryd.func10, Tryd.ntmps10
  go_wp2_with fail
  refine (hP.out _).mono ?_; rintro e w' ⟨rfl, rfl⟩
  go_wp2_with fail
  have xc : (((w.alloc (.cells #[.int .i64 kind, a, b, c, d] 24)).alloc (.cells #[.int .i64 0, .slice none 0 0, .slice none 0 0, .slice none 0 0, .slice none 0 0] 25)).alloc (.cells #[.int .i64 8, .slice none 0 0, .slice none 0 0, .slice none 0 0, .slice none 0 0] 25)).heap[w.heap.size]? = some (.cells #[.int .i64 kind, a, b, c, d] 24) := heap_new_past _ _ (heap_new_past _ _ (heap_new_at w (.cells #[.int .i64 kind, a, b, c, d] 24) (n := w.heap.size) rfl))
  have xz : (((w.alloc (.cells #[.int .i64 kind, a, b, c, d] 24)).alloc (.cells #[.int .i64 0, .slice none 0 0, .slice none 0 0, .slice none 0 0, .slice none 0 0] 25)).alloc (.cells #[.int .i64 8, .slice none 0 0, .slice none 0 0, .slice none 0 0, .slice none 0 0] 25)).heap[w.heap.size + 1]? = some (.cells #[.int .i64 0, .slice none 0 0, .slice none 0 0, .slice none 0 0, .slice none 0 0] 25) := heap_new_past _ _ (heap_new_at _ (.cells #[.int .i64 0, .slice none 0 0, .slice none 0 0, .slice none 0 0, .slice none 0 0] 25) (n := w.heap.size + 1) (by simp))
  have xr : (((w.alloc (.cells #[.int .i64 kind, a, b, c, d] 24)).alloc (.cells #[.int .i64 0, .slice none 0 0, .slice none 0 0, .slice none 0 0, .slice none 0 0] 25)).alloc (.cells #[.int .i64 8, .slice none 0 0, .slice none 0 0, .slice none 0 0, .slice none 0 0] 25)).heap[w.heap.size + 1 + 1]? = some (.cells #[.int .i64 8, .slice none 0 0, .slice none 0 0, .slice none 0 0, .slice none 0 0] 25) := heap_new_at _ (.cells #[.int .i64 8, .slice none 0 0, .slice none 0 0, .slice none 0 0, .slice none 0 0] 25) (n := w.heap.size + 1 + 1) (by simp)
  have hg : Gr w F (((w.alloc (.cells #[.int .i64 kind, a, b, c, d] 24)).alloc (.cells #[.int .i64 0, .slice none 0 0, .slice none 0 0, .slice none 0 0, .slice none 0 0] 25)).alloc (.cells #[.int .i64 8, .slice none 0 0, .slice none 0 0, .slice none 0 0, .slice none 0 0] 25)) F := (((Gr.refl hs).new _).new _).new _
  have n1 : F (w.heap.size + 1) = none := hs.out (by omega)
  have n2 : F (w.heap.size + 1 + 1) = none := hs.out (by omega)
  generalize (((w.alloc (.cells #[.int .i64 kind, a, b, c, d] 24)).alloc (.cells #[.int .i64 0, .slice none 0 0, .slice none 0 0, .slice none 0 0, .slice none 0 0] 25)).alloc (.cells #[.int .i64 8, .slice none 0 0, .slice none 0 0, .slice none 0 0, .slice none 0 0] 25)) = W at *
  refine (name_spec F _ _ n hg.sat ha).mono ?_; rintro e w1 ⟨v1, F1, rfl, g1, r1⟩
  have lp := g1.le hg.sat
  replace ha := ha.mono lp; replace hb := hb.mono lp; replace hc := hc.mono lp; replace hd := hd.mono lp
  replace n1 : F1 (w.heap.size + 1) = none := g1.out (Array.getElem?_eq_some_iff.1 xz).1 n1
  replace n2 : F1 (w.heap.size + 1 + 1) = none := g1.out (Array.getElem?_eq_some_iff.1 xr).1 n2
  replace hg := hg.trans g1
  replace xc := heap_kept g1.below xc; replace xz := heap_kept g1.below xz; replace xr := heap_kept g1.below xr
  clear g1 lp
  obtain ⟨p1, q1, rfl, _, _⟩ := r1.shape
  obtain ⟨s0, s1, s2, s3, s4, sf⟩ := box5 xr
  obtain ⟨t0, t1, t2, t3, t4, tf⟩ := box5 xc
  obtain ⟨z0, z1, z2, z3, z4, zf⟩ := box5 xz
  have xr' := heap_set_at xr 1 (.slice p1 (nameL n).length q1)
  have xc' := heap_set_past xc (a := ⟨w.heap.size + 1 + 1, 1, none⟩) (by simp; try omega) (.slice p1 (nameL n).length q1)
  have xz' := heap_set_past xz (a := ⟨w.heap.size + 1 + 1, 1, none⟩) (by simp; try omega) (.slice p1 (nameL n).length q1)
  have hg' := hg.set (a := ⟨w.heap.size + 1 + 1, 1, none⟩) (by simp; try omega) n2 (.slice p1 (nameL n).length q1)
  go_wp2_with fail
  clear s0 s1 s2 s3 s4 sf t0 t1 t2 t3 t4 tf z0 z1 z2 z3 z4 zf
  generalize w1.setCell ⟨w.heap.size + 1 + 1, 1, none⟩ (.slice p1 (nameL n).length q1) = W1 at *
  clear xr xc xz hg
  have xr := xr'; have xc := xc'; have xz := xz'; have hg := hg'; clear xr' xc' xz' hg'
  refine (key_spec F1 _ _ y hg.sat hb).mono ?_; rintro e w2 ⟨v2, F2, rfl, g2, r2⟩
  have lp := g2.le hg.sat
  replace ha := ha.mono lp; replace hb := hb.mono lp; replace hc := hc.mono lp; replace hd := hd.mono lp
  replace r1 := r1.mono lp
  replace n1 : F2 (w.heap.size + 1) = none := g2.out (Array.getElem?_eq_some_iff.1 xz).1 n1
  replace n2 : F2 (w.heap.size + 1 + 1) = none := g2.out (Array.getElem?_eq_some_iff.1 xr).1 n2
  replace hg := hg.trans g2
  replace xc := heap_kept g2.below xc; replace xz := heap_kept g2.below xz; replace xr := heap_kept g2.below xr
  clear g2 lp
  obtain ⟨p2, q2, rfl, _, _⟩ := r2.shape
  obtain ⟨s0, s1, s2, s3, s4, sf⟩ := box5 xr
  obtain ⟨t0, t1, t2, t3, t4, tf⟩ := box5 xc
  obtain ⟨z0, z1, z2, z3, z4, zf⟩ := box5 xz
  have xr' := heap_set_at xr 2 (.slice p2 (keyL y).length q2)
  have xc' := heap_set_past xc (a := ⟨w.heap.size + 1 + 1, 2, none⟩) (by simp; try omega) (.slice p2 (keyL y).length q2)
  have xz' := heap_set_past xz (a := ⟨w.heap.size + 1 + 1, 2, none⟩) (by simp; try omega) (.slice p2 (keyL y).length q2)
  have hg' := hg.set (a := ⟨w.heap.size + 1 + 1, 2, none⟩) (by simp; try omega) n2 (.slice p2 (keyL y).length q2)
  clear xr' xc' xz' hg'
  go_wp2_with fail
  refine bodyPost_ret (v := .agg #[.int .i64 8, .slice p1 (nameL n).length q1, .slice p2 (keyL y).length q2, .slice none 0 0, .slice none 0 0]) ?_ rfl ?_
  · simp [results, Tryd.results10, go_sem, z0, z1, z2, z3, z4]
  refine ⟨_, F2, rfl, ?_, _, _, _, _, rfl, ?_, ?_, ?_, ?_⟩
  · repeat (first | (with_reducible exact hg) | refine Gr.set ?_ (by first | (simp; done) | (simp; omega)) (by first | exact n1 | exact n2) _)
  · exact r1
  · exact r2
  · exact Bs.nil _
  · exact Bs.nil _
theorem request_spec (F : Fz) (w : World) (kind : Int) (a b c d : Value) (n y l x : List UInt8) (hs : Sat w F) (ha : Bs F a n) (hb : Bs F b y) (hc : Bs F c l) (hd : Bs F d x) (k1 : -9223372036854775808 ≤ kind) (k2 : kind ≤ 9223372036854775807) :
    Calls Tryd.prog 10 #[.agg #[.int .i64 kind, a, b, c, d]] w (Gives w F fun F' u => ReqV F' u (reqKind kind) (reqName kind n) (reqKey kind y) (reqLast kind l) (reqValue kind x)) := by
  obtain ⟨p1, p2⟩ := pick_bd kind 8 (by omega)
  rcases (by omega : pick kind 8 = 0 ∨ pick kind 8 = 1 ∨ pick kind 8 = 2 ∨ pick kind 8 = 3 ∨ pick kind 8 = 4 ∨ pick kind 8 = 5 ∨ pick kind 8 = 6 ∨ pick kind 8 = 7) with h | h | h | h | h | h | h | h
  · have K : reqKind kind = 1 := by unfold reqKind; omega
    have e1 : reqName kind n = [] := by unfold reqName; rw [K]; rfl
    have e2 : reqKey kind y = [] := by unfold reqKey; rw [K]; rfl
    have e3 : reqLast kind l = [] := by unfold reqLast; rw [K]; rfl
    have e4 : reqValue kind x = [] := by unfold reqValue; rw [K]; rfl
    rw [K, e1, e2, e3, e4]
    exact request_1 F w kind a b c d n y l x hs ha hb hc hd k1 k2 h
  · have K : reqKind kind = 2 := by unfold reqKind; omega
    have e1 : reqName kind n = nameL n := by unfold reqName; rw [K]; rfl
    have e2 : reqKey kind y = keyL y := by unfold reqKey; rw [K]; rfl
    have e3 : reqLast kind l = [] := by unfold reqLast; rw [K]; rfl
    have e4 : reqValue kind x = [] := by unfold reqValue; rw [K]; rfl
    rw [K, e1, e2, e3, e4]
    exact request_2 F w kind a b c d n y l x hs ha hb hc hd k1 k2 h
  · have K : reqKind kind = 3 := by unfold reqKind; omega
    have e1 : reqName kind n = nameL n := by unfold reqName; rw [K]; rfl
    have e2 : reqKey kind y = keyL y := by unfold reqKey; rw [K]; rfl
    have e3 : reqLast kind l = keyL l := by unfold reqLast; rw [K]; rfl
    have e4 : reqValue kind x = [] := by unfold reqValue; rw [K]; rfl
    rw [K, e1, e2, e3, e4]
    exact request_3 F w kind a b c d n y l x hs ha hb hc hd k1 k2 h
  · have K : reqKind kind = 4 := by unfold reqKind; omega
    have e1 : reqName kind n = nameL n := by unfold reqName; rw [K]; rfl
    have e2 : reqKey kind y = keyL y := by unfold reqKey; rw [K]; rfl
    have e3 : reqLast kind l = [] := by unfold reqLast; rw [K]; rfl
    have e4 : reqValue kind x = x.take 32 := by unfold reqValue; rw [K]; rfl
    rw [K, e1, e2, e3, e4]
    exact request_4 F w kind a b c d n y l x hs ha hb hc hd k1 k2 h
  · have K : reqKind kind = 5 := by unfold reqKind; omega
    have e1 : reqName kind n = nameL n := by unfold reqName; rw [K]; rfl
    have e2 : reqKey kind y = keyL y := by unfold reqKey; rw [K]; rfl
    have e3 : reqLast kind l = [] := by unfold reqLast; rw [K]; rfl
    have e4 : reqValue kind x = [] := by unfold reqValue; rw [K]; rfl
    rw [K, e1, e2, e3, e4]
    exact request_5 F w kind a b c d n y l x hs ha hb hc hd k1 k2 h
  · have K : reqKind kind = 6 := by unfold reqKind; omega
    have e1 : reqName kind n = [] := by unfold reqName; rw [K]; rfl
    have e2 : reqKey kind y = [] := by unfold reqKey; rw [K]; rfl
    have e3 : reqLast kind l = [] := by unfold reqLast; rw [K]; rfl
    have e4 : reqValue kind x = [] := by unfold reqValue; rw [K]; rfl
    rw [K, e1, e2, e3, e4]
    exact request_6 F w kind a b c d n y l x hs ha hb hc hd k1 k2 h
  · have K : reqKind kind = 7 := by unfold reqKind; omega
    have e1 : reqName kind n = [] := by unfold reqName; rw [K]; rfl
    have e2 : reqKey kind y = [] := by unfold reqKey; rw [K]; rfl
    have e3 : reqLast kind l = [] := by unfold reqLast; rw [K]; rfl
    have e4 : reqValue kind x = [] := by unfold reqValue; rw [K]; rfl
    rw [K, e1, e2, e3, e4]
    exact request_7 F w kind a b c d n y l x hs ha hb hc hd k1 k2 h
  · have K : reqKind kind = 8 := by unfold reqKind; omega
    have e1 : reqName kind n = nameL n := by unfold reqName; rw [K]; rfl
    have e2 : reqKey kind y = keyL y := by unfold reqKey; rw [K]; rfl
    have e3 : reqLast kind l = [] := by unfold reqLast; rw [K]; rfl
    have e4 : reqValue kind x = [] := by unfold reqValue; rw [K]; rfl
    rw [K, e1, e2, e3, e4]
    exact request_8 F w kind a b c d n y l x hs ha hb hc hd k1 k2 h
end Go.Proofs.YticbfdhdipfjmaaDoor
namespace Go.Proofs.YticbfdhdipfjmaaDoor
open Go.RowKit
set_option maxRecDepth 100000
set_option linter.unusedVariables false
set_option linter.unusedSimpArgs false
theorem Has.below {w w' : World} (h : Has w) (hb : Below w.heap.size w w') : Has w' := fun i hi => by
  rw [hb.cell (World.block_lt_of_cell? w ⟨0, i, none⟩ (h i hi))]; exact h i hi
theorem reqLens (kind : Int) (n y l x : List UInt8) : ∀ k : Nat, reqKind kind = k → 1 ≤ k ∧ k ≤ 8 ∧
    wireN k (reqName kind n).length (reqKey kind y).length (reqLast kind l).length (reqValue kind x).length = 0 ∧
    wireN k (reqName kind n).length (reqKey kind y).length (reqLast kind l).length 33 = 1 ∧
    (k = 3 → wireN k (reqName kind n).length (reqKey kind y).length (reqLast kind l).length 1 = 4) ∧
    (k ≠ 3 → wireN k (reqName kind n).length (reqKey kind y).length 1 (reqValue kind x).length = 4) := by
  intro k hk
  have b := reqKind_bd kind
  have e1 := nameL_len n
  have e2 := keyL_len y
  have e3 := keyL_len l
  have e4 : (x.take 32).length ≤ 32 := by simp only [List.length_take]; omega
  unfold reqName reqKey reqLast reqValue
  rw [hk]
  rcases (by omega : k = 1 ∨ k = 2 ∨ k = 3 ∨ k = 4 ∨ k = 5 ∨ k = 6 ∨ k = 7 ∨ k = 8) with rfl | rfl | rfl | rfl | rfl | rfl | rfl | rfl
  all_goals
    simp only [reqHas]
    refine ⟨by omega, by omega, ?_, ?_, ?_, ?_⟩
  all_goals
    simp [wireN, hasL, partsN, show Nat.testBit 3 0 = true from rfl, show Nat.testBit 3 1 = true from rfl, show Nat.testBit 3 2 = false from rfl, show Nat.testBit 3 3 = false from rfl, show Nat.testBit 7 0 = true from rfl, show Nat.testBit 7 1 = true from rfl, show Nat.testBit 7 2 = true from rfl, show Nat.testBit 7 3 = false from rfl, show Nat.testBit 11 0 = true from rfl, show Nat.testBit 11 1 = true from rfl, show Nat.testBit 11 2 = false from rfl, show Nat.testBit 11 3 = true from rfl]
    try (repeat' split) <;> omega
theorem wireCheck_len (w : World) (k : Nat) (k1 : 1 ≤ k) (k8 : k ≤ 8) (hh : Has w) (a0 a1 a2 a3 : Option Addr) (n y l v c0 c1 c2 c3 : Nat)
    (bn : n ≤ 9223372036854775807) (by' : y ≤ 9223372036854775807) (bl : l ≤ 9223372036854775807) (bv' : v ≤ 9223372036854775807) (e3 : y ≤ c1) (e4 : c1 ≤ maxLen) (e5 : l ≤ c2) (e6 : c2 ≤ maxLen) :
    Calls Tryd.prog 23 #[.agg #[.int .i64 k, .slice a0 n c0, .slice a1 y c1, .slice a2 l c2, .slice a3 v c3]] w (Tells w (.int .i64 (wireN k n y l v))) := by
  have hg : 0 < w.heap.size := World.block_lt_of_cell? w ⟨0, 0, none⟩ (hh 0 (by decide))
  have hk := hh k (by simp [hasL]; omega)
  unfold wireN
  rcases (by omega : k = 1 ∨ k = 2 ∨ k = 3 ∨ k = 4 ∨ k = 5 ∨ k = 6 ∨ k = 7 ∨ k = 8) with rfl | rfl | rfl | rfl | rfl | rfl | rfl | rfl
  · exact wireCheck_0 w 1 k1 k8 hg hk _ _ _ _ _ _ _ _ _ _ _ _ bn by' bl bv' e3 e4 e5 e6
  · exact wireCheck_3 w 2 k1 k8 hg hk _ _ _ _ _ _ _ _ _ _ _ _ bn by' bl bv' e3 e4 e5 e6
  · exact wireCheck_7 w 3 k1 k8 hg hk _ _ _ _ _ _ _ _ _ _ _ _ bn by' bl bv' e3 e4 e5 e6
  · exact wireCheck_11 w 4 k1 k8 hg hk _ _ _ _ _ _ _ _ _ _ _ _ bn by' bl bv' e3 e4 e5 e6
  · exact wireCheck_3 w 5 k1 k8 hg hk _ _ _ _ _ _ _ _ _ _ _ _ bn by' bl bv' e3 e4 e5 e6
  · exact wireCheck_0 w 6 k1 k8 hg hk _ _ _ _ _ _ _ _ _ _ _ _ bn by' bl bv' e3 e4 e5 e6
  · exact wireCheck_0 w 7 k1 k8 hg hk _ _ _ _ _ _ _ _ _ _ _ _ bn by' bl bv' e3 e4 e5 e6
  · exact wireCheck_3 w 8 k1 k8 hg hk _ _ _ _ _ _ _ _ _ _ _ _ bn by' bl bv' e3 e4 e5 e6
end Go.Proofs.YticbfdhdipfjmaaDoor
namespace Go.Proofs.YticbfdhdipfjmaaDoor
open Go.ChangeShapes Go.WideShapes Go.ChangeAt Go.RowKit
set_option maxRecDepth 100000
theorem gHas : Tryd.prog.globalNamed "canopy/wire.has" = some 0 := by kernel_rfl
theorem gHasType : (Tryd.prog.globals[(0 : Nat)]?).map (·.type) = some 57 := by kernel_rfl
theorem gHasCells : Tryd.prog.cellsOf 57 = 9 := by kernel_rfl
theorem intCells : Tryd.prog.cellsOf 3 = 1 := by kernel_rfl
theorem has_met {W : World} (h : laidMetH Tryd.prog [("canopy/wire.has", Rows.laid_canopy_wire_has)] W) : Has W := by
  have ht : Lib.TabIs Tryd.prog W "canopy/wire.has" .i64 hasL :=
    tabIs_at (l := [("canopy/wire.has", Rows.laid_canopy_wire_has)]) h 0 _ _ _ rfl gHas gHasType Tryd.underlying57 Tryd.underlying3 intCells gHasCells
  intro i hi
  have := ht.cell gHas i hi
  rw [this]
  simp [List.getD, hi]
noncomputable def hasWorld (os : Os) : World :=
  { World.holding Tryd.prog os ⟨#[], #[], []⟩ with heap := (World.holding Tryd.prog os ⟨#[], #[], []⟩).heap.modify 0 fun
      | .cells _ t frozen => .cells #[.int .i64 0, .int .i64 0, .int .i64 3, .int .i64 7, .int .i64 11, .int .i64 3, .int .i64 0, .int .i64 0, .int .i64 3] t frozen
      | o => o }
end Go.Proofs.YticbfdhdipfjmaaDoor
namespace Go.Proofs.YticbfdhdipfjmaaDoor
open Go.RowKit
set_option linter.unusedVariables false
set_option linter.unusedSimpArgs false
def hasN (k : Nat) : Nat := (hasL.getD k 0).toNat
def Rq.part (r : Rq) : Nat → By
  | 0 => r.name
  | 1 => r.key
  | 2 => r.last
  | _ => r.value
def Rq.put (r : Rq) : Nat → By → Rq
  | 0, p => { r with name := p }
  | 1, p => { r with key := p }
  | 2, p => { r with last := p }
  | _, p => { r with value := p }
def encPre (h : Nat) (r : Rq) : Nat → By
  | 0 => []
  | i + 1 => encPre h r i ++ optE (h.testBit i) (r.part i)
theorem encPre_all (h : Nat) (r : Rq) : encPre h r 4 = encW h r := by
  simp [encPre, encW, Rq.part]
theorem encPre_no {h i : Nat} (r : Rq) (e : h.testBit i = false) : encPre h r (i + 1) = encPre h r i := by
  simp [encPre, optE, e]
theorem encPre_yes {h i : Nat} (r : Rq) (e : h.testBit i = true) : encPre h r (i + 1) = encPre h r i ++ b8 (r.part i).length :: r.part i := by
  simp [encPre, optE, e, encPart]
def decFrom (h : Nat) : Nat → Nat → Rq → By → Option (Rq × By)
  | 0, _, r, b => some (r, b)
  | n + 1, i, r, b => if h.testBit i = true then
      match partW b with
      | none => none
      | some p => decFrom h n (i + 1) (r.put i p.1) p.2
    else decFrom h n (i + 1) r b
theorem decFrom_no {h n i : Nat} {r : Rq} {b : By} (e : h.testBit i = false) : decFrom h (n + 1) i r b = decFrom h n (i + 1) r b := by
  rw [decFrom, if_neg (by rw [e]; decide)]
theorem decFrom_none {h n i : Nat} {r : Rq} {b : By} (e : h.testBit i = true) (k : partW b = none) : decFrom h (n + 1) i r b = none := by
  rw [decFrom, if_pos e, k]
theorem decFrom_some {h n i : Nat} {r : Rq} {b : By} {p : By × By} (e : h.testBit i = true) (k : partW b = some p) : decFrom h (n + 1) i r b = decFrom h n (i + 1) (r.put i p.1) p.2 := by
  rw [decFrom, if_pos e, k]
theorem decFrom_all (h : Nat) (b : By) : decFrom h 4 0 ⟨[], [], [], []⟩ b = decW h b := by
  unfold decW optW
  cases e0 : h.testBit 0
  · rw [decFrom_no e0]
    cases e1 : h.testBit 1
    · rw [decFrom_no e1]
      cases e2 : h.testBit 2
      · rw [decFrom_no e2]
        cases e3 : h.testBit 3
        · rw [decFrom_no e3]; simp [decFrom]
        · cases k3 : partW b with
          | none => rw [decFrom_none e3 k3]; simp [k3]
          | some p3 => rw [decFrom_some e3 k3]; simp [k3, decFrom, Rq.put]
      · cases k2 : partW b with
        | none => rw [decFrom_none e2 k2]; simp [k2]
        | some p2 =>
          rw [decFrom_some e2 k2]
          cases e3 : h.testBit 3
          · rw [decFrom_no e3]; simp [k2, decFrom, Rq.put]
          · cases k3 : partW p2.2 with
            | none => rw [decFrom_none e3 k3]; simp [k2, k3]
            | some p3 => rw [decFrom_some e3 k3]; simp [k2, k3, decFrom, Rq.put]
    · cases k1 : partW b with
      | none => rw [decFrom_none e1 k1]; simp [k1]
      | some p1 =>
        rw [decFrom_some e1 k1]
        cases e2 : h.testBit 2
        · rw [decFrom_no e2]
          cases e3 : h.testBit 3
          · rw [decFrom_no e3]; simp [k1, decFrom, Rq.put]
          · cases k3 : partW p1.2 with
            | none => rw [decFrom_none e3 k3]; simp [k1, k3]
            | some p3 => rw [decFrom_some e3 k3]; simp [k1, k3, decFrom, Rq.put]
        · cases k2 : partW p1.2 with
          | none => rw [decFrom_none e2 k2]; simp [k1, k2]
          | some p2 =>
            rw [decFrom_some e2 k2]
            cases e3 : h.testBit 3
            · rw [decFrom_no e3]; simp [k1, k2, decFrom, Rq.put]
            · cases k3 : partW p2.2 with
              | none => rw [decFrom_none e3 k3]; simp [k1, k2, k3]
              | some p3 => rw [decFrom_some e3 k3]; simp [k1, k2, k3, decFrom, Rq.put]
  · cases k0 : partW b with
    | none => rw [decFrom_none e0 k0]; simp [k0]
    | some p0 =>
      rw [decFrom_some e0 k0]
      cases e1 : h.testBit 1
      · rw [decFrom_no e1]
        cases e2 : h.testBit 2
        · rw [decFrom_no e2]
          cases e3 : h.testBit 3
          · rw [decFrom_no e3]; simp [decFrom, Rq.put]
          · cases k3 : partW p0.2 with
            | none => rw [decFrom_none e3 k3]; simp [k3]
            | some p3 => rw [decFrom_some e3 k3]; simp [k3, decFrom, Rq.put]
        · cases k2 : partW p0.2 with
          | none => rw [decFrom_none e2 k2]; simp [k2]
          | some p2 =>
            rw [decFrom_some e2 k2]
            cases e3 : h.testBit 3
            · rw [decFrom_no e3]; simp [k2, decFrom, Rq.put]
            · cases k3 : partW p2.2 with
              | none => rw [decFrom_none e3 k3]; simp [k2, k3]
              | some p3 => rw [decFrom_some e3 k3]; simp [k2, k3, decFrom, Rq.put]
      · cases k1 : partW p0.2 with
        | none => rw [decFrom_none e1 k1]; simp [k1]
        | some p1 =>
          rw [decFrom_some e1 k1]
          cases e2 : h.testBit 2
          · rw [decFrom_no e2]
            cases e3 : h.testBit 3
            · rw [decFrom_no e3]; simp [k1, decFrom, Rq.put]
            · cases k3 : partW p1.2 with
              | none => rw [decFrom_none e3 k3]; simp [k1, k3]
              | some p3 => rw [decFrom_some e3 k3]; simp [k1, k3, decFrom, Rq.put]
          · cases k2 : partW p1.2 with
            | none => rw [decFrom_none e2 k2]; simp [k1, k2]
            | some p2 =>
              rw [decFrom_some e2 k2]
              cases e3 : h.testBit 3
              · rw [decFrom_no e3]; simp [k1, k2, decFrom, Rq.put]
              · cases k3 : partW p2.2 with
                | none => rw [decFrom_none e3 k3]; simp [k1, k2, k3]
                | some p3 => rw [decFrom_some e3 k3]; simp [k1, k2, k3, decFrom, Rq.put]
theorem part_nil {b : By} (h : b.length = 0) : partW b = none := by
  rw [List.eq_nil_of_length_eq_zero h]; rfl
theorem part_short {b : By} {x : UInt8} (h : b[0]? = some x) (k : b.length < 1 + x.toNat) : partW b = none := by
  cases b with
  | nil => cases h
  | cons y t =>
    simp only [List.getElem?_cons_zero, Option.some.injEq] at h
    subst h
    simp only [List.length_cons] at k
    rw [partW_cons, if_pos (by omega)]
theorem part_long {b : By} {x : UInt8} (h : b[0]? = some x) (k : ¬ b.length < 1 + x.toNat) : partW b = some ((b.take (1 + x.toNat)).drop 1, b.drop (1 + x.toNat)) := by
  cases b with
  | nil => cases h
  | cons y t =>
    simp only [List.getElem?_cons_zero, Option.some.injEq] at h
    subst h
    simp only [List.length_cons] at k
    rw [partW_cons, if_neg (by omega), Nat.add_comm 1]
    simp
/-- What wire.Decode tells. -/
def wdE (b : By) : Int :=
  if 4000 < b.length then 1 else match b with
  | [] => 14
  | x :: t => if x.toNat < 1 ∨ 8 < x.toNat then 5 else match decW (hasN x.toNat) t with
    | none => 14
    | some p => if 0 < p.2.length then 4 else wireN x.toNat p.1.name.length p.1.key.length p.1.last.length p.1.value.length
def wdR (b : By) : Nat × Rq :=
  if wdE b = 0 then match b with
    | [] => (0, ⟨[], [], [], []⟩)
    | x :: t => match decW (hasN x.toNat) t with
      | none => (0, ⟨[], [], [], []⟩)
      | some p => (x.toNat, p.1)
  else (0, ⟨[], [], [], []⟩)
theorem hasN_val (k : Nat) (h : 1 ≤ k ∧ k ≤ 8) : hasN k = 0 ∨ hasN k = 3 ∨ hasN k = 7 ∨ hasN k = 11 := by
  rcases (by omega : k = 1 ∨ k = 2 ∨ k = 3 ∨ k = 4 ∨ k = 5 ∨ k = 6 ∨ k = 7 ∨ k = 8) with rfl | rfl | rfl | rfl | rfl | rfl | rfl | rfl <;> decide
theorem hasN_01 (k : Nat) (h : 1 ≤ k ∧ k ≤ 8) : (hasN k).testBit 1 = (hasN k).testBit 0 := by
  rcases hasN_val k h with e | e | e | e <;> rw [e] <;> rfl
theorem parts_ok {h n y l v : Nat} (e : partsN h n y l v = 0) : (h.testBit 0 = true → 1 ≤ n ∧ n ≤ 8) ∧ (h.testBit 0 = true → 1 ≤ y ∧ y ≤ 16) ∧ (h.testBit 2 = true → 1 ≤ l ∧ l ≤ 16) ∧ v ≤ 32 ∧
    (h.testBit 0 = false → n = 0) ∧ (h.testBit 1 = false → y = 0) ∧ (h.testBit 2 = false → l = 0) ∧ (h.testBit 3 = false → v = 0) := by
  unfold partsN at e
  split at e
  · exact absurd e (by decide)
  split at e
  · exact absurd e (by decide)
  split at e
  · exact absurd e (by decide)
  split at e
  · exact absurd e (by decide)
  split at e
  · exact absurd e (by decide)
  rename_i q1 q2 q3 q4 q5
  refine ⟨fun hb => Decidable.byContradiction fun hn => q1 ⟨hb, hn⟩, fun hb => Decidable.byContradiction fun hn => q2 ⟨hb, hn⟩, fun hb => Decidable.byContradiction fun hn => q3 ⟨hb, hn⟩, by omega, fun hb => ?_, fun hb => ?_, fun hb => ?_, fun hb => ?_⟩
  · exact Decidable.byContradiction fun hn => q5 (Or.inl ⟨by rw [hb]; decide, by omega⟩)
  · exact Decidable.byContradiction fun hn => q5 (Or.inr (Or.inl ⟨by rw [hb]; decide, by omega⟩))
  · exact Decidable.byContradiction fun hn => q5 (Or.inr (Or.inr (Or.inl ⟨by rw [hb]; decide, by omega⟩)))
  · exact Decidable.byContradiction fun hn => q5 (Or.inr (Or.inr (Or.inr ⟨by rw [hb]; decide, by omega⟩)))
theorem fits_of {k : Nat} (hk : 1 ≤ k ∧ k ≤ 8) {r : Rq} (h : wireN k r.name.length r.key.length r.last.length r.value.length = 0) : FitsW (hasN k) r := by
  obtain ⟨a1, a2, a3, a4, a5, a6, a7, a8⟩ := parts_ok (h := hasN k) h
  have hb := hasN_01 k hk
  have e0 : ∀ {l : By}, l.length = 0 → l = [] := fun h => List.eq_nil_of_length_eq_zero h
  refine ⟨⟨?_, fun q => e0 (a5 q)⟩, ⟨?_, fun q => e0 (a6 q)⟩, ⟨?_, fun q => e0 (a7 q)⟩, ⟨by omega, fun q => e0 (a8 q)⟩⟩
  · cases e : (hasN k).testBit 0
    · have := a5 e; omega
    · have := a1 e; omega
  · cases e : (hasN k).testBit 0
    · have := a6 (hb.trans e); omega
    · have := a2 e; omega
  · cases e : (hasN k).testBit 2
    · have := a7 e; omega
    · have := a3 e; omega
/-- A request that may be. -/
structure RqOk (k : Nat) (r : Rq) : Prop where
  kind : 1 ≤ k ∧ k ≤ 8
  fits : wireN k r.name.length r.key.length r.last.length r.value.length = 0
def encQ (k : Nat) (r : Rq) : By := b8 k :: encW (hasN k) r
theorem RqOk.lens {k : Nat} {r : Rq} (h : RqOk k r) : r.name.length ≤ 8 ∧ r.key.length ≤ 16 ∧ r.last.length ≤ 16 ∧ r.value.length ≤ 32 := by
  obtain ⟨a1, a2, a3, a4, a5, a6, a7, a8⟩ := parts_ok (h := hasN k) h.fits
  have hb := hasN_01 k h.kind
  refine ⟨?_, ?_, ?_, a4⟩
  · cases e : (hasN k).testBit 0
    · have := a5 e; omega
    · have := a1 e; omega
  · cases e : (hasN k).testBit 0
    · have := a6 (hb.trans e); omega
    · have := a2 e; omega
  · cases e : (hasN k).testBit 2
    · have := a7 e; omega
    · have := a3 e; omega
theorem optE_len (c : Bool) (p : By) : (optE c p).length ≤ p.length + 1 := by
  cases c <;> simp [optE, encPart]
theorem encQ_len {k : Nat} {r : Rq} (h : RqOk k r) : (encQ k r).length ≤ 77 := by
  obtain ⟨a1, a2, a3, a4⟩ := h.lens
  have := optE_len ((hasN k).testBit 0) r.name
  have := optE_len ((hasN k).testBit 1) r.key
  have := optE_len ((hasN k).testBit 2) r.last
  have := optE_len ((hasN k).testBit 3) r.value
  simp only [encQ, encW, List.length_cons, List.length_append]
  omega
theorem wd_at {k : Nat} (hk : 1 ≤ k ∧ k ≤ 8) {t : By} (hl : t.length < 4000) : wdE (b8 k :: t) = match decW (hasN k) t with
    | none => 14
    | some p => if 0 < p.2.length then 4 else wireN k p.1.name.length p.1.key.length p.1.last.length p.1.value.length := by
  unfold wdE
  rw [if_neg (by simp only [List.length_cons]; omega)]
  have e : (b8 k).toNat = k := b8_toNat (by omega)
  simp only [e]
  rw [if_neg (by omega)]
theorem wd_back {k : Nat} {r : Rq} (h : RqOk k r) : wdE (encQ k r) = 0 ∧ wdR (encQ k r) = (k, r) := by
  have hl := encQ_len h
  have hd := decW_enc (fits_of h.kind h.fits) []
  rw [List.append_nil] at hd
  have he : wdE (encQ k r) = 0 := by
    unfold encQ at hl ⊢
    rw [wd_at h.kind (by simp only [List.length_cons] at hl; omega), hd]
    simp only [List.length_nil]
    rw [if_neg (by omega)]
    exact h.fits
  have e : (b8 k).toNat = k := b8_toNat (by have := h.kind; omega)
  refine ⟨he, ?_⟩
  unfold wdR
  rw [if_pos he]
  unfold encQ
  simp only [e, hd]
theorem wd_more {k : Nat} {r : Rq} (h : RqOk k r) (x : UInt8) : wdE (encQ k r ++ [x]) = 4 := by
  have hl := encQ_len h
  have hd := decW_enc (fits_of h.kind h.fits) [x]
  unfold encQ at hl ⊢
  rw [List.cons_append, wd_at h.kind (by simp only [List.length_cons, List.length_append, List.length_nil] at hl ⊢; omega), hd]
  simp
theorem wd_torn {k : Nat} {r : Rq} (h : RqOk k r) {n : Nat} (hn : n < (encQ k r).length) : wdE ((encQ k r).take n) = 14 := by
  have hl := encQ_len h
  cases n with
  | zero => rfl
  | succ n =>
    unfold encQ at hl hn ⊢
    simp only [List.length_cons] at hn hl
    rw [List.take_succ_cons, wd_at h.kind (by rw [List.length_take]; omega), decW_torn (fits_of h.kind h.fits) (by omega)]
theorem wd_fixed {b : By} (h : wdE b = 0) : RqOk (wdR b).1 (wdR b).2 ∧ b = encQ (wdR b).1 (wdR b).2 := by
  cases b with
  | nil => exact absurd h (by decide)
  | cons x t =>
    have hr : wdR (x :: t) = match decW (hasN x.toNat) t with
        | none => (0, ⟨[], [], [], []⟩)
        | some p => (x.toNat, p.1) := by unfold wdR; rw [if_pos h]
    unfold wdE at h
    split at h
    · exact absurd h (by decide)
    · simp only at h
      split at h
      · exact absurd h (by decide)
      · rename_i hk
        cases hd : decW (hasN x.toNat) t with
        | none => rw [hd] at h; simp at h
        | some p =>
          rw [hd] at h hr
          simp only at h hr
          split at h
          · exact absurd h (by decide)
          · rename_i hz
            rw [hr]
            have hi := (decW_inv hd).1
            rw [List.eq_nil_of_length_eq_zero (by omega : p.2.length = 0), List.append_nil] at hi
            refine ⟨⟨by simp only; omega, h⟩, ?_⟩
            simp only [encQ, b8_back]
            rw [← hi]
theorem wdR_bad {b : By} (h : wdE b ≠ 0) : wdR b = (0, ⟨[], [], [], []⟩) := by unfold wdR; rw [if_neg h]
end Go.Proofs.YticbfdhdipfjmaaDoor
namespace Go.Proofs.YticbfdhdipfjmaaDoor
open Go.RowKit
set_option maxRecDepth 100000
set_option linter.unusedVariables false
set_option linter.unusedSimpArgs false
def ByC (F : Fz) (cs : List Value) (b : UInt8) : Prop := cs = [bv b]
theorem ByC.mono (F F' : Fz) (x : List Value) (p : UInt8) (hl : Le F F') (h : ByC F x p) : ByC F' x p := h
theorem bv_one (b : UInt8) : ∀ u ∈ [bv b], u.oneCell' = true := by intro u hu; rw [List.mem_singleton.1 hu]; rfl
theorem ByC.one (F : Fz) (cs : List Value) (p : UInt8) (h : ByC F cs p) : ∀ u ∈ cs, u.oneCell' = true := by rw [h]; exact bv_one p
theorem bytes_flat : ∀ l : By, ((l.map fun b => [bv b]).flatten) = l.map bv
  | [] => rfl
  | b :: l => by simp [bytes_flat l]
theorem allR_bytes (F : Fz) : ∀ l : By, AllR (ByC F) (l.map fun b => [bv b]) l
  | [] => trivial
  | _ :: l => ⟨rfl, allR_bytes F l⟩
theorem bytes_of : ∀ {xs : List (List Value)} {l : By} {F : Fz}, AllR (ByC F) xs l → xs.flatten = l.map bv
  | [], [], _, _ => rfl
  | x :: xs, b :: l, F, h => by rw [List.flatten_cons, h.1, bytes_of h.2]; rfl
theorem Bs.sl {F : Fz} {v : Value} {l : By} (h : Bs F v l) : Sl 1 ByC F v l := ⟨l.map fun b => [bv b], by rw [bytes_flat]; exact h, allR_bytes F l, by simp⟩
theorem bs_of_sl {F : Fz} {v : Value} {l : By} (h : Sl 1 ByC F v l) : Bs F v l := by
  obtain ⟨xs, h1, h2, _⟩ := h
  rw [bytes_of h2] at h1
  exact h1
theorem conv_b8 (z : Nat) (w : World) : (convert 3 5 (.int .i64 (z : Nat))).run Tryd.prog w = .ok (bv (b8 z)) w := by
  have : (convert 3 5 (.int .i64 (z : Nat))).run Tryd.prog w = .ok (.int .u8 (IntKind.u8.wrap (z : Int))) w := by kernel_rfl
  rw [this]
  have e : IntKind.u8.wrap (z : Int) = ((b8 z).toNat : Int) := by
    rw [show IntKind.u8.wrap (z : Int) = (z : Int) % 256 from rfl]
    simp [b8]
  rw [e]; rfl
theorem conv_int (b : UInt8) (w : World) : (convert 5 3 (bv b)).run Tryd.prog w = .ok (.int .i64 ((b.toNat : Nat) : Int)) w := by
  have : (convert 5 3 (bv b)).run Tryd.prog w = .ok (.int .i64 (IntKind.i64.wrap (b.toNat : Int))) w := by kernel_rfl
  rw [this, wrap64_in (by omega) (by have := UInt8.toNat_lt b; omega)]
theorem ex_shrN {P : Program} {ρ : Operand → Value} {w : World} {d : Option Tmp} {t X Y : TypeId} {x y : Operand} {pos : String} {after : Array Edge} {guard : Option (Nat × Bool)} {m n : Nat} (hx : ρ x = .int .i64 (m : Int)) (hy : ρ y = .int .u64 (n : Int)) (hn : n ≤ 64) : (execOp ρ ⟨d, .binOp .shr X x y Y, t, pos, after, guard⟩).run P w = .ok (.value (.int .i64 ((m / 2 ^ n : Nat) : Int))) w := by
  have e : (eqGuard .shr X x y (.int .i64 (m : Int)) (.int .u64 (n : Int))).run P w = .ok () w := rfl
  have h : (binOp .shr X (.int .i64 (m : Int)) (.int .u64 (n : Int))).run P w = .ok (.int .i64 ((m / 2 ^ n : Nat) : Int)) w := by
    show (Op.shift .shr .i64 (m : Int) .u64 (n : Int)).run P w = _
    unfold Op.shift
    rw [if_neg (by omega)]
    show Result.ok (Value.int .i64 (Int.fdiv (m : Int) (2 ^ (min (n : Int).toNat 64)))) w = _
    rw [Int.toNat_natCast, Nat.min_eq_left hn, Int.fdiv_eq_ediv_of_nonneg _ (show (0 : Int) ≤ 2 ^ n from Int.le_of_lt (Int.pow_pos (by decide)))]
    simp
  simp only [execOp, hx, hy, Sem.run_bind, e, Result.andThen_ok, h, Sem.run_pure]
theorem Bs.get {F : Fz} {a : Option Addr} {n c : Nat} {l : By} (h : Bs F (.slice a n c) l) {i : Nat} {b : UInt8} (hb : l[i]? = some b) : ∃ g o, a = some ⟨g, o, none⟩ ∧ cellF F g (o + i * 1) = some (bv b) := by
  obtain ⟨a', c', e, _, _, _, h5⟩ := h
  injection e with e1 _ _
  subst e1
  rcases h5 with h5 | ⟨g, o, e, h6⟩
  · rw [List.map_eq_nil_iff] at h5
    subst h5; cases hb
  · exact ⟨g, o, e, by rw [Nat.mul_one]; exact h6 i (bv b) (by rw [List.getElem?_map, hb]; rfl)⟩
theorem St.front {w0 w : World} {F0 F : Fz} {L : List Blk} {M : List RowP} (S : St w0 F0 w F L M) {i : Nat} {b : Blk} (h : L[i]? = some b) : St w0 F0 w F (b :: L.eraseIdx i) M := by
  obtain ⟨hi, rfl⟩ := List.getElem?_eq_some_iff.1 h
  have hp : (L[i] :: L.eraseIdx i).Perm L := by
    have h1 : L.take i ++ L[i] :: L.drop (i + 1) = L := by rw [← List.drop_eq_getElem_cons hi, List.take_append_drop]
    rw [List.eraseIdx_eq_take_drop_succ]
    exact List.perm_middle.symm.trans (List.Perm.of_eq h1)
  exact ⟨S.gr, fun x hx => S.blk x (hp.mem_iff.1 hx), S.row, (hp.pairwise_iff (fun h => Ne.symm h)).2 S.bb, fun r hr x hx => S.rb r hr x (hp.mem_iff.1 hx), S.rr⟩
abbrev Bys (F : Fz) (v : Value) (l : By) : Prop := Sl 1 ByC F v l
end Go.Proofs.YticbfdhdipfjmaaDoor
namespace Go.Proofs.YticbfdhdipfjmaaDoor
open Go.RowKit
set_option maxRecDepth 100000
set_option linter.unusedVariables false
set_option linter.unusedSimpArgs false
theorem has_at {w : World} (h : Has w) {k : Nat} (hk : 1 ≤ k ∧ k ≤ 8) : w.cell? ⟨0, k, none⟩ = some (.int .i64 ((hasN k : Nat) : Int)) := by
  have := h k (by simp [hasL]; omega)
  rw [this]
  rcases (by omega : k = 1 ∨ k = 2 ∨ k = 3 ∨ k = 4 ∨ k = 5 ∨ k = 6 ∨ k = 7 ∨ k = 8) with rfl | rfl | rfl | rfl | rfl | rfl | rfl | rfl <;> rfl
theorem bit_yes {h i : Nat} (e : h.testBit i = true) : h / 2 ^ i % 2 = 1 := by
  rw [Nat.testBit_eq_decide_div_mod_eq] at e
  exact of_decide_eq_true e
theorem bit_no {h i : Nat} (e : h.testBit i = false) : h / 2 ^ i % 2 = 0 := by
  rw [Nat.testBit_eq_decide_div_mod_eq] at e
  have := of_decide_eq_false e
  omega
theorem ex_indexV {P : Program} {ρ : Operand → Value} {w : World} {d : Option Tmp} {t X E : TypeId} {n : Nat} {pos : String} {after : Array Edge} {guard : Option (Nat × Bool)} {x y : Operand} {cs : Array Value} {i : Nat} {v : Value} (hX : P.underlying X = some (.array n E)) (hs : (sizeOf E).run P w = .ok 1 w) (hx : ρ x = .agg cs) (hy : ρ y = .int .i64 i) (hi : i < n) (hb : (isAgg E).run P w = .ok false w) (hv : cs[i]? = some v) :
    (execOp ρ ⟨d, .index X x y, t, pos, after, guard⟩).run P w = .ok (.value v) w := by
  have h1 : (0 : Int) ≤ (i : Int) ∧ (i : Int) < (n : Int) := by omega
  simp [execOp, hx, hy, Instr.index, part, Sem.run_bind, run_underlying hX w, asIntOf, hs, h1, hb, hv, hi]
theorem ex_atArr {P : Program} {ρ : Operand → Value} {w : World} {d : Option Tmp} {t X E : TypeId} {n : Nat} {pos : String} {after : Array Edge} {guard : Option (Nat × Bool)} {x y : Operand} {b i : Nat} (hX : P.underlying X = some (.array n E)) (hs : (sizeOf E).run P w = .ok 1 w) (hx : ρ x = .pointer (some ⟨b, 0, none⟩)) (hy : ρ y = .int .i64 i) (hi : i < n) :
    (execOp ρ ⟨d, .indexAddr X x y, t, pos, after, guard⟩).run P w = .ok (.value (.pointer (some ⟨b, i, none⟩))) w := by
  have hadd : (⟨b, 0, none⟩ : Addr).add (i * 1) = ⟨b, i, none⟩ := by rw [Addr.add_mid]; simp
  have hlt : (0 : Int) ≤ (i : Int) ∧ (i : Int) < (n : Int) := by omega
  have hlt' : ¬ ((i : Int) < 0 ∨ (n : Int) ≤ (i : Int)) := by omega
  simp only [Nat.mul_one] at hadd
  simp [execOp, hx, hy, Instr.indexAt, Instr.sureAddr, asIntOf, Sem.run_bind, Sem.run_pure, Result.andThen_ok, run_underlying hX w, hs, hadd, hlt, hi]
theorem ex_shrI {P : Program} {ρ : Operand → Value} {w : World} {d : Option Tmp} {t X Y : TypeId} {x y : Operand} {pos : String} {after : Array Edge} {guard : Option (Nat × Bool)} {m n : Nat} (hx : ρ x = .int .i64 (m : Int)) (hy : ρ y = .int .i64 (n : Int)) (hn : n ≤ 64) : (execOp ρ ⟨d, .binOp .shr X x y Y, t, pos, after, guard⟩).run P w = .ok (.value (.int .i64 ((m / 2 ^ n : Nat) : Int))) w := by
  have e : (eqGuard .shr X x y (.int .i64 (m : Int)) (.int .i64 (n : Int))).run P w = .ok () w := rfl
  have h : (binOp .shr X (.int .i64 (m : Int)) (.int .i64 (n : Int))).run P w = .ok (.int .i64 ((m / 2 ^ n : Nat) : Int)) w := by
    show (Op.shift .shr .i64 (m : Int) .i64 (n : Int)).run P w = _
    unfold Op.shift
    rw [if_neg (by omega)]
    show Result.ok (Value.int .i64 (Int.fdiv (m : Int) (2 ^ (min (n : Int).toNat 64)))) w = _
    rw [Int.toNat_natCast, Nat.min_eq_left hn, Int.fdiv_eq_ediv_of_nonneg _ (show (0 : Int) ≤ 2 ^ n from Int.le_of_lt (Int.pow_pos (by decide)))]
    simp
  simp only [execOp, hx, hy, Sem.run_bind, e, Result.andThen_ok, h, Sem.run_pure]
theorem ex_andOne {P : Program} {ρ : Operand → Value} {w : World} {d : Option Tmp} {t X Y : TypeId} {x y : Operand} {pos : String} {after : Array Edge} {guard : Option (Nat × Bool)} {m : Nat} (hx : ρ x = .int .i64 (m : Int)) (hy : ρ y = .int .i64 1) : (execOp ρ ⟨d, .binOp .and X x y Y, t, pos, after, guard⟩).run P w = .ok (.value (.int .i64 ((m % 2 : Nat) : Int))) w := by
  refine ex_bin hx hy ?_
  rw [run_binInt _ (by simp)]
  show Result.ok (Value.int .i64 (IntKind.i64.wrap ((BitVec.ofInt 64 (m : Int) &&& BitVec.ofInt 64 (1 : Int)).toNat : Int))) w = _
  have h1 : (BitVec.ofInt 64 (m : Int) &&& BitVec.ofInt 64 (1 : Int)).toNat = m % 2 := by
    rw [BitVec.toNat_and, BitVec.ofInt_natCast, show BitVec.ofInt 64 (1 : Int) = 1#64 from rfl, BitVec.toNat_ofNat, show (1#64).toNat = 1 from rfl, Nat.and_one_is_mod]
    omega
  rw [h1, wrap64_in (by omega) (by omega)]
theorem wireCheckOk_spec (F : Fz) (w : World) (v : Value) (k : Nat) (r : Rq) (hh : Has w) (hv : ReqV F v k r.name r.key r.last r.value) (ok : RqOk k r) :
    Calls Tryd.prog 23 #[v] w (Tells w (.int .i64 0)) := by
  have := wireCheck_spec F w v k r.name r.key r.last r.value ok.kind.1 ok.kind.2 hh hv
  rwa [ok.fits] at this
def EncQ (b : By) (F : Fz) (u : Value) : Prop := ∃ x, u = .tuple #[x, .int .i64 0] ∧ Bs F x b
theorem encPre_len {k : Nat} {r : Rq} (ok : RqOk k r) : ∀ i, i ≤ 4 → (encPre (hasN k) r i).length ≤ 33 * i := by
  obtain ⟨a1, a2, a3, a4⟩ := ok.lens
  intro i hi
  have h : ∀ j, j < 4 → (r.part j).length ≤ 32 := fun j hj => by
    rcases (by omega : j = 0 ∨ j = 1 ∨ j = 2 ∨ j = 3) with rfl | rfl | rfl | rfl
    · exact Nat.le_trans a1 (by omega)
    · exact Nat.le_trans a2 (by omega)
    · exact Nat.le_trans a3 (by omega)
    · exact a4
  clear a1 a2 a3 a4
  induction i with
  | zero => simp [encPre]
  | succ i ih =>
    have := ih (by omega)
    have := h i (by omega)
    have := optE_len ((hasN k).testBit i) (r.part i)
    simp only [encPre, List.length_append]
    omega
set_option maxHeartbeats 8000000 in
theorem wireEncode_spec (F : Fz) (w : World) (v : Value) (k : Nat) (r : Rq) (hs : Sat w F) (hh : Has w) (hv : ReqV F v k r.name r.key r.last r.value) (ok : RqOk k r) :
    Calls Tryd.prog 11 #[v] w (Gives w F (EncQ (encQ k r))) := by
 have hk := ok.kind
 obtain ⟨a1, a2, a3, a4⟩ := ok.lens
 obtain ⟨_, _, _, _, rfl, h0, h1, h2, h3⟩ := hv
 obtain ⟨x0, y0, rfl, _⟩ := h0.shape
 obtain ⟨x1, y1, rfl, _⟩ := h1.shape
 obtain ⟨x2, y2, rfl, _⟩ := h2.shape
 obtain ⟨x3, y3, rfl, _⟩ := h3.shape
 obtain ⟨i5, hi5, hz5, hs5, hb5⟩ := info_parts infoU8
 have S := St.start hs
 go_enter Tryd.func11, Tryd.ntmps11
 refine wp_seq_k (fun K1 hK1 => region_wl ?_)
 refine stNew S (v := fun n => .pointer (some ⟨n, 0, none⟩)) rfl (ex_box (v := (.agg #[(.int .i64 ((k : Nat) : Int)), (.slice x0 r.name.length y0), (.slice x1 r.key.length y1), (.slice x2 r.last.length y2), (.slice x3 r.value.length y3)])) rfl) (fun n2 w3 S4 => ?_)
 simp only [pS, pN, pA, pC, pZ]
 have S4 : St w F w3 F [⟨n2, [(.int .i64 ((k : Nat) : Int)), (.slice x0 r.name.length y0), (.slice x1 r.key.length y1), (.slice x2 r.last.length y2), (.slice x3 r.value.length y3)], 25⟩] [] := S4
 refine do_ rfl (.slice none 0 0) (ex_assign _) ?_
 simp only [pS, pN, pA, pC, pZ]
 refine do_ rfl (.int .i64 0) (ex_assign _) ?_
 simp only [pS, pN, pA, pC, pZ]
 refine wl_nil (hK1 _ _ ?_)
 refine wp_seq_k (fun K5 hK5 => ?_)
 refine wp_seq_k (fun K6 hK6 => region_wl ?_)
 refine do_ rfl (.agg #[(.int .i64 ((k : Nat) : Int)), (.slice x0 r.name.length y0), (.slice x1 r.key.length y1), (.slice x2 r.last.length y2), (.slice x3 r.value.length y3)]) (ex_load rfl (loadN (cs := [(.int .i64 ((k : Nat) : Int)), (.slice x0 r.name.length y0), (.slice x1 r.key.length y1), (.slice x2 r.last.length y2), (.slice x3 r.value.length y3)]) Tryd.underlying25 rfl (size_25) (St.range S4 (i := 0) rfl 0 [(.int .i64 ((k : Nat) : Int)), (.slice x0 r.name.length y0), (.slice x1 r.key.length y1), (.slice x2 r.last.length y2), (.slice x3 r.value.length y3)] (sub_range 0 rfl)))) ?_
 simp only [pS, pN, pA, pC, pZ]
 refine stTells (v := (.int .i64 0)) S4 rfl (ex_fn (vs := #[(.agg #[(.int .i64 ((k : Nat) : Int)), (.slice x0 r.name.length y0), (.slice x1 r.key.length y1), (.slice x2 r.last.length y2), (.slice x3 r.value.length y3)])]) (map1 rfl) rfl (ent_23 _ _)) (wireCheckOk_spec _ _ _ k r (hh.below S4.gr.below) ⟨_, _, _, _, rfl, h0, h1, h2, h3⟩ ok) (fun w7 S8 => ?_)
 simp only [pS, pN, pA, pC, pZ]
 refine do_ rfl (.int .i64 0) (ex_assign _) ?_
 simp only [pS, pN, pA, pC, pZ]
 refine wl_nil (hK6 _ _ ?_)
 refine wp_seq_k (fun K9 hK9 => region_wl ?_)
 refine do_ rfl (.int .i64 0) (ex_move _) ?_
 simp only [pS, pN, pA, pC, pZ]
 refine do_ rfl (.bool false) (ex_neq (m := (0 : Int)) (n := (0 : Int)) (b := false) rfl rfl (bne_eq_false_iff_eq.2 (rfl))) ?_
 simp only [pS, pN, pA, pC, pZ]
 refine wl_nil (hK9 _ _ ?_)
 refine wp_cond_false rfl ?_
 refine wp_skip ?_
 refine hK5 _ _ ?_
 refine wp_seq_k (fun K10 hK10 => region_wl ?_)
 refine do_ rfl (.pointer (some ⟨n2, 0, none⟩)) (ex_field (q := ⟨n2, 0, none⟩) rfl (fa_25_0 _ _)) ?_
 simp only [pS, pN, pA, pC, pZ]
 refine do_ rfl (.int .i64 ((k : Nat) : Int)) (ex_load rfl (load1 (nagg_3 _) (St.cell S8 (i := 0) rfl rfl))) ?_
 simp only [pS, pN, pA, pC, pZ]
 refine do_ rfl (bv (b8 k)) (ex_convert (v := (.int .i64 ((k : Nat) : Int))) rfl (conv_b8 k _)) ?_
 simp only [pS, pN, pA, pC, pZ]
 refine stNew S8 (v := fun n => .slice (some ⟨n, 0, none⟩) 1 1) rfl (ex_lit (ps := #[(0, (bv (b8 k)))]) (cells := #[(bv (b8 k))]) (E := 5) (bmap1 rfl) (fun w => by kernel_rfl)) (fun n11 w12 S13 => ?_)
 simp only [pS, pN, pA, pC, pZ]
 have S13 : St w F w12 F [⟨n11, [(bv (b8 k))], 5⟩, ⟨n2, [(.int .i64 ((k : Nat) : Int)), (.slice x0 r.name.length y0), (.slice x1 r.key.length y1), (.slice x2 r.last.length y2), (.slice x3 r.value.length y3)], 25⟩] [] := S13
 refine do_ rfl (.slice (some ⟨n11, 0, none⟩) 1 1) (ex_assign _) ?_
 simp only [pS, pN, pA, pC, pZ]
 refine wl_nil (hK10 _ _ ?_)
 refine wp_seq_k (fun K14 hK14 => ?_)
 refine wp_seq_k (fun K15 hK15 => region_wl ?_)
 refine do_ rfl (.pointer (some ⟨n2, 1, none⟩)) (ex_field (q := ⟨n2, 1, none⟩) rfl (fa_25_1 _ _)) ?_
 simp only [pS, pN, pA, pC, pZ]
 refine do_ rfl (.slice x0 r.name.length y0) (ex_load rfl (load1 (nagg_22 _) (St.cell S13 (i := 1) rfl rfl))) ?_
 simp only [pS, pN, pA, pC, pZ]
 refine do_ rfl (.pointer (some ⟨n2, 2, none⟩)) (ex_field (q := ⟨n2, 2, none⟩) rfl (fa_25_2 _ _)) ?_
 simp only [pS, pN, pA, pC, pZ]
 refine do_ rfl (.slice x1 r.key.length y1) (ex_load rfl (load1 (nagg_22 _) (St.cell S13 (i := 1) rfl rfl))) ?_
 simp only [pS, pN, pA, pC, pZ]
 refine do_ rfl (.pointer (some ⟨n2, 3, none⟩)) (ex_field (q := ⟨n2, 3, none⟩) rfl (fa_25_3 _ _)) ?_
 simp only [pS, pN, pA, pC, pZ]
 refine do_ rfl (.slice x2 r.last.length y2) (ex_load rfl (load1 (nagg_22 _) (St.cell S13 (i := 1) rfl rfl))) ?_
 simp only [pS, pN, pA, pC, pZ]
 refine do_ rfl (.pointer (some ⟨n2, 4, none⟩)) (ex_field (q := ⟨n2, 4, none⟩) rfl (fa_25_4 _ _)) ?_
 simp only [pS, pN, pA, pC, pZ]
 refine do_ rfl (.slice x3 r.value.length y3) (ex_load rfl (load1 (nagg_22 _) (St.cell S13 (i := 1) rfl rfl))) ?_
 simp only [pS, pN, pA, pC, pZ]
 refine do_ rfl (.agg #[(.slice x0 r.name.length y0), (.slice x1 r.key.length y1), (.slice x2 r.last.length y2), (.slice x3 r.value.length y3)]) (ex_build (ps := #[(0, (.slice x0 r.name.length y0)), (1, (.slice x1 r.key.length y1)), (2, (.slice x2 r.last.length y2)), (3, (.slice x3 r.value.length y3))]) (bmap4 rfl rfl rfl rfl) (by kernel_rfl)) ?_
 simp only [pS, pN, pA, pC, pZ]
 refine do_ rfl (.int .i64 0) (ex_move _) ?_
 simp only [pS, pN, pA, pC, pZ]
 refine wl_nil (hK15 _ _ ?_)
 refine wp_block ?_
 have S16 : St w F w12 F [⟨n2, [(.int .i64 ((k : Nat) : Int)), (.slice x0 r.name.length y0), (.slice x1 r.key.length y1), (.slice x2 r.last.length y2), (.slice x3 r.value.length y3)], 25⟩] [ownP 1 ByC ByC.mono 5 w.heap.size (.slice (some ⟨n11, 0, none⟩) 1 1) [b8 k]] := St.blkRow (k := 1) (l := [b8 k]) (el := [[(bv (b8 k))]]) (hR := ByC.mono) S13 rfl ⟨rfl, trivial⟩ (by simp) rfl (by simp) (by unfold maxLen; decide) (S13.blk _ (List.mem_cons_self ..)).2.2
 refine wp_loop_g (fun mm aa w19 => ∃ (i : Nat) (v : Value) (F17 : Fz) (u18 : Nat → Value), mm = 4 - i ∧ u18 = slots aa ∧ aa = ⟨#[(.agg #[(.int .i64 ((k : Nat) : Int)), (.slice x0 r.name.length y0), (.slice x1 r.key.length y1), (.slice x2 r.last.length y2), (.slice x3 r.value.length y3)]), (.pointer (some ⟨n2, 0, none⟩)), (.slice none 0 0), (.int .i64 0), (.int .i64 0), v, (u18 6), (u18 7), (.agg #[(.int .i64 ((k : Nat) : Int)), (.slice x0 r.name.length y0), (.slice x1 r.key.length y1), (.slice x2 r.last.length y2), (.slice x3 r.value.length y3)]), (.int .i64 0), (.int .i64 0), (.bool false), undef, (.pointer (some ⟨n2, 0, none⟩)), (.int .i64 ((k : Nat) : Int)), (bv (b8 k)), (.slice (some ⟨n11, 0, none⟩) 1 1), (.pointer (some ⟨n2, 1, none⟩)), (.slice x0 r.name.length y0), (.pointer (some ⟨n2, 2, none⟩)), (.slice x1 r.key.length y1), (.pointer (some ⟨n2, 3, none⟩)), (.slice x2 r.last.length y2), (.pointer (some ⟨n2, 4, none⟩)), (.slice x3 r.value.length y3), (.agg #[(.slice x0 r.name.length y0), (.slice x1 r.key.length y1), (.slice x2 r.last.length y2), (.slice x3 r.value.length y3)]), (.int .i64 ((i : Nat) : Int)), (u18 27), (u18 28), (u18 29), (u18 30), (u18 31), (u18 32), (u18 33), (u18 34), (u18 35), (u18 36), (u18 37), (u18 38), (u18 39), (u18 40), (u18 41), (u18 42), (u18 43), (u18 44), (u18 45), (u18 46), undef], []⟩ ∧ St w F w19 F17 [⟨n2, [(.int .i64 ((k : Nat) : Int)), (.slice x0 r.name.length y0), (.slice x1 r.key.length y1), (.slice x2 r.last.length y2), (.slice x3 r.value.length y3)], 25⟩] [ownP 1 ByC ByC.mono 5 w.heap.size v (b8 k :: encPre (hasN k) r i)] ∧ Le F F17 ∧ (i ≤ 4)) _ ⟨0, (.slice (some ⟨n11, 0, none⟩) 1 1), F, _, rfl, rfl, rfl, S16, Le.refl _, (by omega)⟩ ?_
 rintro m20 a21 w22 ⟨i, v, F17, u18, rfl, -, rfl, S23, le24, hi4⟩ K25 hK25
 refine wp_seq_k (fun K26 hK26 => region_wl ?_)
 by_cases hc27 : i < 4
 ·refine do_ rfl (.bool true) (ex_lss (m := ((i : Nat) : Int)) (n := (4 : Int)) (b := true) rfl rfl (decide_eq_true (by omega))) ?_
  simp only [pS, pN, pA, pC, pZ]
  refine wl_nil (hK26 _ _ ?_)
  refine wp_seq_k (fun K27 hK27 => ?_)
  refine wp_cond_true rfl ?_
  refine wp_skip ?_
  refine hK27 _ _ ?_
  refine wp_seq_k (fun K28 hK28 => ?_)
  refine wp_block ?_
  refine wp_seq_k (fun K29 hK29 => ?_)
  rcases (by omega : i = 0 ∨ i = 1 ∨ i = 2 ∨ i = 3) with h4 | h4 | h4 | h4
  ·by_cases he : (hasN k).testBit i = true
   ·have hx := bit_yes he
    have hpl := encPre_len ok i (by omega)
    refine region_wl ?_
    refine do_ rfl (.int .i64 ((i : Nat) : Int)) (ex_move _) ?_
    simp only [pS, pN, pA, pC, pZ]
    refine do_ rfl (.slice x0 r.name.length y0) (ex_indexV (i := i) Tryd.underlying56 (sizeof_22 _) rfl rfl (by omega) (nagg_22 _) (by rw [h4]; rfl)) ?_
    simp only [pS, pN, pA, pC, pZ]
    refine do_ rfl (.int .i64 ((i : Nat) : Int)) (ex_assign _) ?_
    simp only [pS, pN, pA, pC, pZ]
    refine do_ rfl (.slice x0 r.name.length y0) (ex_assign _) ?_
    simp only [pS, pN, pA, pC, pZ]
    refine wl_nil (hK29 _ _ ?_)
    refine wp_seq_k (fun K30 hK30 => region_wl ?_)
    refine do_ rfl (.pointer (some ⟨n2, 0, none⟩)) (ex_field (q := ⟨n2, 0, none⟩) rfl (fa_25_0 _ _)) ?_
    simp only [pS, pN, pA, pC, pZ]
    refine do_ rfl (.int .i64 ((k : Nat) : Int)) (ex_load rfl (load1 (nagg_3 _) (St.cell S23 (i := 0) rfl rfl))) ?_
    simp only [pS, pN, pA, pC, pZ]
    refine do_ rfl (.pointer (some ⟨0, k, none⟩)) (ex_atArr (i := k) Tryd.underlying57 (sizeof_3 _) rfl rfl (by omega)) ?_
    simp only [pS, pN, pA, pC, pZ]
    refine do_ rfl (.int .i64 (((hasN k) : Nat) : Int)) (ex_load rfl (load1 (nagg_3 _) (has_at (hh.below S23.gr.below) hk))) ?_
    simp only [pS, pN, pA, pC, pZ]
    refine do_ rfl (.int .i64 ((i : Nat) : Int)) (ex_move _) ?_
    simp only [pS, pN, pA, pC, pZ]
    refine do_ rfl (.int .i64 ((((hasN k) / 2 ^ i) : Nat) : Int)) (ex_shrI (m := (hasN k)) (n := i) rfl rfl (by omega)) ?_
    simp only [pS, pN, pA, pC, pZ]
    refine do_ rfl (.int .i64 (((((hasN k) / 2 ^ i) % 2) : Nat) : Int)) (ex_andOne (m := ((hasN k) / 2 ^ i)) rfl rfl) ?_
    simp only [pS, pN, pA, pC, pZ]
    refine do_ rfl (.bool true) (ex_eql (m := (((((hasN k) / 2 ^ i) % 2) : Nat) : Int)) (n := (1 : Int)) (b := true) rfl rfl (beq_iff_eq.2 (by rw [hx]; rfl))) ?_
    simp only [pS, pN, pA, pC, pZ]
    refine wl_nil (hK30 _ _ ?_)
    refine wp_cond_true rfl ?_
    refine region_wl ?_
    refine do_ rfl v (ex_move _) ?_
    simp only [pS, pN, pA, pC, pZ]
    refine do_ rfl (.slice x0 r.name.length y0) (ex_move _) ?_
    simp only [pS, pN, pA, pC, pZ]
    refine do_ rfl (.int .i64 ((r.name.length : Nat) : Int)) (ex_len Tryd.underlying22 rfl) ?_
    simp only [pS, pN, pA, pC, pZ]
    refine do_ rfl (bv (b8 r.name.length)) (ex_convert (v := (.int .i64 ((r.name.length : Nat) : Int))) rfl (conv_b8 r.name.length _)) ?_
    simp only [pS, pN, pA, pC, pZ]
    refine stNew S23 (v := fun n => .slice (some ⟨n, 0, none⟩) 1 1) rfl (ex_lit (ps := #[(0, (bv (b8 r.name.length)))]) (cells := #[(bv (b8 r.name.length))]) (E := 5) (bmap1 rfl) (fun w => by kernel_rfl)) (fun n31 w32 S33 => ?_)
    simp only [pS, pN, pA, pC, pZ]
    have S33 : St w F w32 F17 [⟨n31, [(bv (b8 r.name.length))], 5⟩, ⟨n2, [(.int .i64 ((k : Nat) : Int)), (.slice x0 r.name.length y0), (.slice x1 r.key.length y1), (.slice x2 r.last.length y2), (.slice x3 r.value.length y3)], 25⟩] [ownP 1 ByC ByC.mono 5 w.heap.size v (b8 k :: encPre (hasN k) r i)] := S33
    refine stPush (i := 0) (r := 0) (p := (b8 r.name.length)) (cs := [(bv (b8 r.name.length))]) S33 rfl i5 (.int .u8 0) 1 Tryd.underlying22 hi5 hz5 hs5 hb5 rfl (by decide) rfl rfl rfl rfl rfl (bv_one (b8 r.name.length)) (rfl) (Nat.le_refl _) S33.gr.below.size (by unfold maxLen; simp only [List.length_cons, List.length_append]; omega) (by simp only [List.length_cons, List.length_append]; omega) ?_
    intro v34 w35 S36 hn37
    simp only [pS, pN, pA, pC, pZ]
    have S36 := St.drop S36 (L' := [⟨n2, [(.int .i64 ((k : Nat) : Int)), (.slice x0 r.name.length y0), (.slice x1 r.key.length y1), (.slice x2 r.last.length y2), (.slice x3 r.value.length y3)], 25⟩]) (.cons _ (List.Sublist.refl _))
    have S36 : St w F w35 F17 [⟨n2, [(.int .i64 ((k : Nat) : Int)), (.slice x0 r.name.length y0), (.slice x1 r.key.length y1), (.slice x2 r.last.length y2), (.slice x3 r.value.length y3)], 25⟩] [ownP 1 ByC ByC.mono 5 w.heap.size v34 ((b8 k :: encPre (hasN k) r i) ++ [(b8 r.name.length)])] := S36
    refine do_ rfl (.slice x0 r.name.length y0) (ex_move _) ?_
    simp only [pS, pN, pA, pC, pZ]
    refine stAppendS (r := 0) (u := (.slice x0 r.name.length y0)) S36 rfl i5 (.int .u8 0) 1 Tryd.underlying22 hi5 hz5 hs5 hb5 rfl (by decide) rfl rfl rfl (Sl.toW (Bs.sl (h0.mono le24)) (S36).sat) ByC.one (Nat.le_refl _) S36.gr.below.size (by unfold maxLen; simp only [List.length_cons, List.length_append, List.length_nil]; omega) (by simp only [List.length_cons, List.length_append, List.length_nil]; omega) ?_
    intro v38 w39 S40 hn41
    simp only [pS, pN, pA, pC, pZ]
    have S40 : St w F w39 F17 [⟨n2, [(.int .i64 ((k : Nat) : Int)), (.slice x0 r.name.length y0), (.slice x1 r.key.length y1), (.slice x2 r.last.length y2), (.slice x3 r.value.length y3)], 25⟩] [ownP 1 ByC ByC.mono 5 w.heap.size v38 (((b8 k :: encPre (hasN k) r i) ++ [(b8 r.name.length)]) ++ r.name)] := S40
    refine do_ rfl v38 (ex_assign _) ?_
    simp only [pS, pN, pA, pC, pZ]
    refine wl_nil (hK28 _ _ ?_)
    rw [show (((b8 k :: encPre (hasN k) r i) ++ [(b8 r.name.length)]) ++ r.name) = b8 k :: encPre (hasN k) r (i + 1) from by rw [encPre_yes r he, h4]; simp [Rq.part]] at S40
    refine region_wl ?_
    refine do_ rfl (.int .i64 (((i + 1) : Nat) : Int)) (ex_add (m := ((i : Nat) : Int)) (n := (1 : Int)) (r := (((i + 1) : Nat) : Int)) rfl rfl (by omega) (by omega) (by omega)) ?_
    simp only [pS, pN, pA, pC, pZ]
    refine do_ rfl (.int .i64 (((i + 1) : Nat) : Int)) (ex_move _) ?_
    simp only [pS, pN, pA, pC, pZ]
    refine wl_nil ?_
    exact hK25 _ _ _ (by omega) ⟨(i + 1), v38, F17, _, rfl, rfl, rfl, S40, le24, (by omega)⟩
   ·have he : (hasN k).testBit i = false := by simpa using he
    have hx := bit_no he
    have hpl := encPre_len ok i (by omega)
    refine region_wl ?_
    refine do_ rfl (.int .i64 ((i : Nat) : Int)) (ex_move _) ?_
    simp only [pS, pN, pA, pC, pZ]
    refine do_ rfl (.slice x0 r.name.length y0) (ex_indexV (i := i) Tryd.underlying56 (sizeof_22 _) rfl rfl (by omega) (nagg_22 _) (by rw [h4]; rfl)) ?_
    simp only [pS, pN, pA, pC, pZ]
    refine do_ rfl (.int .i64 ((i : Nat) : Int)) (ex_assign _) ?_
    simp only [pS, pN, pA, pC, pZ]
    refine do_ rfl (.slice x0 r.name.length y0) (ex_assign _) ?_
    simp only [pS, pN, pA, pC, pZ]
    refine wl_nil (hK29 _ _ ?_)
    refine wp_seq_k (fun K42 hK42 => region_wl ?_)
    refine do_ rfl (.pointer (some ⟨n2, 0, none⟩)) (ex_field (q := ⟨n2, 0, none⟩) rfl (fa_25_0 _ _)) ?_
    simp only [pS, pN, pA, pC, pZ]
    refine do_ rfl (.int .i64 ((k : Nat) : Int)) (ex_load rfl (load1 (nagg_3 _) (St.cell S23 (i := 0) rfl rfl))) ?_
    simp only [pS, pN, pA, pC, pZ]
    refine do_ rfl (.pointer (some ⟨0, k, none⟩)) (ex_atArr (i := k) Tryd.underlying57 (sizeof_3 _) rfl rfl (by omega)) ?_
    simp only [pS, pN, pA, pC, pZ]
    refine do_ rfl (.int .i64 (((hasN k) : Nat) : Int)) (ex_load rfl (load1 (nagg_3 _) (has_at (hh.below S23.gr.below) hk))) ?_
    simp only [pS, pN, pA, pC, pZ]
    refine do_ rfl (.int .i64 ((i : Nat) : Int)) (ex_move _) ?_
    simp only [pS, pN, pA, pC, pZ]
    refine do_ rfl (.int .i64 ((((hasN k) / 2 ^ i) : Nat) : Int)) (ex_shrI (m := (hasN k)) (n := i) rfl rfl (by omega)) ?_
    simp only [pS, pN, pA, pC, pZ]
    refine do_ rfl (.int .i64 (((((hasN k) / 2 ^ i) % 2) : Nat) : Int)) (ex_andOne (m := ((hasN k) / 2 ^ i)) rfl rfl) ?_
    simp only [pS, pN, pA, pC, pZ]
    refine do_ rfl (.bool false) (ex_eql (m := (((((hasN k) / 2 ^ i) % 2) : Nat) : Int)) (n := (1 : Int)) (b := false) rfl rfl (beq_eq_false_iff_ne.2 (by rw [hx]; decide))) ?_
    simp only [pS, pN, pA, pC, pZ]
    refine wl_nil (hK42 _ _ ?_)
    refine wp_cond_false rfl ?_
    refine wp_skip ?_
    refine hK28 _ _ ?_
    rw [← encPre_no r he] at S23
    refine region_wl ?_
    refine do_ rfl (.int .i64 (((i + 1) : Nat) : Int)) (ex_add (m := ((i : Nat) : Int)) (n := (1 : Int)) (r := (((i + 1) : Nat) : Int)) rfl rfl (by omega) (by omega) (by omega)) ?_
    simp only [pS, pN, pA, pC, pZ]
    refine do_ rfl (.int .i64 (((i + 1) : Nat) : Int)) (ex_move _) ?_
    simp only [pS, pN, pA, pC, pZ]
    refine wl_nil ?_
    exact hK25 _ _ _ (by omega) ⟨(i + 1), v, F17, _, rfl, rfl, rfl, S23, le24, (by omega)⟩
  ·by_cases he : (hasN k).testBit i = true
   ·have hx := bit_yes he
    have hpl := encPre_len ok i (by omega)
    refine region_wl ?_
    refine do_ rfl (.int .i64 ((i : Nat) : Int)) (ex_move _) ?_
    simp only [pS, pN, pA, pC, pZ]
    refine do_ rfl (.slice x1 r.key.length y1) (ex_indexV (i := i) Tryd.underlying56 (sizeof_22 _) rfl rfl (by omega) (nagg_22 _) (by rw [h4]; rfl)) ?_
    simp only [pS, pN, pA, pC, pZ]
    refine do_ rfl (.int .i64 ((i : Nat) : Int)) (ex_assign _) ?_
    simp only [pS, pN, pA, pC, pZ]
    refine do_ rfl (.slice x1 r.key.length y1) (ex_assign _) ?_
    simp only [pS, pN, pA, pC, pZ]
    refine wl_nil (hK29 _ _ ?_)
    refine wp_seq_k (fun K43 hK43 => region_wl ?_)
    refine do_ rfl (.pointer (some ⟨n2, 0, none⟩)) (ex_field (q := ⟨n2, 0, none⟩) rfl (fa_25_0 _ _)) ?_
    simp only [pS, pN, pA, pC, pZ]
    refine do_ rfl (.int .i64 ((k : Nat) : Int)) (ex_load rfl (load1 (nagg_3 _) (St.cell S23 (i := 0) rfl rfl))) ?_
    simp only [pS, pN, pA, pC, pZ]
    refine do_ rfl (.pointer (some ⟨0, k, none⟩)) (ex_atArr (i := k) Tryd.underlying57 (sizeof_3 _) rfl rfl (by omega)) ?_
    simp only [pS, pN, pA, pC, pZ]
    refine do_ rfl (.int .i64 (((hasN k) : Nat) : Int)) (ex_load rfl (load1 (nagg_3 _) (has_at (hh.below S23.gr.below) hk))) ?_
    simp only [pS, pN, pA, pC, pZ]
    refine do_ rfl (.int .i64 ((i : Nat) : Int)) (ex_move _) ?_
    simp only [pS, pN, pA, pC, pZ]
    refine do_ rfl (.int .i64 ((((hasN k) / 2 ^ i) : Nat) : Int)) (ex_shrI (m := (hasN k)) (n := i) rfl rfl (by omega)) ?_
    simp only [pS, pN, pA, pC, pZ]
    refine do_ rfl (.int .i64 (((((hasN k) / 2 ^ i) % 2) : Nat) : Int)) (ex_andOne (m := ((hasN k) / 2 ^ i)) rfl rfl) ?_
    simp only [pS, pN, pA, pC, pZ]
    refine do_ rfl (.bool true) (ex_eql (m := (((((hasN k) / 2 ^ i) % 2) : Nat) : Int)) (n := (1 : Int)) (b := true) rfl rfl (beq_iff_eq.2 (by rw [hx]; rfl))) ?_
    simp only [pS, pN, pA, pC, pZ]
    refine wl_nil (hK43 _ _ ?_)
    refine wp_cond_true rfl ?_
    refine region_wl ?_
    refine do_ rfl v (ex_move _) ?_
    simp only [pS, pN, pA, pC, pZ]
    refine do_ rfl (.slice x1 r.key.length y1) (ex_move _) ?_
    simp only [pS, pN, pA, pC, pZ]
    refine do_ rfl (.int .i64 ((r.key.length : Nat) : Int)) (ex_len Tryd.underlying22 rfl) ?_
    simp only [pS, pN, pA, pC, pZ]
    refine do_ rfl (bv (b8 r.key.length)) (ex_convert (v := (.int .i64 ((r.key.length : Nat) : Int))) rfl (conv_b8 r.key.length _)) ?_
    simp only [pS, pN, pA, pC, pZ]
    refine stNew S23 (v := fun n => .slice (some ⟨n, 0, none⟩) 1 1) rfl (ex_lit (ps := #[(0, (bv (b8 r.key.length)))]) (cells := #[(bv (b8 r.key.length))]) (E := 5) (bmap1 rfl) (fun w => by kernel_rfl)) (fun n44 w45 S46 => ?_)
    simp only [pS, pN, pA, pC, pZ]
    have S46 : St w F w45 F17 [⟨n44, [(bv (b8 r.key.length))], 5⟩, ⟨n2, [(.int .i64 ((k : Nat) : Int)), (.slice x0 r.name.length y0), (.slice x1 r.key.length y1), (.slice x2 r.last.length y2), (.slice x3 r.value.length y3)], 25⟩] [ownP 1 ByC ByC.mono 5 w.heap.size v (b8 k :: encPre (hasN k) r i)] := S46
    refine stPush (i := 0) (r := 0) (p := (b8 r.key.length)) (cs := [(bv (b8 r.key.length))]) S46 rfl i5 (.int .u8 0) 1 Tryd.underlying22 hi5 hz5 hs5 hb5 rfl (by decide) rfl rfl rfl rfl rfl (bv_one (b8 r.key.length)) (rfl) (Nat.le_refl _) S46.gr.below.size (by unfold maxLen; simp only [List.length_cons, List.length_append]; omega) (by simp only [List.length_cons, List.length_append]; omega) ?_
    intro v47 w48 S49 hn50
    simp only [pS, pN, pA, pC, pZ]
    have S49 := St.drop S49 (L' := [⟨n2, [(.int .i64 ((k : Nat) : Int)), (.slice x0 r.name.length y0), (.slice x1 r.key.length y1), (.slice x2 r.last.length y2), (.slice x3 r.value.length y3)], 25⟩]) (.cons _ (List.Sublist.refl _))
    have S49 : St w F w48 F17 [⟨n2, [(.int .i64 ((k : Nat) : Int)), (.slice x0 r.name.length y0), (.slice x1 r.key.length y1), (.slice x2 r.last.length y2), (.slice x3 r.value.length y3)], 25⟩] [ownP 1 ByC ByC.mono 5 w.heap.size v47 ((b8 k :: encPre (hasN k) r i) ++ [(b8 r.key.length)])] := S49
    refine do_ rfl (.slice x1 r.key.length y1) (ex_move _) ?_
    simp only [pS, pN, pA, pC, pZ]
    refine stAppendS (r := 0) (u := (.slice x1 r.key.length y1)) S49 rfl i5 (.int .u8 0) 1 Tryd.underlying22 hi5 hz5 hs5 hb5 rfl (by decide) rfl rfl rfl (Sl.toW (Bs.sl (h1.mono le24)) (S49).sat) ByC.one (Nat.le_refl _) S49.gr.below.size (by unfold maxLen; simp only [List.length_cons, List.length_append, List.length_nil]; omega) (by simp only [List.length_cons, List.length_append, List.length_nil]; omega) ?_
    intro v51 w52 S53 hn54
    simp only [pS, pN, pA, pC, pZ]
    have S53 : St w F w52 F17 [⟨n2, [(.int .i64 ((k : Nat) : Int)), (.slice x0 r.name.length y0), (.slice x1 r.key.length y1), (.slice x2 r.last.length y2), (.slice x3 r.value.length y3)], 25⟩] [ownP 1 ByC ByC.mono 5 w.heap.size v51 (((b8 k :: encPre (hasN k) r i) ++ [(b8 r.key.length)]) ++ r.key)] := S53
    refine do_ rfl v51 (ex_assign _) ?_
    simp only [pS, pN, pA, pC, pZ]
    refine wl_nil (hK28 _ _ ?_)
    rw [show (((b8 k :: encPre (hasN k) r i) ++ [(b8 r.key.length)]) ++ r.key) = b8 k :: encPre (hasN k) r (i + 1) from by rw [encPre_yes r he, h4]; simp [Rq.part]] at S53
    refine region_wl ?_
    refine do_ rfl (.int .i64 (((i + 1) : Nat) : Int)) (ex_add (m := ((i : Nat) : Int)) (n := (1 : Int)) (r := (((i + 1) : Nat) : Int)) rfl rfl (by omega) (by omega) (by omega)) ?_
    simp only [pS, pN, pA, pC, pZ]
    refine do_ rfl (.int .i64 (((i + 1) : Nat) : Int)) (ex_move _) ?_
    simp only [pS, pN, pA, pC, pZ]
    refine wl_nil ?_
    exact hK25 _ _ _ (by omega) ⟨(i + 1), v51, F17, _, rfl, rfl, rfl, S53, le24, (by omega)⟩
   ·have he : (hasN k).testBit i = false := by simpa using he
    have hx := bit_no he
    have hpl := encPre_len ok i (by omega)
    refine region_wl ?_
    refine do_ rfl (.int .i64 ((i : Nat) : Int)) (ex_move _) ?_
    simp only [pS, pN, pA, pC, pZ]
    refine do_ rfl (.slice x1 r.key.length y1) (ex_indexV (i := i) Tryd.underlying56 (sizeof_22 _) rfl rfl (by omega) (nagg_22 _) (by rw [h4]; rfl)) ?_
    simp only [pS, pN, pA, pC, pZ]
    refine do_ rfl (.int .i64 ((i : Nat) : Int)) (ex_assign _) ?_
    simp only [pS, pN, pA, pC, pZ]
    refine do_ rfl (.slice x1 r.key.length y1) (ex_assign _) ?_
    simp only [pS, pN, pA, pC, pZ]
    refine wl_nil (hK29 _ _ ?_)
    refine wp_seq_k (fun K55 hK55 => region_wl ?_)
    refine do_ rfl (.pointer (some ⟨n2, 0, none⟩)) (ex_field (q := ⟨n2, 0, none⟩) rfl (fa_25_0 _ _)) ?_
    simp only [pS, pN, pA, pC, pZ]
    refine do_ rfl (.int .i64 ((k : Nat) : Int)) (ex_load rfl (load1 (nagg_3 _) (St.cell S23 (i := 0) rfl rfl))) ?_
    simp only [pS, pN, pA, pC, pZ]
    refine do_ rfl (.pointer (some ⟨0, k, none⟩)) (ex_atArr (i := k) Tryd.underlying57 (sizeof_3 _) rfl rfl (by omega)) ?_
    simp only [pS, pN, pA, pC, pZ]
    refine do_ rfl (.int .i64 (((hasN k) : Nat) : Int)) (ex_load rfl (load1 (nagg_3 _) (has_at (hh.below S23.gr.below) hk))) ?_
    simp only [pS, pN, pA, pC, pZ]
    refine do_ rfl (.int .i64 ((i : Nat) : Int)) (ex_move _) ?_
    simp only [pS, pN, pA, pC, pZ]
    refine do_ rfl (.int .i64 ((((hasN k) / 2 ^ i) : Nat) : Int)) (ex_shrI (m := (hasN k)) (n := i) rfl rfl (by omega)) ?_
    simp only [pS, pN, pA, pC, pZ]
    refine do_ rfl (.int .i64 (((((hasN k) / 2 ^ i) % 2) : Nat) : Int)) (ex_andOne (m := ((hasN k) / 2 ^ i)) rfl rfl) ?_
    simp only [pS, pN, pA, pC, pZ]
    refine do_ rfl (.bool false) (ex_eql (m := (((((hasN k) / 2 ^ i) % 2) : Nat) : Int)) (n := (1 : Int)) (b := false) rfl rfl (beq_eq_false_iff_ne.2 (by rw [hx]; decide))) ?_
    simp only [pS, pN, pA, pC, pZ]
    refine wl_nil (hK55 _ _ ?_)
    refine wp_cond_false rfl ?_
    refine wp_skip ?_
    refine hK28 _ _ ?_
    rw [← encPre_no r he] at S23
    refine region_wl ?_
    refine do_ rfl (.int .i64 (((i + 1) : Nat) : Int)) (ex_add (m := ((i : Nat) : Int)) (n := (1 : Int)) (r := (((i + 1) : Nat) : Int)) rfl rfl (by omega) (by omega) (by omega)) ?_
    simp only [pS, pN, pA, pC, pZ]
    refine do_ rfl (.int .i64 (((i + 1) : Nat) : Int)) (ex_move _) ?_
    simp only [pS, pN, pA, pC, pZ]
    refine wl_nil ?_
    exact hK25 _ _ _ (by omega) ⟨(i + 1), v, F17, _, rfl, rfl, rfl, S23, le24, (by omega)⟩
  ·by_cases he : (hasN k).testBit i = true
   ·have hx := bit_yes he
    have hpl := encPre_len ok i (by omega)
    refine region_wl ?_
    refine do_ rfl (.int .i64 ((i : Nat) : Int)) (ex_move _) ?_
    simp only [pS, pN, pA, pC, pZ]
    refine do_ rfl (.slice x2 r.last.length y2) (ex_indexV (i := i) Tryd.underlying56 (sizeof_22 _) rfl rfl (by omega) (nagg_22 _) (by rw [h4]; rfl)) ?_
    simp only [pS, pN, pA, pC, pZ]
    refine do_ rfl (.int .i64 ((i : Nat) : Int)) (ex_assign _) ?_
    simp only [pS, pN, pA, pC, pZ]
    refine do_ rfl (.slice x2 r.last.length y2) (ex_assign _) ?_
    simp only [pS, pN, pA, pC, pZ]
    refine wl_nil (hK29 _ _ ?_)
    refine wp_seq_k (fun K56 hK56 => region_wl ?_)
    refine do_ rfl (.pointer (some ⟨n2, 0, none⟩)) (ex_field (q := ⟨n2, 0, none⟩) rfl (fa_25_0 _ _)) ?_
    simp only [pS, pN, pA, pC, pZ]
    refine do_ rfl (.int .i64 ((k : Nat) : Int)) (ex_load rfl (load1 (nagg_3 _) (St.cell S23 (i := 0) rfl rfl))) ?_
    simp only [pS, pN, pA, pC, pZ]
    refine do_ rfl (.pointer (some ⟨0, k, none⟩)) (ex_atArr (i := k) Tryd.underlying57 (sizeof_3 _) rfl rfl (by omega)) ?_
    simp only [pS, pN, pA, pC, pZ]
    refine do_ rfl (.int .i64 (((hasN k) : Nat) : Int)) (ex_load rfl (load1 (nagg_3 _) (has_at (hh.below S23.gr.below) hk))) ?_
    simp only [pS, pN, pA, pC, pZ]
    refine do_ rfl (.int .i64 ((i : Nat) : Int)) (ex_move _) ?_
    simp only [pS, pN, pA, pC, pZ]
    refine do_ rfl (.int .i64 ((((hasN k) / 2 ^ i) : Nat) : Int)) (ex_shrI (m := (hasN k)) (n := i) rfl rfl (by omega)) ?_
    simp only [pS, pN, pA, pC, pZ]
    refine do_ rfl (.int .i64 (((((hasN k) / 2 ^ i) % 2) : Nat) : Int)) (ex_andOne (m := ((hasN k) / 2 ^ i)) rfl rfl) ?_
    simp only [pS, pN, pA, pC, pZ]
    refine do_ rfl (.bool true) (ex_eql (m := (((((hasN k) / 2 ^ i) % 2) : Nat) : Int)) (n := (1 : Int)) (b := true) rfl rfl (beq_iff_eq.2 (by rw [hx]; rfl))) ?_
    simp only [pS, pN, pA, pC, pZ]
    refine wl_nil (hK56 _ _ ?_)
    refine wp_cond_true rfl ?_
    refine region_wl ?_
    refine do_ rfl v (ex_move _) ?_
    simp only [pS, pN, pA, pC, pZ]
    refine do_ rfl (.slice x2 r.last.length y2) (ex_move _) ?_
    simp only [pS, pN, pA, pC, pZ]
    refine do_ rfl (.int .i64 ((r.last.length : Nat) : Int)) (ex_len Tryd.underlying22 rfl) ?_
    simp only [pS, pN, pA, pC, pZ]
    refine do_ rfl (bv (b8 r.last.length)) (ex_convert (v := (.int .i64 ((r.last.length : Nat) : Int))) rfl (conv_b8 r.last.length _)) ?_
    simp only [pS, pN, pA, pC, pZ]
    refine stNew S23 (v := fun n => .slice (some ⟨n, 0, none⟩) 1 1) rfl (ex_lit (ps := #[(0, (bv (b8 r.last.length)))]) (cells := #[(bv (b8 r.last.length))]) (E := 5) (bmap1 rfl) (fun w => by kernel_rfl)) (fun n57 w58 S59 => ?_)
    simp only [pS, pN, pA, pC, pZ]
    have S59 : St w F w58 F17 [⟨n57, [(bv (b8 r.last.length))], 5⟩, ⟨n2, [(.int .i64 ((k : Nat) : Int)), (.slice x0 r.name.length y0), (.slice x1 r.key.length y1), (.slice x2 r.last.length y2), (.slice x3 r.value.length y3)], 25⟩] [ownP 1 ByC ByC.mono 5 w.heap.size v (b8 k :: encPre (hasN k) r i)] := S59
    refine stPush (i := 0) (r := 0) (p := (b8 r.last.length)) (cs := [(bv (b8 r.last.length))]) S59 rfl i5 (.int .u8 0) 1 Tryd.underlying22 hi5 hz5 hs5 hb5 rfl (by decide) rfl rfl rfl rfl rfl (bv_one (b8 r.last.length)) (rfl) (Nat.le_refl _) S59.gr.below.size (by unfold maxLen; simp only [List.length_cons, List.length_append]; omega) (by simp only [List.length_cons, List.length_append]; omega) ?_
    intro v60 w61 S62 hn63
    simp only [pS, pN, pA, pC, pZ]
    have S62 := St.drop S62 (L' := [⟨n2, [(.int .i64 ((k : Nat) : Int)), (.slice x0 r.name.length y0), (.slice x1 r.key.length y1), (.slice x2 r.last.length y2), (.slice x3 r.value.length y3)], 25⟩]) (.cons _ (List.Sublist.refl _))
    have S62 : St w F w61 F17 [⟨n2, [(.int .i64 ((k : Nat) : Int)), (.slice x0 r.name.length y0), (.slice x1 r.key.length y1), (.slice x2 r.last.length y2), (.slice x3 r.value.length y3)], 25⟩] [ownP 1 ByC ByC.mono 5 w.heap.size v60 ((b8 k :: encPre (hasN k) r i) ++ [(b8 r.last.length)])] := S62
    refine do_ rfl (.slice x2 r.last.length y2) (ex_move _) ?_
    simp only [pS, pN, pA, pC, pZ]
    refine stAppendS (r := 0) (u := (.slice x2 r.last.length y2)) S62 rfl i5 (.int .u8 0) 1 Tryd.underlying22 hi5 hz5 hs5 hb5 rfl (by decide) rfl rfl rfl (Sl.toW (Bs.sl (h2.mono le24)) (S62).sat) ByC.one (Nat.le_refl _) S62.gr.below.size (by unfold maxLen; simp only [List.length_cons, List.length_append, List.length_nil]; omega) (by simp only [List.length_cons, List.length_append, List.length_nil]; omega) ?_
    intro v64 w65 S66 hn67
    simp only [pS, pN, pA, pC, pZ]
    have S66 : St w F w65 F17 [⟨n2, [(.int .i64 ((k : Nat) : Int)), (.slice x0 r.name.length y0), (.slice x1 r.key.length y1), (.slice x2 r.last.length y2), (.slice x3 r.value.length y3)], 25⟩] [ownP 1 ByC ByC.mono 5 w.heap.size v64 (((b8 k :: encPre (hasN k) r i) ++ [(b8 r.last.length)]) ++ r.last)] := S66
    refine do_ rfl v64 (ex_assign _) ?_
    simp only [pS, pN, pA, pC, pZ]
    refine wl_nil (hK28 _ _ ?_)
    rw [show (((b8 k :: encPre (hasN k) r i) ++ [(b8 r.last.length)]) ++ r.last) = b8 k :: encPre (hasN k) r (i + 1) from by rw [encPre_yes r he, h4]; simp [Rq.part]] at S66
    refine region_wl ?_
    refine do_ rfl (.int .i64 (((i + 1) : Nat) : Int)) (ex_add (m := ((i : Nat) : Int)) (n := (1 : Int)) (r := (((i + 1) : Nat) : Int)) rfl rfl (by omega) (by omega) (by omega)) ?_
    simp only [pS, pN, pA, pC, pZ]
    refine do_ rfl (.int .i64 (((i + 1) : Nat) : Int)) (ex_move _) ?_
    simp only [pS, pN, pA, pC, pZ]
    refine wl_nil ?_
    exact hK25 _ _ _ (by omega) ⟨(i + 1), v64, F17, _, rfl, rfl, rfl, S66, le24, (by omega)⟩
   ·have he : (hasN k).testBit i = false := by simpa using he
    have hx := bit_no he
    have hpl := encPre_len ok i (by omega)
    refine region_wl ?_
    refine do_ rfl (.int .i64 ((i : Nat) : Int)) (ex_move _) ?_
    simp only [pS, pN, pA, pC, pZ]
    refine do_ rfl (.slice x2 r.last.length y2) (ex_indexV (i := i) Tryd.underlying56 (sizeof_22 _) rfl rfl (by omega) (nagg_22 _) (by rw [h4]; rfl)) ?_
    simp only [pS, pN, pA, pC, pZ]
    refine do_ rfl (.int .i64 ((i : Nat) : Int)) (ex_assign _) ?_
    simp only [pS, pN, pA, pC, pZ]
    refine do_ rfl (.slice x2 r.last.length y2) (ex_assign _) ?_
    simp only [pS, pN, pA, pC, pZ]
    refine wl_nil (hK29 _ _ ?_)
    refine wp_seq_k (fun K68 hK68 => region_wl ?_)
    refine do_ rfl (.pointer (some ⟨n2, 0, none⟩)) (ex_field (q := ⟨n2, 0, none⟩) rfl (fa_25_0 _ _)) ?_
    simp only [pS, pN, pA, pC, pZ]
    refine do_ rfl (.int .i64 ((k : Nat) : Int)) (ex_load rfl (load1 (nagg_3 _) (St.cell S23 (i := 0) rfl rfl))) ?_
    simp only [pS, pN, pA, pC, pZ]
    refine do_ rfl (.pointer (some ⟨0, k, none⟩)) (ex_atArr (i := k) Tryd.underlying57 (sizeof_3 _) rfl rfl (by omega)) ?_
    simp only [pS, pN, pA, pC, pZ]
    refine do_ rfl (.int .i64 (((hasN k) : Nat) : Int)) (ex_load rfl (load1 (nagg_3 _) (has_at (hh.below S23.gr.below) hk))) ?_
    simp only [pS, pN, pA, pC, pZ]
    refine do_ rfl (.int .i64 ((i : Nat) : Int)) (ex_move _) ?_
    simp only [pS, pN, pA, pC, pZ]
    refine do_ rfl (.int .i64 ((((hasN k) / 2 ^ i) : Nat) : Int)) (ex_shrI (m := (hasN k)) (n := i) rfl rfl (by omega)) ?_
    simp only [pS, pN, pA, pC, pZ]
    refine do_ rfl (.int .i64 (((((hasN k) / 2 ^ i) % 2) : Nat) : Int)) (ex_andOne (m := ((hasN k) / 2 ^ i)) rfl rfl) ?_
    simp only [pS, pN, pA, pC, pZ]
    refine do_ rfl (.bool false) (ex_eql (m := (((((hasN k) / 2 ^ i) % 2) : Nat) : Int)) (n := (1 : Int)) (b := false) rfl rfl (beq_eq_false_iff_ne.2 (by rw [hx]; decide))) ?_
    simp only [pS, pN, pA, pC, pZ]
    refine wl_nil (hK68 _ _ ?_)
    refine wp_cond_false rfl ?_
    refine wp_skip ?_
    refine hK28 _ _ ?_
    rw [← encPre_no r he] at S23
    refine region_wl ?_
    refine do_ rfl (.int .i64 (((i + 1) : Nat) : Int)) (ex_add (m := ((i : Nat) : Int)) (n := (1 : Int)) (r := (((i + 1) : Nat) : Int)) rfl rfl (by omega) (by omega) (by omega)) ?_
    simp only [pS, pN, pA, pC, pZ]
    refine do_ rfl (.int .i64 (((i + 1) : Nat) : Int)) (ex_move _) ?_
    simp only [pS, pN, pA, pC, pZ]
    refine wl_nil ?_
    exact hK25 _ _ _ (by omega) ⟨(i + 1), v, F17, _, rfl, rfl, rfl, S23, le24, (by omega)⟩
  ·by_cases he : (hasN k).testBit i = true
   ·have hx := bit_yes he
    have hpl := encPre_len ok i (by omega)
    refine region_wl ?_
    refine do_ rfl (.int .i64 ((i : Nat) : Int)) (ex_move _) ?_
    simp only [pS, pN, pA, pC, pZ]
    refine do_ rfl (.slice x3 r.value.length y3) (ex_indexV (i := i) Tryd.underlying56 (sizeof_22 _) rfl rfl (by omega) (nagg_22 _) (by rw [h4]; rfl)) ?_
    simp only [pS, pN, pA, pC, pZ]
    refine do_ rfl (.int .i64 ((i : Nat) : Int)) (ex_assign _) ?_
    simp only [pS, pN, pA, pC, pZ]
    refine do_ rfl (.slice x3 r.value.length y3) (ex_assign _) ?_
    simp only [pS, pN, pA, pC, pZ]
    refine wl_nil (hK29 _ _ ?_)
    refine wp_seq_k (fun K69 hK69 => region_wl ?_)
    refine do_ rfl (.pointer (some ⟨n2, 0, none⟩)) (ex_field (q := ⟨n2, 0, none⟩) rfl (fa_25_0 _ _)) ?_
    simp only [pS, pN, pA, pC, pZ]
    refine do_ rfl (.int .i64 ((k : Nat) : Int)) (ex_load rfl (load1 (nagg_3 _) (St.cell S23 (i := 0) rfl rfl))) ?_
    simp only [pS, pN, pA, pC, pZ]
    refine do_ rfl (.pointer (some ⟨0, k, none⟩)) (ex_atArr (i := k) Tryd.underlying57 (sizeof_3 _) rfl rfl (by omega)) ?_
    simp only [pS, pN, pA, pC, pZ]
    refine do_ rfl (.int .i64 (((hasN k) : Nat) : Int)) (ex_load rfl (load1 (nagg_3 _) (has_at (hh.below S23.gr.below) hk))) ?_
    simp only [pS, pN, pA, pC, pZ]
    refine do_ rfl (.int .i64 ((i : Nat) : Int)) (ex_move _) ?_
    simp only [pS, pN, pA, pC, pZ]
    refine do_ rfl (.int .i64 ((((hasN k) / 2 ^ i) : Nat) : Int)) (ex_shrI (m := (hasN k)) (n := i) rfl rfl (by omega)) ?_
    simp only [pS, pN, pA, pC, pZ]
    refine do_ rfl (.int .i64 (((((hasN k) / 2 ^ i) % 2) : Nat) : Int)) (ex_andOne (m := ((hasN k) / 2 ^ i)) rfl rfl) ?_
    simp only [pS, pN, pA, pC, pZ]
    refine do_ rfl (.bool true) (ex_eql (m := (((((hasN k) / 2 ^ i) % 2) : Nat) : Int)) (n := (1 : Int)) (b := true) rfl rfl (beq_iff_eq.2 (by rw [hx]; rfl))) ?_
    simp only [pS, pN, pA, pC, pZ]
    refine wl_nil (hK69 _ _ ?_)
    refine wp_cond_true rfl ?_
    refine region_wl ?_
    refine do_ rfl v (ex_move _) ?_
    simp only [pS, pN, pA, pC, pZ]
    refine do_ rfl (.slice x3 r.value.length y3) (ex_move _) ?_
    simp only [pS, pN, pA, pC, pZ]
    refine do_ rfl (.int .i64 ((r.value.length : Nat) : Int)) (ex_len Tryd.underlying22 rfl) ?_
    simp only [pS, pN, pA, pC, pZ]
    refine do_ rfl (bv (b8 r.value.length)) (ex_convert (v := (.int .i64 ((r.value.length : Nat) : Int))) rfl (conv_b8 r.value.length _)) ?_
    simp only [pS, pN, pA, pC, pZ]
    refine stNew S23 (v := fun n => .slice (some ⟨n, 0, none⟩) 1 1) rfl (ex_lit (ps := #[(0, (bv (b8 r.value.length)))]) (cells := #[(bv (b8 r.value.length))]) (E := 5) (bmap1 rfl) (fun w => by kernel_rfl)) (fun n70 w71 S72 => ?_)
    simp only [pS, pN, pA, pC, pZ]
    have S72 : St w F w71 F17 [⟨n70, [(bv (b8 r.value.length))], 5⟩, ⟨n2, [(.int .i64 ((k : Nat) : Int)), (.slice x0 r.name.length y0), (.slice x1 r.key.length y1), (.slice x2 r.last.length y2), (.slice x3 r.value.length y3)], 25⟩] [ownP 1 ByC ByC.mono 5 w.heap.size v (b8 k :: encPre (hasN k) r i)] := S72
    refine stPush (i := 0) (r := 0) (p := (b8 r.value.length)) (cs := [(bv (b8 r.value.length))]) S72 rfl i5 (.int .u8 0) 1 Tryd.underlying22 hi5 hz5 hs5 hb5 rfl (by decide) rfl rfl rfl rfl rfl (bv_one (b8 r.value.length)) (rfl) (Nat.le_refl _) S72.gr.below.size (by unfold maxLen; simp only [List.length_cons, List.length_append]; omega) (by simp only [List.length_cons, List.length_append]; omega) ?_
    intro v73 w74 S75 hn76
    simp only [pS, pN, pA, pC, pZ]
    have S75 := St.drop S75 (L' := [⟨n2, [(.int .i64 ((k : Nat) : Int)), (.slice x0 r.name.length y0), (.slice x1 r.key.length y1), (.slice x2 r.last.length y2), (.slice x3 r.value.length y3)], 25⟩]) (.cons _ (List.Sublist.refl _))
    have S75 : St w F w74 F17 [⟨n2, [(.int .i64 ((k : Nat) : Int)), (.slice x0 r.name.length y0), (.slice x1 r.key.length y1), (.slice x2 r.last.length y2), (.slice x3 r.value.length y3)], 25⟩] [ownP 1 ByC ByC.mono 5 w.heap.size v73 ((b8 k :: encPre (hasN k) r i) ++ [(b8 r.value.length)])] := S75
    refine do_ rfl (.slice x3 r.value.length y3) (ex_move _) ?_
    simp only [pS, pN, pA, pC, pZ]
    refine stAppendS (r := 0) (u := (.slice x3 r.value.length y3)) S75 rfl i5 (.int .u8 0) 1 Tryd.underlying22 hi5 hz5 hs5 hb5 rfl (by decide) rfl rfl rfl (Sl.toW (Bs.sl (h3.mono le24)) (S75).sat) ByC.one (Nat.le_refl _) S75.gr.below.size (by unfold maxLen; simp only [List.length_cons, List.length_append, List.length_nil]; omega) (by simp only [List.length_cons, List.length_append, List.length_nil]; omega) ?_
    intro v77 w78 S79 hn80
    simp only [pS, pN, pA, pC, pZ]
    have S79 : St w F w78 F17 [⟨n2, [(.int .i64 ((k : Nat) : Int)), (.slice x0 r.name.length y0), (.slice x1 r.key.length y1), (.slice x2 r.last.length y2), (.slice x3 r.value.length y3)], 25⟩] [ownP 1 ByC ByC.mono 5 w.heap.size v77 (((b8 k :: encPre (hasN k) r i) ++ [(b8 r.value.length)]) ++ r.value)] := S79
    refine do_ rfl v77 (ex_assign _) ?_
    simp only [pS, pN, pA, pC, pZ]
    refine wl_nil (hK28 _ _ ?_)
    rw [show (((b8 k :: encPre (hasN k) r i) ++ [(b8 r.value.length)]) ++ r.value) = b8 k :: encPre (hasN k) r (i + 1) from by rw [encPre_yes r he, h4]; simp [Rq.part]] at S79
    refine region_wl ?_
    refine do_ rfl (.int .i64 (((i + 1) : Nat) : Int)) (ex_add (m := ((i : Nat) : Int)) (n := (1 : Int)) (r := (((i + 1) : Nat) : Int)) rfl rfl (by omega) (by omega) (by omega)) ?_
    simp only [pS, pN, pA, pC, pZ]
    refine do_ rfl (.int .i64 (((i + 1) : Nat) : Int)) (ex_move _) ?_
    simp only [pS, pN, pA, pC, pZ]
    refine wl_nil ?_
    exact hK25 _ _ _ (by omega) ⟨(i + 1), v77, F17, _, rfl, rfl, rfl, S79, le24, (by omega)⟩
   ·have he : (hasN k).testBit i = false := by simpa using he
    have hx := bit_no he
    have hpl := encPre_len ok i (by omega)
    refine region_wl ?_
    refine do_ rfl (.int .i64 ((i : Nat) : Int)) (ex_move _) ?_
    simp only [pS, pN, pA, pC, pZ]
    refine do_ rfl (.slice x3 r.value.length y3) (ex_indexV (i := i) Tryd.underlying56 (sizeof_22 _) rfl rfl (by omega) (nagg_22 _) (by rw [h4]; rfl)) ?_
    simp only [pS, pN, pA, pC, pZ]
    refine do_ rfl (.int .i64 ((i : Nat) : Int)) (ex_assign _) ?_
    simp only [pS, pN, pA, pC, pZ]
    refine do_ rfl (.slice x3 r.value.length y3) (ex_assign _) ?_
    simp only [pS, pN, pA, pC, pZ]
    refine wl_nil (hK29 _ _ ?_)
    refine wp_seq_k (fun K81 hK81 => region_wl ?_)
    refine do_ rfl (.pointer (some ⟨n2, 0, none⟩)) (ex_field (q := ⟨n2, 0, none⟩) rfl (fa_25_0 _ _)) ?_
    simp only [pS, pN, pA, pC, pZ]
    refine do_ rfl (.int .i64 ((k : Nat) : Int)) (ex_load rfl (load1 (nagg_3 _) (St.cell S23 (i := 0) rfl rfl))) ?_
    simp only [pS, pN, pA, pC, pZ]
    refine do_ rfl (.pointer (some ⟨0, k, none⟩)) (ex_atArr (i := k) Tryd.underlying57 (sizeof_3 _) rfl rfl (by omega)) ?_
    simp only [pS, pN, pA, pC, pZ]
    refine do_ rfl (.int .i64 (((hasN k) : Nat) : Int)) (ex_load rfl (load1 (nagg_3 _) (has_at (hh.below S23.gr.below) hk))) ?_
    simp only [pS, pN, pA, pC, pZ]
    refine do_ rfl (.int .i64 ((i : Nat) : Int)) (ex_move _) ?_
    simp only [pS, pN, pA, pC, pZ]
    refine do_ rfl (.int .i64 ((((hasN k) / 2 ^ i) : Nat) : Int)) (ex_shrI (m := (hasN k)) (n := i) rfl rfl (by omega)) ?_
    simp only [pS, pN, pA, pC, pZ]
    refine do_ rfl (.int .i64 (((((hasN k) / 2 ^ i) % 2) : Nat) : Int)) (ex_andOne (m := ((hasN k) / 2 ^ i)) rfl rfl) ?_
    simp only [pS, pN, pA, pC, pZ]
    refine do_ rfl (.bool false) (ex_eql (m := (((((hasN k) / 2 ^ i) % 2) : Nat) : Int)) (n := (1 : Int)) (b := false) rfl rfl (beq_eq_false_iff_ne.2 (by rw [hx]; decide))) ?_
    simp only [pS, pN, pA, pC, pZ]
    refine wl_nil (hK81 _ _ ?_)
    refine wp_cond_false rfl ?_
    refine wp_skip ?_
    refine hK28 _ _ ?_
    rw [← encPre_no r he] at S23
    refine region_wl ?_
    refine do_ rfl (.int .i64 (((i + 1) : Nat) : Int)) (ex_add (m := ((i : Nat) : Int)) (n := (1 : Int)) (r := (((i + 1) : Nat) : Int)) rfl rfl (by omega) (by omega) (by omega)) ?_
    simp only [pS, pN, pA, pC, pZ]
    refine do_ rfl (.int .i64 (((i + 1) : Nat) : Int)) (ex_move _) ?_
    simp only [pS, pN, pA, pC, pZ]
    refine wl_nil ?_
    exact hK25 _ _ _ (by omega) ⟨(i + 1), v, F17, _, rfl, rfl, rfl, S23, le24, (by omega)⟩
 ·refine do_ rfl (.bool false) (ex_lss (m := ((i : Nat) : Int)) (n := (4 : Int)) (b := false) rfl rfl (decide_eq_false (by omega))) ?_
  simp only [pS, pN, pA, pC, pZ]
  refine wl_nil (hK26 _ _ ?_)
  refine wp_seq_k (fun K82 hK82 => ?_)
  refine wp_cond_false rfl ?_
  refine wp_exit ?_
  refine hK14 _ _ ?_
  refine wp_seq_k (fun K83 hK83 => region_wl ?_)
  refine do_ rfl v (ex_move _) ?_
  simp only [pS, pN, pA, pC, pZ]
  refine do_ rfl v (ex_assign _) ?_
  simp only [pS, pN, pA, pC, pZ]
  refine do_ rfl (.int .i64 0) (ex_assign _) ?_
  simp only [pS, pN, pA, pC, pZ]
  refine wl_nil (hK83 _ _ ?_)
  refine wp_ret ?_
  (try simp only [Exit.then, Exit.inBlock, ↓reduceIte, Nat.reduceEqDiff])
  refine bodyPost_ret (v := (.tuple #[v, (.int .i64 0)])) ?_ rfl ?_
  ·exact res_tt rfl rfl rfl
  ·have hi5 : i = 4 := by omega
   subst hi5
   rw [encPre_all] at S23
   obtain ⟨F84, S85, le86, hv87⟩ := St.freeze S23 (i := 0) rfl (Nat.le_refl _)
   have S85 : St w F w22 F84 [⟨n2, [(.int .i64 ((k : Nat) : Int)), (.slice x0 r.name.length y0), (.slice x1 r.key.length y1), (.slice x2 r.last.length y2), (.slice x3 r.value.length y3)], 25⟩] [] := S85
   have hv87 : Bys _ v (b8 k :: encW (hasN k) r) := hv87
   exact ⟨_, _, rfl, S85.gr, _, rfl, bs_of_sl hv87⟩
end Go.Proofs.YticbfdhdipfjmaaDoor
