/- Rules, plain laws and walks: TY R2 N1 P10 P11 T1a T1b T2 T3 S7 -/
import Derived.Test.YtlimmmidfhpakaaGB2
import Derived.Test.YtlimmmidfhpakaaGB1
import Derived.Lib.SmallJoins
import Derived.Lib.Bytealg
namespace Go.Proofs.Ytlimmmidfhpakaa
open Go.RowKit
set_option maxRecDepth 100000
theorem nagg_3 (w : World) : (isAgg 3).run Try.prog w = .ok false w := by kernel_rfl
theorem sizeof_3 (w : World) : (sizeOf 3).run Try.prog w = .ok 1 w := by kernel_rfl
theorem nagg_4 (w : World) : (isAgg 4).run Try.prog w = .ok false w := by kernel_rfl
theorem size_4 : (Try.prog.info? 4).map (·.size) = some 1 := by kernel_rfl
theorem nagg_23 (w : World) : (isAgg 23).run Try.prog w = .ok false w := by kernel_rfl
theorem size_23 : (Try.prog.info? 23).map (·.size) = some 1 := by kernel_rfl
theorem nagg_25 (w : World) : (isAgg 25).run Try.prog w = .ok false w := by kernel_rfl
theorem size_25 : (Try.prog.info? 25).map (·.size) = some 1 := by kernel_rfl
theorem nagg_47 (w : World) : (isAgg 47).run Try.prog w = .ok false w := by kernel_rfl
theorem nagg_52 (w : World) : (isAgg 52).run Try.prog w = .ok false w := by kernel_rfl
theorem sizeof_52 (w : World) : (sizeOf 52).run Try.prog w = .ok 1 w := by kernel_rfl
theorem size_36 : (Try.prog.info? 36).map (·.size) = some 2 := by kernel_rfl
theorem zero_36 (w : World) : (zeroValue 36).run Try.prog w = .ok (.agg #[.slice none 0 0, .slice none 0 0]) w := by kernel_rfl
theorem sizeof_36 (w : World) : (sizeOf 36).run Try.prog w = .ok 2 w := by kernel_rfl
theorem info_36 : (Try.prog.info? 36).map (fun i => (i.zero, i.size, i.bytes)) = some (some (.agg #[.slice none 0 0, .slice none 0 0]), 2, 48) := by kernel_rfl
theorem fa_36_0 (b o : Nat) (w : World) : (Instr.fieldAt 36 (.pointer (some ⟨b, o, none⟩)) 0).run Try.prog w = .ok (.pointer (some ⟨b, o, none⟩)) w := by go_simp
theorem fa_36_1 (b o : Nat) (w : World) : (Instr.fieldAt 36 (.pointer (some ⟨b, o, none⟩)) 1).run Try.prog w = .ok (.pointer (some ⟨b, o + 1, none⟩)) w := by go_simp
theorem size_80 : (Try.prog.info? 80).map (·.size) = some 2 := by kernel_rfl
theorem zero_80 (w : World) : (zeroValue 80).run Try.prog w = .ok (.agg #[.slice none 0 0, .slice none 0 0]) w := by kernel_rfl
theorem sizeof_80 (w : World) : (sizeOf 80).run Try.prog w = .ok 2 w := by kernel_rfl
theorem info_80 : (Try.prog.info? 80).map (fun i => (i.zero, i.size, i.bytes)) = some (some (.agg #[.slice none 0 0, .slice none 0 0]), 2, 48) := by kernel_rfl
theorem fa_80_0 (b o : Nat) (w : World) : (Instr.fieldAt 80 (.pointer (some ⟨b, o, none⟩)) 0).run Try.prog w = .ok (.pointer (some ⟨b, o, none⟩)) w := by go_simp
theorem fa_80_1 (b o : Nat) (w : World) : (Instr.fieldAt 80 (.pointer (some ⟨b, o, none⟩)) 1).run Try.prog w = .ok (.pointer (some ⟨b, o + 1, none⟩)) w := by go_simp
theorem size_38 : (Try.prog.info? 38).map (·.size) = some 2 := by kernel_rfl
theorem zero_38 (w : World) : (zeroValue 38).run Try.prog w = .ok (.agg #[.bool false, .slice none 0 0]) w := by kernel_rfl
theorem fa_38_0 (b o : Nat) (w : World) : (Instr.fieldAt 38 (.pointer (some ⟨b, o, none⟩)) 0).run Try.prog w = .ok (.pointer (some ⟨b, o, none⟩)) w := by go_simp
theorem fa_38_1 (b o : Nat) (w : World) : (Instr.fieldAt 38 (.pointer (some ⟨b, o, none⟩)) 1).run Try.prog w = .ok (.pointer (some ⟨b, o + 1, none⟩)) w := by go_simp
theorem size_27 : (Try.prog.info? 27).map (·.size) = some 4 := by kernel_rfl
theorem zero_27 (w : World) : (zeroValue 27).run Try.prog w = .ok (.agg #[.slice none 0 0, .slice none 0 0, .bool false, .slice none 0 0]) w := by kernel_rfl
theorem sizeof_27 (w : World) : (sizeOf 27).run Try.prog w = .ok 4 w := by kernel_rfl
theorem info_27 : (Try.prog.info? 27).map (fun i => (i.zero, i.size, i.bytes)) = some (some (.agg #[.slice none 0 0, .slice none 0 0, .bool false, .slice none 0 0]), 4, 80) := by kernel_rfl
theorem fa_27_0 (b o : Nat) (w : World) : (Instr.fieldAt 27 (.pointer (some ⟨b, o, none⟩)) 0).run Try.prog w = .ok (.pointer (some ⟨b, o, none⟩)) w := by go_simp
theorem fa_27_1 (b o : Nat) (w : World) : (Instr.fieldAt 27 (.pointer (some ⟨b, o, none⟩)) 1).run Try.prog w = .ok (.pointer (some ⟨b, o + 1, none⟩)) w := by go_simp
theorem fa_27_2 (b o : Nat) (w : World) : (Instr.fieldAt 27 (.pointer (some ⟨b, o, none⟩)) 2).run Try.prog w = .ok (.pointer (some ⟨b, o + 2, none⟩)) w := by go_simp
theorem fa_27_3 (b o : Nat) (w : World) : (Instr.fieldAt 27 (.pointer (some ⟨b, o, none⟩)) 3).run Try.prog w = .ok (.pointer (some ⟨b, o + 3, none⟩)) w := by go_simp
theorem size_72 : (Try.prog.info? 72).map (·.size) = some 2 := by kernel_rfl
theorem zero_72 (w : World) : (zeroValue 72).run Try.prog w = .ok (.agg #[.int .i64 0, .slice none 0 0]) w := by kernel_rfl
theorem sizeof_72 (w : World) : (sizeOf 72).run Try.prog w = .ok 2 w := by kernel_rfl
theorem info_72 : (Try.prog.info? 72).map (fun i => (i.zero, i.size, i.bytes)) = some (some (.agg #[.int .i64 0, .slice none 0 0]), 2, 32) := by kernel_rfl
theorem fa_72_0 (b o : Nat) (w : World) : (Instr.fieldAt 72 (.pointer (some ⟨b, o, none⟩)) 0).run Try.prog w = .ok (.pointer (some ⟨b, o, none⟩)) w := by go_simp
theorem fa_72_1 (b o : Nat) (w : World) : (Instr.fieldAt 72 (.pointer (some ⟨b, o, none⟩)) 1).run Try.prog w = .ok (.pointer (some ⟨b, o + 1, none⟩)) w := by go_simp
theorem size_30 : (Try.prog.info? 30).map (·.size) = some 4 := by kernel_rfl
theorem sizeof_30 (w : World) : (sizeOf 30).run Try.prog w = .ok 4 w := by kernel_rfl
theorem fa_30_0 (b o : Nat) (w : World) : (Instr.fieldAt 30 (.pointer (some ⟨b, o, none⟩)) 0).run Try.prog w = .ok (.pointer (some ⟨b, o, none⟩)) w := by go_simp
theorem fa_30_1 (b o : Nat) (w : World) : (Instr.fieldAt 30 (.pointer (some ⟨b, o, none⟩)) 1).run Try.prog w = .ok (.pointer (some ⟨b, o + 1, none⟩)) w := by go_simp
theorem fa_30_2 (b o : Nat) (w : World) : (Instr.fieldAt 30 (.pointer (some ⟨b, o, none⟩)) 2).run Try.prog w = .ok (.pointer (some ⟨b, o + 2, none⟩)) w := by go_simp
theorem fa_30_3 (b o : Nat) (w : World) : (Instr.fieldAt 30 (.pointer (some ⟨b, o, none⟩)) 3).run Try.prog w = .ok (.pointer (some ⟨b, o + 3, none⟩)) w := by go_simp
theorem ent_10 (vs : Array Value) (w : World) : (callFunc 10 vs).run Try.prog w = .ok (.enter 10 vs) w := by kernel_rfl
theorem ent_11 (vs : Array Value) (w : World) : (callFunc 11 vs).run Try.prog w = .ok (.enter 11 vs) w := by kernel_rfl
theorem ent_12 (vs : Array Value) (w : World) : (callFunc 12 vs).run Try.prog w = .ok (.enter 12 vs) w := by kernel_rfl
theorem ent_13 (vs : Array Value) (w : World) : (callFunc 13 vs).run Try.prog w = .ok (.enter 13 vs) w := by kernel_rfl
theorem ent_14 (vs : Array Value) (w : World) : (callFunc 14 vs).run Try.prog w = .ok (.enter 14 vs) w := by kernel_rfl
theorem ent_15 (vs : Array Value) (w : World) : (callFunc 15 vs).run Try.prog w = .ok (.enter 15 vs) w := by kernel_rfl
theorem ent_16 (vs : Array Value) (w : World) : (callFunc 16 vs).run Try.prog w = .ok (.enter 16 vs) w := by kernel_rfl
theorem ent_17 (vs : Array Value) (w : World) : (callFunc 17 vs).run Try.prog w = .ok (.enter 17 vs) w := by kernel_rfl
theorem ent_18 (vs : Array Value) (w : World) : (callFunc 18 vs).run Try.prog w = .ok (.enter 18 vs) w := by kernel_rfl
theorem ent_19 (vs : Array Value) (w : World) : (callFunc 19 vs).run Try.prog w = .ok (.enter 19 vs) w := by kernel_rfl
theorem ent_20 (vs : Array Value) (w : World) : (callFunc 20 vs).run Try.prog w = .ok (.enter 20 vs) w := by kernel_rfl
theorem ent_21 (vs : Array Value) (w : World) : (callFunc 21 vs).run Try.prog w = .ok (.enter 21 vs) w := by kernel_rfl
theorem ent_22 (vs : Array Value) (w : World) : (callFunc 22 vs).run Try.prog w = .ok (.enter 22 vs) w := by kernel_rfl
theorem ent_23 (vs : Array Value) (w : World) : (callFunc 23 vs).run Try.prog w = .ok (.enter 23 vs) w := by kernel_rfl
theorem ent_24 (vs : Array Value) (w : World) : (callFunc 24 vs).run Try.prog w = .ok (.enter 24 vs) w := by kernel_rfl
theorem ent_25 (vs : Array Value) (w : World) : (callFunc 25 vs).run Try.prog w = .ok (.enter 25 vs) w := by kernel_rfl
theorem ent_26 (vs : Array Value) (w : World) : (callFunc 26 vs).run Try.prog w = .ok (.enter 26 vs) w := by kernel_rfl
theorem ent_27 (vs : Array Value) (w : World) : (callFunc 27 vs).run Try.prog w = .ok (.enter 27 vs) w := by kernel_rfl
theorem ent_28 (vs : Array Value) (w : World) : (callFunc 28 vs).run Try.prog w = .ok (.enter 28 vs) w := by kernel_rfl
theorem ent_29 (vs : Array Value) (w : World) : (callFunc 29 vs).run Try.prog w = .ok (.enter 29 vs) w := by kernel_rfl
theorem ent_30 (vs : Array Value) (w : World) : (callFunc 30 vs).run Try.prog w = .ok (.enter 30 vs) w := by kernel_rfl
theorem ent_31 (vs : Array Value) (w : World) : (callFunc 31 vs).run Try.prog w = .ok (.enter 31 vs) w := by kernel_rfl
theorem ent_32 (vs : Array Value) (w : World) : (callFunc 32 vs).run Try.prog w = .ok (.enter 32 vs) w := by kernel_rfl
theorem ent_33 (vs : Array Value) (w : World) : (callFunc 33 vs).run Try.prog w = .ok (.enter 33 vs) w := by kernel_rfl
theorem ent_34 (vs : Array Value) (w : World) : (callFunc 34 vs).run Try.prog w = .ok (.enter 34 vs) w := by kernel_rfl
theorem ent_35 (vs : Array Value) (w : World) : (callFunc 35 vs).run Try.prog w = .ok (.enter 35 vs) w := by kernel_rfl
theorem ent_36 (vs : Array Value) (w : World) : (callFunc 36 vs).run Try.prog w = .ok (.enter 36 vs) w := by kernel_rfl
theorem ent_37 (vs : Array Value) (w : World) : (callFunc 37 vs).run Try.prog w = .ok (.enter 37 vs) w := by kernel_rfl
theorem ent_38 (vs : Array Value) (w : World) : (callFunc 38 vs).run Try.prog w = .ok (.enter 38 vs) w := by kernel_rfl
theorem ent_39 (vs : Array Value) (w : World) : (callFunc 39 vs).run Try.prog w = .ok (.enter 39 vs) w := by kernel_rfl
theorem ent_40 (vs : Array Value) (w : World) : (callFunc 40 vs).run Try.prog w = .ok (.enter 40 vs) w := by kernel_rfl
theorem ent_41 (vs : Array Value) (w : World) : (callFunc 41 vs).run Try.prog w = .ok (.enter 41 vs) w := by kernel_rfl
theorem ent_42 (vs : Array Value) (w : World) : (callFunc 42 vs).run Try.prog w = .ok (.enter 42 vs) w := by kernel_rfl
theorem ent_45 (vs : Array Value) (w : World) : (callFunc 45 vs).run Try.prog w = .ok (.enter 45 vs) w := by kernel_rfl
theorem ent_46 (vs : Array Value) (w : World) : (callFunc 46 vs).run Try.prog w = .ok (.enter 46 vs) w := by kernel_rfl
theorem ent_47 (vs : Array Value) (w : World) : (callFunc 47 vs).run Try.prog w = .ok (.enter 47 vs) w := by kernel_rfl
theorem ent_48 (vs : Array Value) (w : World) : (callFunc 48 vs).run Try.prog w = .ok (.enter 48 vs) w := by kernel_rfl
theorem ent_49 (vs : Array Value) (w : World) : (callFunc 49 vs).run Try.prog w = .ok (.enter 49 vs) w := by kernel_rfl
theorem ent_50 (vs : Array Value) (w : World) : (callFunc 50 vs).run Try.prog w = .ok (.enter 50 vs) w := by kernel_rfl
theorem ent_51 (vs : Array Value) (w : World) : (callFunc 51 vs).run Try.prog w = .ok (.enter 51 vs) w := by kernel_rfl
theorem ent_52 (vs : Array Value) (w : World) : (callFunc 52 vs).run Try.prog w = .ok (.enter 52 vs) w := by kernel_rfl
theorem ent_53 (vs : Array Value) (w : World) : (callFunc 53 vs).run Try.prog w = .ok (.enter 53 vs) w := by kernel_rfl
theorem ent_54 (vs : Array Value) (w : World) : (callFunc 54 vs).run Try.prog w = .ok (.enter 54 vs) w := by kernel_rfl
theorem ent_55 (vs : Array Value) (w : World) : (callFunc 55 vs).run Try.prog w = .ok (.enter 55 vs) w := by kernel_rfl
theorem ent_58 (vs : Array Value) (w : World) : (callFunc 58 vs).run Try.prog w = .ok (.enter 58 vs) w := by kernel_rfl
theorem ent_6 (vs : Array Value) (w : World) : (callFunc 6 vs).run Try.prog w = .ok (.enter 6 vs) w := by kernel_rfl
theorem ent_60 (vs : Array Value) (w : World) : (callFunc 60 vs).run Try.prog w = .ok (.enter 60 vs) w := by kernel_rfl
theorem ent_61 (vs : Array Value) (w : World) : (callFunc 61 vs).run Try.prog w = .ok (.enter 61 vs) w := by kernel_rfl
theorem ent_62 (vs : Array Value) (w : World) : (callFunc 62 vs).run Try.prog w = .ok (.enter 62 vs) w := by kernel_rfl
theorem ent_66 (vs : Array Value) (w : World) : (callFunc 66 vs).run Try.prog w = .ok (.enter 66 vs) w := by kernel_rfl
theorem ent_7 (vs : Array Value) (w : World) : (callFunc 7 vs).run Try.prog w = .ok (.enter 7 vs) w := by kernel_rfl
theorem ent_8 (vs : Array Value) (w : World) : (callFunc 8 vs).run Try.prog w = .ok (.enter 8 vs) w := by kernel_rfl
theorem ent_9 (vs : Array Value) (w : World) : (callFunc 9 vs).run Try.prog w = .ok (.enter 9 vs) w := by kernel_rfl
end Go.Proofs.Ytlimmmidfhpakaa
namespace Go.Proofs.Ytlimmmidfhpakaa
open Go.ChangeShapes Go.WideShapes Go.ChangeAt Go.RowKit Go.Deep
theorem list4 {α : Type} {cs : List α} (h : cs.length = 4) : ∃ a b c d, cs = [a, b, c, d] := by
  match cs, h with
  | [a, b, c, d], _ => exact ⟨a, b, c, d, rfl⟩
section
variable {H : Type} {enc : TypeId × Value → H} {P : Program} {w : World}
theorem rd_places {t e tb u8 bt : TypeId} {f0 f1 f2 f3 : Field} {fuel : Nat} {v : Value} {x : DataW H × List MemPlace} (ht : P.underlying t = some (.slice e)) (hs : P.underlying e = some (.struct #[f0, f1, f2, f3])) (hone : oneCellFields P #[f0, f1, f2, f3] = true) (hC : P.cellsOf e = 4)
    (e0 : f0.type = tb) (e1 : f1.type = tb) (e2 : f2.type = tb) (e3 : f3.type = bt) (hb : P.underlying tb = some (.slice u8)) (hu : P.underlying u8 = some (.int .u8)) (hc : P.cellsOf u8 = 1) (hbt : P.underlying bt = some .bool)
    (h : DataW.trod enc P w 0 (fun _ => true) true fuel t [v] = some x) : ∃ l : List Pl, Pls (whole w) v l :=
  rd_slice (α := Pl) (k := 4) (R := PlC) ht hC (by omega) h (fun n cs y hl hy => by
    obtain ⟨c0, c1, c2, c3, rfl⟩ := list4 hl
    obtain ⟨xs, m, _, _, _, hlen, hf⟩ := DataW.trod_struct hs hy
    obtain ⟨o0, k0⟩ := hone_of hone 0 f0 rfl
    obtain ⟨o1, k1⟩ := hone_of hone 1 f1 rfl
    obtain ⟨o2, k2⟩ := hone_of hone 2 f2 rfl
    obtain ⟨o3, k3⟩ := hone_of hone 3 f3 rfl
    match xs, hlen with
    | [y0, y1, y2, y3], _ =>
      have h0 := hf 0 f0 rfl
      have h1 := hf 1 f1 rfl
      have h2 := hf 2 f2 rfl
      have h3 := hf 3 f3 rfl
      rw [o0, k0] at h0
      rw [o1, k1] at h1
      rw [o2, k2] at h2
      rw [o3, k3] at h3
      simp only [List.drop_zero, List.drop_succ_cons, List.take_succ_cons, List.take_zero] at h0 h1 h2 h3
      rw [e0] at h0
      rw [e1] at h1
      rw [e2] at h2
      rw [e3] at h3
      obtain ⟨l0, r0⟩ := rd_bytes_cells hb hu hc h0
      obtain ⟨l1, r1⟩ := rd_bytes_cells hb hu hc h1
      obtain ⟨l2, r2⟩ := rd_bytes_cells hb hu hc h2
      obtain ⟨z, ez, _⟩ := DataW.trod_bool hbt h3
      obtain rfl : c3 = _ := by simpa using ez
      exact ⟨⟨l0, l1, l2, z⟩, c0, c1, c2, _, rfl, r0, r1, r2, rfl⟩)
end
end Go.Proofs.Ytlimmmidfhpakaa
namespace Go.Proofs.Ytlimmmidfhpakaa
open Go.RowKit
set_option maxRecDepth 100000
set_option linter.unusedVariables false
def nameN (n : Nat) : Int := if 1 ≤ n ∧ n ≤ 8 then 0 else 1
theorem nameN_ok {n : Nat} (h1 : 1 ≤ n) (h2 : n ≤ 8) : nameN n = 0 := by unfold nameN; rw [if_pos ⟨h1, h2⟩]
theorem nameN_bad {n : Nat} (h : ¬ (1 ≤ n ∧ n ≤ 8)) : nameN n = 1 := by unfold nameN; rw [if_neg h]
set_option maxHeartbeats 400000 in
theorem name_len (w : World) (a : Option Addr) (n c : Nat) :
    Calls Try.prog 51 #[.slice a n c] w fun e w' => e = .returned (.int .i64 (nameN n)) ∧ w' = w := by
  by_cases h : 1 ≤ n ∧ n ≤ 8
  · rw [nameN_ok h.1 h.2]
    obtain ⟨h1, h2⟩ := h
    go_enter Try.func51, Try.ntmps51
    go_wp2
    go_ret
    exact ⟨rfl, rfl⟩
  · rw [nameN_bad h]
    by_cases h1 : n < 1
    · clear h
      go_enter Try.func51, Try.ntmps51
      go_wp2
      go_ret
      exact ⟨rfl, rfl⟩
    · have h2 : 8 < n := by omega
      clear h
      go_enter Try.func51, Try.ntmps51
      go_wp2
      go_ret
      exact ⟨rfl, rfl⟩
def nameL (l : List UInt8) : List UInt8 := if l = [] then [0] else l.take 8
theorem nameL_len (l : List UInt8) : 1 ≤ (nameL l).length ∧ (nameL l).length ≤ 8 := by
  unfold nameL
  split
  · simp
  · rename_i h
    have := List.length_pos_iff.2 h
    simp only [List.length_take]
    omega
set_option maxHeartbeats 400000 in
theorem name_spec (F : Fz) (w : World) (v : Value) (l : List UInt8) (hs : Sat w F) (hv : Bs F v l) :
    Calls Try.prog 20 #[v] w (Gives w F fun F' u => Bs F' u (nameL l)) := by
  obtain ⟨a, c, rfl, hlc, hcm⟩ := hv.shape
  by_cases h : l = []
  · subst h
    go_enter Try.func20, Try.ntmps20
    go_wp2_with fail
    go_ret
    have hown := World.ownsRow_lit (base := w.heap.size) (e := 5) (size := 1) w #[.int .u8 0] 1 (Nat.le_refl _) (by unfold maxLen; omega) rfl
    obtain ⟨F', h1, h2⟩ := Gr.row hs ((Below.refl _ _).alloc (Nat.le_refl _) _) hown
    exact ⟨_, F', rfl, h1, h2⟩
  · have hb : ((l.length : Int) == 0) = false := by
      have := List.length_pos_iff.2 h
      rw [beq_eq_false_iff_ne]; omega
    have hk : nameL l = l.take 8 := by unfold nameL; rw [if_neg h]
    rw [hk]
    clear hk
    go_enter Try.func20, Try.ntmps20
    go_wp2_with (go_at_call 22; refine (some_spec _ _ _ _ _ hs hv (by omega) (by omega)).mono ?_; rintro e w1 ⟨v1, F1, rfl, g1, r1⟩)
    go_ret
    exact ⟨_, F1, rfl, g1, r1⟩
end Go.Proofs.Ytlimmmidfhpakaa
namespace Go.Proofs.Ytlimmmidfhpakaa
open Go.RowKit
theorem TreeOk.small {n : Nat} {l : List Pr} (h : TreeOk n l) {p : Pr} (hp : p ∈ l) : p.1.length ≤ 100000 ∧ p.2.length ≤ 100000 := by
  obtain ⟨_, h2, h3⟩ := h.ok p hp; omega
/-- Where a pair is put. -/
theorem putT_have {l : List Pr} {k v : By} (h : hasT l k = true) : putT l k v = l.set (posT l k) (k, v) := by unfold putT; rw [if_pos h]
theorem putT_new {l : List Pr} {k v : By} (h : ¬ hasT l k = true) : putT l k v = l.take (posT l k) ++ (k, v) :: l.drop (posT l k) := by unfold putT; rw [if_neg h]
end Go.Proofs.Ytlimmmidfhpakaa
namespace Go.Proofs.Ytlimmmidfhpakaa
open Go.RowKit
def writeP (p : Pl) : Wr := ⟨nameL p.name, keyL p.key, p.gone, if p.gone then [] else p.value.take 32⟩
theorem writeP_ok (p : Pl) : WrOk (writeP p) := by
  refine ⟨nameL_len _, (keyL_len _).1, (keyL_len _).2, ?_, fun h => ?_⟩
  · unfold writeP; simp only; split
    · simp
    · simp; omega
  · have : p.gone = true := h
    unfold writeP; simp only; rw [if_pos this]
def writesN (l : List Pl) (n : Nat) : List Wr := (l.take n).map writeP
theorem writesN_ok (l : List Pl) (n : Nat) : ∀ w ∈ writesN l n, WrOk w := by
  intro w hw
  obtain ⟨p, _, rfl⟩ := List.mem_map.1 hw
  exact writeP_ok p
theorem writesN_len (l : List Pl) (n : Nat) : (writesN l n).length ≤ n := by simp [writesN]; omega
theorem writesN_succ {l : List Pl} {k : Nat} {p : Pl} (h : l[k]? = some p) : writesN l (k + 1) = writesN l k ++ [writeP p] := by
  obtain ⟨hk, rfl⟩ := List.getElem?_eq_some_iff.1 h
  unfold writesN
  rw [List.take_succ_eq_append_getElem hk, List.map_append]
  rfl
theorem writesN_end {l : List Pl} {k m : Nat} (h : l.length ≤ k) (hm : k ≤ m) : writesN l k = writesN l m := by
  unfold writesN; rw [List.take_of_length_le h, List.take_of_length_le (by omega)]
theorem applyF_one (f : Forest) (w : Wr) : applyF f [w] = writeF f w := by
  simp only [applyF]
  cases writeF f w <;> rfl
end Go.Proofs.Ytlimmmidfhpakaa
namespace Go.Proofs.Ytlimmmidfhpakaa
open Go.RowKit
set_option maxRecDepth 100000
set_option linter.unusedVariables false
set_option linter.unusedSimpArgs false
theorem take_snoc {α : Type} {l : List α} {k : Nat} {p : α} (h : l[k]? = some p) : l.take (k + 1) = l.take k ++ [p] := by
  obtain ⟨hk, rfl⟩ := List.getElem?_eq_some_iff.1 h
  exact List.take_succ_eq_append_getElem hk
set_option maxHeartbeats 400000 in
theorem own2_spec (F : Fz) (w : World) (v : Value) (p : Pr) (hs : Sat w F) (hv : Pr2V F v p) (hk : p.1.length ≤ 100000) (hx : p.2.length ≤ 100000) :
    Calls Try.prog 28 #[v] w (Gives w F fun F' u => Pr2V F' u p) := by
  obtain ⟨x0, y0, x1, y1, rfl, h0, h1⟩ := hv
  have S := St.start hs
  go_enter Try.func28, Try.ntmps28
  refine wp_seq_k (fun K1 hK1 => ?_)
  refine region_wl ?_
  refine stNew S (v := fun n => .pointer (some ⟨n, 0, none⟩)) rfl (ex_box (v := (.agg #[(.slice x0 p.1.length y0), (.slice x1 p.2.length y1)])) rfl) (fun n2 w3 S4 => ?_)
  simp only [pS, pN, pA, pC, pZ]
  have S4 : St w F w3 F [⟨n2, [(.slice x0 p.1.length y0), (.slice x1 p.2.length y1)], 36⟩] [] := S4
  refine stNew S4 (v := fun n => .pointer (some ⟨n, 0, none⟩)) rfl (ex_alloc (zero_36 _)) (fun n5 w6 S7 => ?_)
  simp only [pS, pN, pA, pC, pZ]
  have S7 : St w F w6 F [⟨n5, [(.slice none 0 0), (.slice none 0 0)], 36⟩, ⟨n2, [(.slice x0 p.1.length y0), (.slice x1 p.2.length y1)], 36⟩] [] := S7
  refine wl_nil ?_
  (try simp only [Exit.then, Exit.inBlock, ↓reduceIte, Nat.reduceEqDiff])
  refine hK1 _ _ ?_
  refine wp_seq_k (fun K8 hK8 => ?_)
  refine region_gw F 5 [(2, .made (fun F' u => Bs F' u p.1))] (by kernel_rfl) (by kernel_rfl) ?_
  simp only [List.take_succ_cons, List.take_zero]
  refine gw_pure rfl rfl (.pointer (some ⟨n2, 0, none⟩)) (fun w9 hCw9 => pureAt_of (ex_field (q := ⟨n2, 0, none⟩) rfl (fa_36_0 _ _))) ?_
  simp only [pS, pN, pA, pC, pZ]
  refine gw_pure rfl rfl (.slice x0 p.1.length y0) (fun w9 hCw9 => pureAt_of (ex_load rfl (load1 (nagg_25 _) (St.cell (St.tells S7 hCw9) (i := 1) rfl rfl)))) ?_
  simp only [pS, pN, pA, pC, pZ]
  refine gw_rel rfl rfl (fun w9 hCw9 hF => does_call (ex_fn (vs := #[(.slice x0 p.1.length y0)]) (map1 rfl) rfl (ent_30 _ _)) (call_made S7.sat hCw9 (clone_spec _ _ _ p.1 ((St.tells S7 hCw9)).sat h0 (by omega)))) (fun v10 => ?_)
  simp only [pS, pN, pA, pC, pZ]
  refine gw_pure rfl rfl (.pointer (some ⟨n2, 1, none⟩)) (fun w9 hCw9 => pureAt_of (ex_field (q := ⟨n2, 1, none⟩) rfl (fa_36_1 _ _))) ?_
  simp only [pS, pN, pA, pC, pZ]
  refine gw_pure rfl rfl (.slice x1 p.2.length y1) (fun w9 hCw9 => pureAt_of (ex_load rfl (load1 (nagg_25 _) (St.cell (St.tells S7 hCw9) (i := 1) rfl rfl)))) ?_
  simp only [pS, pN, pA, pC, pZ]
  refine gw_nil ?_
  intro w11 hC13 hF14
  obtain ⟨F15, g16, R17⟩ := hF14.get 2 rfl rfl
  have S12 := St.gives S7 g16
  have le19 : Le _ _ := g16.le S7.sat
  have R20 := R17
  generalize F15 = F18 at *
  obtain ⟨xa21, xc22, rfl, _⟩ := R20.shape
  clear hF14
  simp only [List.drop_succ_cons, List.drop_zero]
  refine stGives S12 rfl (ex_fn (vs := #[(.slice x1 p.2.length y1)]) (map1 rfl) rfl (ent_30 _ _)) (clone_spec _ _ _ p.2 (S12).sat (h1.mono le19) (by omega)) ?_
  intro v28 w23 F25 S24 le26 R27
  obtain ⟨xa29, xc30, rfl, _⟩ := R27.shape
  simp only [pS, pN, pA, pC, pZ]
  refine do_ rfl (.agg #[(.slice xa21 p.1.length xc22), (.slice xa29 p.2.length xc30)]) (ex_build (ps := #[(0, (.slice xa21 p.1.length xc22)), (1, (.slice xa29 p.2.length xc30))]) (bmap2 rfl rfl) (by kernel_rfl)) ?_
  simp only [pS, pN, pA, pC, pZ]
  refine stStore (i := 0) (v := (.agg #[(.slice xa21 p.1.length xc22), (.slice xa29 p.2.length xc30)])) S24 rfl rfl rfl rfl (size_36) (allc2 rfl rfl) (Nat.le_of_ble_eq_true rfl) (fun w31 S32 => ?_)
  simp only [pS, pN, pA, pC, pZ]
  have S32 : St w F w31 F25 [⟨n5, [(.slice xa21 p.1.length xc22), (.slice xa29 p.2.length xc30)], 36⟩, ⟨n2, [(.slice x0 p.1.length y0), (.slice x1 p.2.length y1)], 36⟩] [] := S32
  refine wl_nil ?_
  (try simp only [Exit.then, Exit.inBlock, ↓reduceIte, Nat.reduceEqDiff])
  refine hK8 _ _ ?_
  refine wp_ret ?_
  (try simp only [Exit.then, Exit.inBlock, ↓reduceIte, Nat.reduceEqDiff])
  refine bodyPost_ret (v := (.agg #[(.slice xa21 p.1.length xc22), (.slice xa29 p.2.length xc30)])) ?_ rfl ?_
  · exact res_c rfl ⟨_, rfl, loadN (cs := [(.slice xa21 p.1.length xc22), (.slice xa29 p.2.length xc30)]) Try.underlying36 rfl (size_36) (St.range S32 (i := 0) rfl 0 [(.slice xa21 p.1.length xc22), (.slice xa29 p.2.length xc30)] (sub_range 0 rfl))⟩
  · exact ⟨_, _, rfl, S32.gr, ⟨_, _, _, _, rfl, (R20.mono le26), R27⟩⟩
set_option maxHeartbeats 400000 in
theorem all_spec (F : Fz) (w : World) (v : Value) (l : List Pr) (hs : Sat w F) (hv : Prs F v l) (hl : l.length ≤ 100000) (hL : ∀ p ∈ l, p.1.length ≤ 100000 ∧ p.2.length ≤ 100000) :
    Calls Try.prog 24 #[v] w (GivesO w F 2 PrC 36 l) := by
  obtain ⟨a, c, rfl, hc1, hc2⟩ := Sl.shape hv
  unfold maxLen at hc2
  obtain ⟨i36, hi36, hz36, hs36, hb36⟩ := info_parts info_36
  have S := St.start hs
  go_enter Try.func24, Try.ntmps24
  refine wp_seq_k (fun K1 hK1 => ?_)
  refine region_wl ?_
  refine do_ rfl (.slice none 0 0) (ex_assign _) ?_
  simp only [pS, pN, pA, pC, pZ]
  refine wl_nil ?_
  (try simp only [Exit.then, Exit.inBlock, ↓reduceIte, Nat.reduceEqDiff])
  refine hK1 _ _ ?_
  refine wp_seq_k (fun K2 hK2 => ?_)
  refine region_wl ?_
  refine do_ rfl (.slice none 0 0) (ex_assign _) ?_
  simp only [pS, pN, pA, pC, pZ]
  refine wl_nil ?_
  (try simp only [Exit.then, Exit.inBlock, ↓reduceIte, Nat.reduceEqDiff])
  refine hK2 _ _ ?_
  refine wp_seq_k (fun K3 hK3 => ?_)
  refine wp_seq_k (fun K4 hK4 => ?_)
  refine region_wl ?_
  refine do_ rfl (.slice a l.length c) (ex_move _) ?_
  simp only [pS, pN, pA, pC, pZ]
  refine do_ rfl (.int .i64 ((l.length : Nat) : Int)) (ex_len Try.underlying23 rfl) ?_
  simp only [pS, pN, pA, pC, pZ]
  refine do_ rfl (.int .i64 0) (ex_move _) ?_
  simp only [pS, pN, pA, pC, pZ]
  refine wl_nil ?_
  (try simp only [Exit.then, Exit.inBlock, ↓reduceIte, Nat.reduceEqDiff])
  refine hK4 _ _ ?_
  refine wp_block ?_
  have S5 := St.addNil S 2 PrC PrC.mono 36 w.heap.size
  refine wp_loop_g (fun mm aa w8 => ∃ (k : Nat) (v : Value) (F6 : Fz) (u7 : Nat → Value), mm = l.length - k ∧ aa = ⟨#[(.slice a l.length c), undef, (.slice none 0 0), v, undef, (u7 5), (.slice a l.length c), (.int .i64 ((l.length : Nat) : Int)), (.int .i64 ((k : Nat) : Int)), (u7 9), (u7 10), (u7 11), (u7 12), (u7 13), (u7 14), (u7 15), (u7 16), (u7 17), undef], []⟩ ∧ St w F w8 F6 [] [ownP 2 PrC PrC.mono 36 w.heap.size v (l.take k)] ∧ Le F F6 ∧ (k ≤ l.length)) _ ⟨0, (.slice none 0 0), F, (slotF [(.slice a l.length c), undef, (.slice none 0 0), (.slice none 0 0), undef, undef, (.slice a l.length c), (.int .i64 ((l.length : Nat) : Int)), (.int .i64 0), undef, undef, undef, undef, undef, undef, undef, undef, undef, undef]), rfl, rfl, S5, Le.refl _, (by omega)⟩ ?_
  rintro m9 a10 w11 ⟨k, v, F6, u7, rfl, rfl, S12, le13, hk⟩ K14 hK14
  refine wp_seq_k (fun K15 hK15 => ?_)
  refine region_wl ?_
  by_cases hc9 : k < l.length
  · refine do_ rfl (.bool true) (ex_lss (m := ((k : Nat) : Int)) (n := ((l.length : Nat) : Int)) (b := true) rfl rfl (decide_eq_true (by omega))) ?_
    simp only [pS, pN, pA, pC, pZ]
    refine wl_nil ?_
    (try simp only [Exit.then, Exit.inBlock, ↓reduceIte, Nat.reduceEqDiff])
    refine hK15 _ _ ?_
    refine wp_seq_k (fun K16 hK16 => ?_)
    refine wp_cond_true rfl ?_
    refine wp_skip ?_
    (try simp only [Exit.then, Exit.inBlock, ↓reduceIte, Nat.reduceEqDiff])
    refine hK16 _ _ ?_
    refine wp_seq_k (fun K17 hK17 => ?_)
    refine wp_block ?_
    refine wp_seq_k (fun K18 hK18 => ?_)
    refine region_wl ?_
    obtain ⟨p, hp⟩ : ∃ p, l[k]? = some p := ⟨l[k], List.getElem?_eq_getElem hc9⟩
    have hpl := hL p (List.mem_of_getElem? hp)
    have htk : (l.take k).length = k := by rw [List.length_take]; omega
    obtain ⟨b19, o20, ha21, xa23, xc24, xa27, xc28, c22, c26, r25, r29⟩ := Prs.get (hv.mono le13) hp
    refine do_ rfl (.pointer (some ⟨b19, o20 + k * 2, none⟩)) (ex_at (i := k) (sz := 2) Try.underlying23 (sizeof_36 _) rfl ha21 rfl (by omega) rfl) ?_
    simp only [pS, pN, pA, pC, pZ]
    refine do_ rfl (.agg #[(.slice xa23 p.1.length xc24), (.slice xa27 p.2.length xc28)]) (ex_load rfl (loadN (cs := [(.slice xa23 p.1.length xc24), (.slice xa27 p.2.length xc28)]) Try.underlying36 rfl (size_36) (range2 (St.fz S12 c22) (St.fz S12 c26)))) ?_
    simp only [pS, pN, pA, pC, pZ]
    refine stNew S12 (v := fun n => .pointer (some ⟨n, 0, none⟩)) rfl (ex_alloc (zero_36 _)) (fun n30 w31 S32 => ?_)
    simp only [pS, pN, pA, pC, pZ]
    have S32 : St w F w31 F6 [⟨n30, [(.slice none 0 0), (.slice none 0 0)], 36⟩] [ownP 2 PrC PrC.mono 36 w.heap.size v (l.take k)] := S32
    refine stStore (i := 0) (v := (.agg #[(.slice xa23 p.1.length xc24), (.slice xa27 p.2.length xc28)])) S32 rfl rfl rfl rfl (size_36) (allc2 rfl rfl) (Nat.le_of_ble_eq_true rfl) (fun w33 S34 => ?_)
    simp only [pS, pN, pA, pC, pZ]
    have S34 : St w F w33 F6 [⟨n30, [(.slice xa23 p.1.length xc24), (.slice xa27 p.2.length xc28)], 36⟩] [ownP 2 PrC PrC.mono 36 w.heap.size v (l.take k)] := S34
    refine wl_nil ?_
    (try simp only [Exit.then, Exit.inBlock, ↓reduceIte, Nat.reduceEqDiff])
    refine hK18 _ _ ?_
    refine region_wl ?_
    refine do_ rfl v (ex_move _) ?_
    simp only [pS, pN, pA, pC, pZ]
    refine do_ rfl (.agg #[(.slice xa23 p.1.length xc24), (.slice xa27 p.2.length xc28)]) (ex_load rfl (loadN (cs := [(.slice xa23 p.1.length xc24), (.slice xa27 p.2.length xc28)]) Try.underlying36 rfl (size_36) (St.range S34 (i := 0) rfl 0 [(.slice xa23 p.1.length xc24), (.slice xa27 p.2.length xc28)] (sub_range 0 rfl)))) ?_
    simp only [pS, pN, pA, pC, pZ]
    refine stGives S34 rfl (ex_fn (vs := #[(.agg #[(.slice xa23 p.1.length xc24), (.slice xa27 p.2.length xc28)])]) (map1 rfl) rfl (ent_28 _ _)) (own2_spec _ _ _ p (S34).sat ⟨_, _, _, _, rfl, r25, r29⟩ (by omega) (by omega)) ?_
    intro v40 w35 F37 S36 le38 R39
    obtain ⟨xa41, xc42, xa43, xc44, rfl, r45, r46⟩ := R39
    simp only [pS, pN, pA, pC, pZ]
    refine stNew S36 (v := fun n => .slice (some ⟨n, 0, none⟩) 1 1) rfl (ex_lit (ps := #[(0, (.agg #[(.slice xa41 p.1.length xc42), (.slice xa43 p.2.length xc44)]))]) (cells := #[(.slice xa41 p.1.length xc42), (.slice xa43 p.2.length xc44)]) (E := 36) (bmap1 rfl) (fun w => by kernel_rfl)) (fun n47 w48 S49 => ?_)
    simp only [pS, pN, pA, pC, pZ]
    have S49 : St w F w48 F37 [⟨n47, [(.slice xa41 p.1.length xc42), (.slice xa43 p.2.length xc44)], 36⟩, ⟨n30, [(.slice xa23 p.1.length xc24), (.slice xa27 p.2.length xc28)], 36⟩] [ownP 2 PrC PrC.mono 36 w.heap.size v (l.take k)] := S49
    refine stPush (i := 0) (r := 0) (p := p) (cs := [(.slice xa41 p.1.length xc42), (.slice xa43 p.2.length xc44)]) S49 rfl i36 (.agg #[(.slice none 0 0), (.slice none 0 0)]) 48 Try.underlying23 hi36 hz36 hs36 hb36 rfl (by decide) rfl rfl rfl rfl rfl (PrC.oneCell ⟨_, _, rfl, r45, r46⟩) (⟨_, _, rfl, r45, r46⟩) (Nat.le_refl _) S49.gr.below.size (by unfold maxLen; omega) (by omega) ?_
    intro v50 w51 S52 hn53
    simp only [pS, pN, pA, pC, pZ]
    have S52 := St.drop S52 (L' := [⟨n30, [(.slice xa23 p.1.length xc24), (.slice xa27 p.2.length xc28)], 36⟩]) (.cons _ (List.Sublist.refl _))
    have S52 : St w F w51 F37 [⟨n30, [(.slice xa23 p.1.length xc24), (.slice xa27 p.2.length xc28)], 36⟩] [ownP 2 PrC PrC.mono 36 w.heap.size v50 ((l.take k) ++ [p])] := S52
    refine do_ rfl v50 (ex_assign _) ?_
    simp only [pS, pN, pA, pC, pZ]
    refine wl_nil ?_
    (try simp only [Exit.then, Exit.inBlock, ↓reduceIte, Nat.reduceEqDiff])
    refine hK17 _ _ ?_
    refine region_wl ?_
    refine do_ rfl (.int .i64 (((k + 1) : Nat) : Int)) (ex_add (m := ((k : Nat) : Int)) (n := (1 : Int)) (r := (((k + 1) : Nat) : Int)) rfl rfl (by omega) (by omega) (by omega)) ?_
    simp only [pS, pN, pA, pC, pZ]
    refine do_ rfl (.int .i64 (((k + 1) : Nat) : Int)) (ex_move _) ?_
    simp only [pS, pN, pA, pC, pZ]
    refine wl_nil ?_
    (try simp only [Exit.then, Exit.inBlock, ↓reduceIte, Nat.reduceEqDiff])
    have S52 := St.drop S52 (L' := []) (.cons _ (List.Sublist.refl _))
    rw [← take_snoc hp] at S52
    exact hK14 _ _ _ (by omega) ⟨(k + 1), v50, F37, (slotF [(.slice a l.length c), undef, (.slice none 0 0), v50, undef, (.pointer (some ⟨n30, 0, none⟩)), (.slice a l.length c), (.int .i64 ((l.length : Nat) : Int)), (.int .i64 (((k + 1) : Nat) : Int)), (.bool true), (.pointer (some ⟨b19, o20 + k * 2, none⟩)), (.agg #[(.slice xa23 p.1.length xc24), (.slice xa27 p.2.length xc28)]), v, (.agg #[(.slice xa23 p.1.length xc24), (.slice xa27 p.2.length xc28)]), (.agg #[(.slice xa41 p.1.length xc42), (.slice xa43 p.2.length xc44)]), (.slice (some ⟨n47, 0, none⟩) 1 1), v50, (.int .i64 (((k + 1) : Nat) : Int)), undef]), rfl, rfl, S52, (le13.trans le38), (by omega)⟩
  · refine do_ rfl (.bool false) (ex_lss (m := ((k : Nat) : Int)) (n := ((l.length : Nat) : Int)) (b := false) rfl rfl (decide_eq_false (by omega))) ?_
    simp only [pS, pN, pA, pC, pZ]
    refine wl_nil ?_
    (try simp only [Exit.then, Exit.inBlock, ↓reduceIte, Nat.reduceEqDiff])
    refine hK15 _ _ ?_
    refine wp_seq_k (fun K55 hK55 => ?_)
    refine wp_cond_false rfl ?_
    refine wp_exit ?_
    (try simp only [Exit.then, Exit.inBlock, ↓reduceIte, Nat.reduceEqDiff])
    refine hK3 _ _ ?_
    refine wp_seq_k (fun K56 hK56 => ?_)
    refine region_wl ?_
    refine do_ rfl v (ex_move _) ?_
    simp only [pS, pN, pA, pC, pZ]
    refine do_ rfl v (ex_assign _) ?_
    simp only [pS, pN, pA, pC, pZ]
    refine wl_nil ?_
    (try simp only [Exit.then, Exit.inBlock, ↓reduceIte, Nat.reduceEqDiff])
    refine hK56 _ _ ?_
    refine wp_ret ?_
    (try simp only [Exit.then, Exit.inBlock, ↓reduceIte, Nat.reduceEqDiff])
    refine bodyPost_ret (v := v) ?_ rfl ?_
    · exact res_t rfl rfl
    · obtain rfl : k = l.length := by omega
      exact ⟨_, _, rfl, S12.gr, by have h := St.own (i := 0) S12 rfl; rwa [List.take_length] at h⟩
end Go.Proofs.Ytlimmmidfhpakaa
namespace Go.Proofs.Ytlimmmidfhpakaa
open Go.RowKit
set_option maxRecDepth 100000
set_option linter.unusedVariables false
set_option linter.unusedSimpArgs false
theorem bytesOf_run {P : Program} {w : World} {F : Fz} {v : Value} {l : List UInt8} (hs : Sat w F) (hv : Bs F v l) : (Extern.Bytes.bytesOf v).run P w = .ok ⟨l.toArray⟩ w := by
  obtain ⟨a, c, rfl, h1, h2⟩ := hv.shape
  cases a with
  | none =>
    obtain ⟨_, _, q1, _, _, q4, _⟩ := hv
    cases q1
    have : l = [] := List.eq_nil_of_length_eq_zero (q4 rfl).1
    subst this
    rfl
  | some a =>
    by_cases hl : l = []
    · subst hl; rfl
    · have hpos := List.length_pos_iff.2 hl
      obtain ⟨b, o, e, hc⟩ := hv.addr hpos
      cases e
      have key : ∀ (m : List UInt8) (j : Nat) (acc : ByteArray), (∀ (i : Nat) (h : i < m.length), w.cell? ⟨b, o + j + i, none⟩ = some (.int .u8 (m[i].toNat : Int))) → (Extern.Bytes.loadBytes ⟨b, o + j, none⟩ m.length acc).run P w = .ok ⟨acc.data ++ m.toArray⟩ w := by
        intro m
        induction m with
        | nil => intro j acc _; simp [Extern.Bytes.loadBytes]
        | cons x m ih =>
          intro j acc h
          have h0 := h 0 (by simp)
          simp only [Nat.add_zero, List.getElem_cons_zero] at h0
          have e : (⟨b, o + j, none⟩ : Addr).add 1 = ⟨b, o + (j + 1), none⟩ := by rw [Addr.add_mid]; rfl
          have ih' := ih (j + 1) (acc.push x) (fun i hi => by
            have := h (i + 1) (by simpa using hi)
            simp only [List.getElem_cons_succ] at this
            rw [show o + (j + 1) + i = o + j + (i + 1) from by omega]; exact this)
          simp only [List.length_cons, Extern.Bytes.loadBytes, Sem.run_bind, run_load, h0, Result.andThen]
          rw [e]
          simp only [Int.toNat_natCast]
          rw [show x.toNat.toUInt8 = x from by simp]
          rw [ih']
          congr 2
          simp [ByteArray.push]
      have := key l 0 .empty (fun i hi => hs.cell (hc i hi))
      simp only [Nat.add_zero] at this
      show (Extern.Bytes.loadBytes ⟨b, o, none⟩ l.length .empty).run P w = _
      rw [this]
      congr 2
      simp [ByteArray.empty, ByteArray.emptyWithCapacity]
      rfl
theorem compareBytes_eq : ∀ (a b : List UInt8), Lib.compareBytes a b = cmpL a b
  | [], [] => by simp [Lib.compareBytes, cmpL, Op.bytesLess]
  | [], _ :: _ => by simp [Lib.compareBytes, cmpL, Op.bytesLess]
  | _ :: _, [] => by simp [Lib.compareBytes, cmpL, Op.bytesLess]
  | x :: a, y :: b => by
    have ih := compareBytes_eq a b
    unfold Lib.compareBytes
    rw [ih]
    unfold cmpL
    simp only [Op.bytesLess, Bool.or_eq_true, decide_eq_true_eq, Bool.and_eq_true, beq_iff_eq, List.cons.injEq]
    by_cases h1 : x < y
    · simp [h1]
    · by_cases h2 : y < x
      · have h3 : x ≠ y := by rintro rfl; exact h1 h2
        simp [h1, h2, h3]
      · have h3 : x = y := by
          apply UInt8.toNat_inj.1
          have e1 : ¬ x.toNat < y.toNat := fun q => h1 (UInt8.lt_iff_toNat_lt.2 q)
          have e2 : ¬ y.toNat < x.toNat := fun q => h2 (UInt8.lt_iff_toNat_lt.2 q)
          omega
        subst h3
        simp [h1]
theorem bytealgCompare_run {w : World} {F : Fz} {v u : Value} {l m : List UInt8} (hs : Sat w F) (hv : Bs F v l) (hu : Bs F u m) : (callFunc 57 #[v, u]).run Try.prog w = .ok (.value (.int .i64 (cmpL l m))) w := by
  rw [run_callFunc_extern Try.func57 (by kernel_rfl) (by kernel_rfl) (by kernel_rfl) (e := Extern.BytealgCompare.compare) (by kernel_rfl)]
  have e : (Extern.BytealgCompare.compare #[v, u]).run Try.prog w = .ok (goInt (Extern.BytealgCompare.cmp ⟨l.toArray⟩ ⟨m.toArray⟩)) w := by
    change Sem.run Try.prog (do pure (goInt (Extern.BytealgCompare.cmp (← Extern.Bytes.bytesOf v) (← Extern.Bytes.bytesOf u)))) w = _
    simp only [Sem.run_bind, bytesOf_run hs hv, bytesOf_run hs hu, Result.andThen_ok, Sem.run_pure]
  rw [e, Lib.cmp_eq, compareBytes_eq]
  rfl
set_option maxHeartbeats 8000000 in
theorem bytesCompare_spec (F : Fz) (w : World) (v u : Value) (l m : List UInt8) (hs : Sat w F) (hv : Bs F v l) (hu : Bs F u m) :
    Calls Try.prog 45 #[v, u] w (Tells w (.int .i64 (cmpL l m))) := by
 obtain ⟨a, c, rfl, _⟩ := hv.shape
 obtain ⟨a2, c2, rfl, _⟩ := hu.shape
 have S := St.start hs
 go_enter Try.func45, Try.ntmps45
 refine wp_seq_k (fun K1 hK1 => region_wl ?_)
 refine do_ rfl (.int .i64 0) (ex_assign _) ?_
 simp only [pS, pN, pA, pC, pZ]
 refine wl_nil (hK1 _ _ ?_)
 refine wp_seq_k (fun K2 hK2 => region_wl ?_)
 refine do_ rfl (.slice a l.length c) (ex_move _) ?_
 simp only [pS, pN, pA, pC, pZ]
 refine do_ rfl (.slice a2 m.length c2) (ex_move _) ?_
 simp only [pS, pN, pA, pC, pZ]
 refine do_ rfl (.int .i64 (cmpL l m)) (ex_fnv (vs := #[(.slice a l.length c), (.slice a2 m.length c2)]) (map2 rfl rfl) rfl (bytealgCompare_run (S).sat hv hu)) ?_
 simp only [pS, pN, pA, pC, pZ]
 refine do_ rfl (.int .i64 (cmpL l m)) (ex_assign _) ?_
 simp only [pS, pN, pA, pC, pZ]
 refine wl_nil (hK2 _ _ ?_)
 refine wp_ret ?_
 (try simp only [Exit.then, Exit.inBlock, ↓reduceIte, Nat.reduceEqDiff])
 refine bodyPost_ret (v := (.int .i64 (cmpL l m))) ?_ rfl ?_
 ·exact res_t rfl rfl
 ·exact ⟨rfl, S.gr.below⟩
set_option maxHeartbeats 8000000 in
theorem compare_spec (F : Fz) (w : World) (v u : Value) (p q : Pr) (hs : Sat w F) (hv : Pr2V F v p) (hu : Pr2V F u q) :
    Calls Try.prog 31 #[v, u] w (Tells w (.int .i64 (cmpL p.1 q.1))) := by
 obtain ⟨x0, y0, x1, y1, rfl, h0, h1⟩ := hv
 obtain ⟨x0q, y0q, x1q, y1q, rfl, k0, k1⟩ := hu
 have S := St.start hs
 go_enter Try.func31, Try.ntmps31
 refine wp_seq_k (fun K1 hK1 => region_wl ?_)
 refine stNew S (v := fun n => .pointer (some ⟨n, 0, none⟩)) rfl (ex_box (v := (.agg #[(.slice x0 p.1.length y0), (.slice x1 p.2.length y1)])) rfl) (fun n2 w3 S4 => ?_)
 simp only [pS, pN, pA, pC, pZ]
 have S4 : St w F w3 F [⟨n2, [(.slice x0 p.1.length y0), (.slice x1 p.2.length y1)], 36⟩] [] := S4
 refine stNew S4 (v := fun n => .pointer (some ⟨n, 0, none⟩)) rfl (ex_box (v := (.agg #[(.slice x0q q.1.length y0q), (.slice x1q q.2.length y1q)])) rfl) (fun n5 w6 S7 => ?_)
 simp only [pS, pN, pA, pC, pZ]
 have S7 : St w F w6 F [⟨n5, [(.slice x0q q.1.length y0q), (.slice x1q q.2.length y1q)], 36⟩, ⟨n2, [(.slice x0 p.1.length y0), (.slice x1 p.2.length y1)], 36⟩] [] := S7
 refine do_ rfl (.int .i64 0) (ex_assign _) ?_
 simp only [pS, pN, pA, pC, pZ]
 refine wl_nil (hK1 _ _ ?_)
 refine wp_seq_k (fun K8 hK8 => region_wl ?_)
 refine do_ rfl (.pointer (some ⟨n2, 0, none⟩)) (ex_field (q := ⟨n2, 0, none⟩) rfl (fa_36_0 _ _)) ?_
 simp only [pS, pN, pA, pC, pZ]
 refine do_ rfl (.slice x0 p.1.length y0) (ex_load rfl (load1 (nagg_25 _) (St.cell S7 (i := 1) rfl rfl))) ?_
 simp only [pS, pN, pA, pC, pZ]
 refine do_ rfl (.pointer (some ⟨n5, 0, none⟩)) (ex_field (q := ⟨n5, 0, none⟩) rfl (fa_36_0 _ _)) ?_
 simp only [pS, pN, pA, pC, pZ]
 refine do_ rfl (.slice x0q q.1.length y0q) (ex_load rfl (load1 (nagg_25 _) (St.cell S7 (i := 0) rfl rfl))) ?_
 simp only [pS, pN, pA, pC, pZ]
 refine stTells (v := (.int .i64 (cmpL p.1 q.1))) S7 rfl (ex_fn (vs := #[(.slice x0 p.1.length y0), (.slice x0q q.1.length y0q)]) (map2 rfl rfl) rfl (ent_45 _ _)) (bytesCompare_spec _ _ _ _ p.1 q.1 (S7).sat h0 k0) (fun w9 S10 => ?_)
 simp only [pS, pN, pA, pC, pZ]
 refine do_ rfl (.int .i64 (cmpL p.1 q.1)) (ex_assign _) ?_
 simp only [pS, pN, pA, pC, pZ]
 refine wl_nil (hK8 _ _ ?_)
 refine wp_ret ?_
 (try simp only [Exit.then, Exit.inBlock, ↓reduceIte, Nat.reduceEqDiff])
 refine bodyPost_ret (v := (.int .i64 (cmpL p.1 q.1))) ?_ rfl ?_
 ·exact res_t rfl rfl
 ·exact ⟨rfl, S10.gr.below⟩
def pairE (p : Pr) : Int := if 32 < p.2.length then 1 else checkN p.1.length
set_option maxHeartbeats 8000000 in
theorem pair_spec (F : Fz) (w : World) (v : Value) (p : Pr) (hs : Sat w F) (hv : Pr2V F v p) :
    Calls Try.prog 27 #[v] w (Tells w (.int .i64 (pairE p))) := by
 obtain ⟨x0, y0, x1, y1, rfl, h0, h1⟩ := hv
 have S := St.start hs
 go_enter Try.func27, Try.ntmps27
 refine wp_seq_k (fun K1 hK1 => region_wl ?_)
 refine stNew S (v := fun n => .pointer (some ⟨n, 0, none⟩)) rfl (ex_box (v := (.agg #[(.slice x0 p.1.length y0), (.slice x1 p.2.length y1)])) rfl) (fun n2 w3 S4 => ?_)
 simp only [pS, pN, pA, pC, pZ]
 have S4 : St w F w3 F [⟨n2, [(.slice x0 p.1.length y0), (.slice x1 p.2.length y1)], 36⟩] [] := S4
 refine do_ rfl (.int .i64 0) (ex_assign _) ?_
 simp only [pS, pN, pA, pC, pZ]
 refine wl_nil (hK1 _ _ ?_)
 refine wp_seq_k (fun K5 hK5 => ?_)
 refine wp_seq_k (fun K6 hK6 => region_wl ?_)
 refine do_ rfl (.pointer (some ⟨n2, 1, none⟩)) (ex_field (q := ⟨n2, 1, none⟩) rfl (fa_36_1 _ _)) ?_
 simp only [pS, pN, pA, pC, pZ]
 refine do_ rfl (.slice x1 p.2.length y1) (ex_load rfl (load1 (nagg_25 _) (St.cell S4 (i := 0) rfl rfl))) ?_
 simp only [pS, pN, pA, pC, pZ]
 refine do_ rfl (.int .i64 ((p.2.length : Nat) : Int)) (ex_len Try.underlying25 rfl) ?_
 simp only [pS, pN, pA, pC, pZ]
 by_cases hc6 : 32 < p.2.length
 ·refine do_ rfl (.bool true) (ex_gtr (m := ((p.2.length : Nat) : Int)) (n := (32 : Int)) (b := true) rfl rfl (decide_eq_true (by omega))) ?_
  simp only [pS, pN, pA, pC, pZ]
  refine wl_nil (hK6 _ _ ?_)
  refine wp_cond_true rfl ?_
  refine wp_seq_k (fun K7 hK7 => region_wl ?_)
  refine do_ rfl (.int .i64 1) (ex_assign _) ?_
  simp only [pS, pN, pA, pC, pZ]
  refine wl_nil (hK7 _ _ ?_)
  refine wp_ret ?_
  (try simp only [Exit.then, Exit.inBlock, ↓reduceIte, Nat.reduceEqDiff])
  refine bodyPost_ret (v := (.int .i64 1)) ?_ rfl ?_
  ·exact res_t rfl rfl
  ·refine ⟨?_, S4.gr.below⟩
   unfold pairE
   first | rw [if_pos (by omega)] | rw [if_neg (by omega)]
 ·refine do_ rfl (.bool false) (ex_gtr (m := ((p.2.length : Nat) : Int)) (n := (32 : Int)) (b := false) rfl rfl (decide_eq_false (by omega))) ?_
  simp only [pS, pN, pA, pC, pZ]
  refine wl_nil (hK6 _ _ ?_)
  refine wp_cond_false rfl ?_
  refine wp_skip ?_
  refine hK5 _ _ ?_
  refine wp_seq_k (fun K8 hK8 => region_wl ?_)
  refine do_ rfl (.pointer (some ⟨n2, 0, none⟩)) (ex_field (q := ⟨n2, 0, none⟩) rfl (fa_36_0 _ _)) ?_
  simp only [pS, pN, pA, pC, pZ]
  refine do_ rfl (.slice x0 p.1.length y0) (ex_load rfl (load1 (nagg_25 _) (St.cell S4 (i := 0) rfl rfl))) ?_
  simp only [pS, pN, pA, pC, pZ]
  refine stTells (v := (.int .i64 (checkN p.1.length))) S4 rfl (ex_fn (vs := #[(.slice x0 p.1.length y0)]) (map1 rfl) rfl (ent_23 _ _)) (tells_same (check_spec _ _ _ p.1 h0)) (fun w9 S10 => ?_)
  simp only [pS, pN, pA, pC, pZ]
  refine do_ rfl (.int .i64 (checkN p.1.length)) (ex_assign _) ?_
  simp only [pS, pN, pA, pC, pZ]
  refine wl_nil (hK8 _ _ ?_)
  refine wp_ret ?_
  (try simp only [Exit.then, Exit.inBlock, ↓reduceIte, Nat.reduceEqDiff])
  refine bodyPost_ret (v := (.int .i64 (checkN p.1.length))) ?_ rfl ?_
  ·exact res_t rfl rfl
  ·refine ⟨?_, S10.gr.below⟩
   unfold pairE
   first | rw [if_pos (by omega)] | rw [if_neg (by omega)]
end Go.Proofs.Ytlimmmidfhpakaa
namespace Go.Proofs.Ytlimmmidfhpakaa
open Go.RowKit
set_option maxRecDepth 100000
set_option linter.unusedVariables false
set_option linter.unusedSimpArgs false
/-- What Check tells of pairs from place k on. -/
def treeAt (l : List Pr) : Nat → Nat → Int
  | 0, _ => 0
  | n + 1, k => match l[k]? with
    | none => 0
    | some p => if pairE p ≠ 0 then pairE p else if 0 < k ∧ 0 ≤ cmpL (l.getD (k - 1) ([], [])).1 p.1 then 3 else treeAt l n (k + 1)
def treeE (l : List Pr) : Int := if 60 < l.length then 1 else treeAt l l.length 0
theorem treeAt_at {l : List Pr} {k : Nat} {p : Pr} (hp : l[k]? = some p) : treeAt l (l.length - k) k = if pairE p ≠ 0 then pairE p else if 0 < k ∧ 0 ≤ cmpL (l.getD (k - 1) ([], [])).1 p.1 then 3 else treeAt l (l.length - (k + 1)) (k + 1) := by
  obtain ⟨hk, _⟩ := List.getElem?_eq_some_iff.1 hp
  rw [show l.length - k = (l.length - (k + 1)) + 1 from by omega]
  simp only [treeAt, hp]
theorem treeAt_end {l : List Pr} {k : Nat} (hk : l.length ≤ k) : treeAt l (l.length - k) k = 0 := by rw [show l.length - k = 0 from by omega]; rfl
theorem pairE_ok {p : Pr} : pairE p = 0 ↔ PairOk p := by
  unfold pairE PairOk checkN
  split
  · omega
  · split <;> omega
theorem treeE_ok {l : List Pr} : treeE l = 0 ↔ TreeOk 60 l := by
  unfold treeE
  by_cases hl : 60 < l.length
  · rw [if_pos hl]
    exact ⟨fun h => by omega, fun h => by have := h.len; omega⟩
  · rw [if_neg hl]
    have key : ∀ n k, n + k = l.length → (treeAt l n k = 0 ↔ ∀ i (hi : i < l.length), k ≤ i → PairOk l[i] ∧ (0 < i → Lt (l.getD (i - 1) ([], [])).1 l[i].1)) := by
      intro n
      induction n with
      | zero => intro k hk; simp only [treeAt]; exact ⟨fun _ i hi h => by omega, fun _ => trivial⟩
      | succ n ih =>
        intro k hk
        have hk' : k < l.length := by omega
        simp only [treeAt, List.getElem?_eq_getElem hk']
        have ihk := ih (k + 1) (by omega)
        by_cases hp : pairE l[k] = 0
        · rw [if_neg (by simp [hp])]
          by_cases hc : 0 < k ∧ 0 ≤ cmpL (l.getD (k - 1) ([], [])).1 l[k].1
          · rw [if_pos hc]
            refine ⟨fun h => by omega, fun h => ?_⟩
            have := (h k hk' (Nat.le_refl _)).2 hc.1
            have := cmpL_lt.2 this
            omega
          · rw [if_neg hc, ihk]
            refine ⟨fun h i hi hki => ?_, fun h i hi hki => h i hi (by omega)⟩
            by_cases e : i = k
            · subst e
              refine ⟨pairE_ok.1 hp, fun h0 => cmpL_lt.1 ?_⟩
              have : ¬ 0 ≤ cmpL (l.getD (i - 1) ([], [])).1 l[i].1 := fun h => hc ⟨h0, h⟩
              omega
            · exact h i hi (by omega)
        · rw [if_pos hp]
          exact ⟨fun h => absurd h hp, fun h => absurd (pairE_ok.2 (h k hk' (Nat.le_refl _)).1) hp⟩
    rw [key l.length 0 (by omega)]
    constructor
    · intro h
      refine ⟨by omega, fun p hp => ?_, ?_⟩
      · obtain ⟨i, hi, rfl⟩ := List.mem_iff_getElem.1 hp
        exact (h i hi (by omega)).1
      · have step : ∀ j i (hi : i < l.length) (hj : j < l.length), i < j → Lt l[i].1 l[j].1 := by
          intro j
          induction j with
          | zero => intro i _ _ h; omega
          | succ j ih =>
            intro i hi hj hij
            have h1 := (h (j + 1) hj (by omega)).2 (by omega)
            simp only [Nat.add_sub_cancel, List.getD, List.getElem?_eq_getElem (show j < l.length by omega), Option.getD_some] at h1
            by_cases e : i = j
            · subst e; exact h1
            · exact less_trans _ _ _ (ih i hi (by omega) (by omega)) h1
        exact List.pairwise_iff_getElem.2 fun i j hi hj hij => step j i hi hj hij
    · intro h i hi _
      refine ⟨h.ok _ (List.getElem_mem hi), fun h0 => ?_⟩
      simp only [List.getD, List.getElem?_eq_getElem (show i - 1 < l.length by omega), Option.getD_some]
      exact List.pairwise_iff_getElem.1 h.rise (i - 1) i (by omega) hi (by omega)
set_option maxHeartbeats 8000000 in
theorem treeCheck_spec (F : Fz) (w : World) (v : Value) (l : List Pr) (hs : Sat w F) (hv : Prs F v l) :
    Calls Try.prog 10 #[v] w (Tells w (.int .i64 (treeE l))) := by
 obtain ⟨a, c, rfl, hc1, hc2⟩ := Sl.shape hv
 unfold maxLen at hc2
 have S := St.start hs
 go_enter Try.func10, Try.ntmps10
 refine wp_seq_k (fun K1 hK1 => region_wl ?_)
 refine do_ rfl (.int .i64 0) (ex_assign _) ?_
 simp only [pS, pN, pA, pC, pZ]
 refine wl_nil (hK1 _ _ ?_)
 refine wp_seq_k (fun K2 hK2 => ?_)
 refine wp_seq_k (fun K3 hK3 => region_wl ?_)
 refine do_ rfl (.slice a l.length c) (ex_move _) ?_
 simp only [pS, pN, pA, pC, pZ]
 refine do_ rfl (.int .i64 ((l.length : Nat) : Int)) (ex_len Try.underlying23 rfl) ?_
 simp only [pS, pN, pA, pC, pZ]
 by_cases hc8 : 60 < l.length
 ·refine do_ rfl (.bool true) (ex_gtr (m := ((l.length : Nat) : Int)) (n := (60 : Int)) (b := true) rfl rfl (decide_eq_true (by omega))) ?_
  simp only [pS, pN, pA, pC, pZ]
  refine wl_nil (hK3 _ _ ?_)
  refine wp_cond_true rfl ?_
  refine wp_seq_k (fun K4 hK4 => region_wl ?_)
  refine do_ rfl (.int .i64 1) (ex_assign _) ?_
  simp only [pS, pN, pA, pC, pZ]
  refine wl_nil (hK4 _ _ ?_)
  refine wp_ret ?_
  (try simp only [Exit.then, Exit.inBlock, ↓reduceIte, Nat.reduceEqDiff])
  refine bodyPost_ret (v := (.int .i64 1)) ?_ rfl ?_
  ·exact res_t rfl rfl
  ·exact ⟨by unfold treeE; rw [if_pos (by omega)], S.gr.below⟩
 ·refine do_ rfl (.bool false) (ex_gtr (m := ((l.length : Nat) : Int)) (n := (60 : Int)) (b := false) rfl rfl (decide_eq_false (by omega))) ?_
  simp only [pS, pN, pA, pC, pZ]
  refine wl_nil (hK3 _ _ ?_)
  refine wp_cond_false rfl ?_
  refine wp_skip ?_
  refine hK2 _ _ ?_
  refine wp_seq_k (fun K5 hK5 => ?_)
  refine wp_seq_k (fun K6 hK6 => region_wl ?_)
  refine do_ rfl (.slice a l.length c) (ex_move _) ?_
  simp only [pS, pN, pA, pC, pZ]
  refine do_ rfl (.int .i64 ((l.length : Nat) : Int)) (ex_len Try.underlying23 rfl) ?_
  simp only [pS, pN, pA, pC, pZ]
  refine do_ rfl (.int .i64 0) (ex_move _) ?_
  simp only [pS, pN, pA, pC, pZ]
  refine wl_nil (hK6 _ _ ?_)
  refine wp_block ?_
  refine wp_loop_g (fun mm aa w8 => ∃ (k : Nat) (u7 : Nat → Value), mm = l.length - k ∧ u7 = slots aa ∧ aa = ⟨#[(.slice a l.length c), undef, (u7 2), (u7 3), (u7 4), (u7 5), (.slice a l.length c), (.int .i64 ((l.length : Nat) : Int)), (.bool false), (.slice a l.length c), (.int .i64 ((l.length : Nat) : Int)), (.int .i64 ((k : Nat) : Int)), (u7 12), (u7 13), (u7 14), (u7 15), (u7 16), (u7 17), (u7 18), (u7 19), (u7 20), (u7 21), (u7 22), (u7 23), (u7 24), (u7 25), (u7 26), (u7 27), (u7 28), (u7 29), (u7 30), (u7 31), (u7 32), (u7 33)], []⟩ ∧ St w F w8 F [] [] ∧ (k ≤ l.length) ∧ (treeAt l l.length 0 = treeAt l (l.length - k) k)) _ ⟨0, _, rfl, rfl, rfl, S, (by omega), rfl⟩ ?_
  rintro m9 a10 w11 ⟨k, u7, rfl, -, rfl, S12, hk, hT⟩ K14 hK14
  refine wp_seq_k (fun K15 hK15 => region_wl ?_)
  by_cases hc12 : k < l.length
  ·refine do_ rfl (.bool true) (ex_lss (m := ((k : Nat) : Int)) (n := ((l.length : Nat) : Int)) (b := true) rfl rfl (decide_eq_true (by omega))) ?_
   simp only [pS, pN, pA, pC, pZ]
   refine wl_nil (hK15 _ _ ?_)
   refine wp_seq_k (fun K16 hK16 => ?_)
   refine wp_cond_true rfl ?_
   refine wp_skip ?_
   refine hK16 _ _ ?_
   refine wp_seq_k (fun K17 hK17 => ?_)
   refine wp_block ?_
   refine wp_seq_k (fun K18 hK18 => region_wl ?_)
   refine do_ rfl (.int .i64 ((k : Nat) : Int)) (ex_move _) ?_
   simp only [pS, pN, pA, pC, pZ]
   obtain ⟨p, hp⟩ : ∃ p, l[k]? = some p := ⟨l[k], List.getElem?_eq_getElem hc12⟩
   obtain ⟨b19, o20, ha21, xa23, xc24, xa27, xc28, c22, c26, r25, r29⟩ := Prs.get hv hp
   refine do_ rfl (.pointer (some ⟨b19, o20 + k * 2, none⟩)) (ex_at (i := k) (sz := 2) Try.underlying23 (sizeof_36 _) rfl ha21 rfl (by omega) rfl) ?_
   simp only [pS, pN, pA, pC, pZ]
   refine do_ rfl (.agg #[(.slice xa23 p.1.length xc24), (.slice xa27 p.2.length xc28)]) (ex_load rfl (loadN (cs := [(.slice xa23 p.1.length xc24), (.slice xa27 p.2.length xc28)]) Try.underlying36 rfl (size_36) (range2 (St.fz S12 c22) (St.fz S12 c26)))) ?_
   simp only [pS, pN, pA, pC, pZ]
   refine stNew S12 (v := fun n => .pointer (some ⟨n, 0, none⟩)) rfl (ex_alloc (zero_36 _)) (fun n30 w31 S32 => ?_)
   simp only [pS, pN, pA, pC, pZ]
   have S32 : St w F w31 F [⟨n30, [(.slice none 0 0), (.slice none 0 0)], 36⟩] [] := S32
   refine do_ rfl (.int .i64 ((k : Nat) : Int)) (ex_assign _) ?_
   simp only [pS, pN, pA, pC, pZ]
   refine stStore (i := 0) (v := (.agg #[(.slice xa23 p.1.length xc24), (.slice xa27 p.2.length xc28)])) S32 rfl rfl rfl rfl (size_36) (allc2 rfl rfl) (Nat.le_of_ble_eq_true rfl) (fun w33 S34 => ?_)
   simp only [pS, pN, pA, pC, pZ]
   have S34 : St w F w33 F [⟨n30, [(.slice xa23 p.1.length xc24), (.slice xa27 p.2.length xc28)], 36⟩] [] := S34
   refine wl_nil (hK18 _ _ ?_)
   refine wp_seq_k (fun K35 hK35 => ?_)
   refine wp_seq_k (fun K36 hK36 => region_wl ?_)
   refine do_ rfl (.agg #[(.slice xa23 p.1.length xc24), (.slice xa27 p.2.length xc28)]) (ex_load rfl (loadN (cs := [(.slice xa23 p.1.length xc24), (.slice xa27 p.2.length xc28)]) Try.underlying36 rfl (size_36) (St.range S34 (i := 0) rfl 0 [(.slice xa23 p.1.length xc24), (.slice xa27 p.2.length xc28)] (sub_range 0 rfl)))) ?_
   simp only [pS, pN, pA, pC, pZ]
   refine stTells (v := (.int .i64 (pairE p))) S34 rfl (ex_fn (vs := #[(.agg #[(.slice xa23 p.1.length xc24), (.slice xa27 p.2.length xc28)])]) (map1 rfl) rfl (ent_27 _ _)) (pair_spec _ _ _ p (S34).sat ⟨_, _, _, _, rfl, r25, r29⟩) (fun w37 S38 => ?_)
   simp only [pS, pN, pA, pC, pZ]
   refine do_ rfl (.int .i64 (pairE p)) (ex_assign _) ?_
   simp only [pS, pN, pA, pC, pZ]
   refine wl_nil (hK36 _ _ ?_)
   refine wp_seq_k (fun K39 hK39 => region_wl ?_)
   refine do_ rfl (.int .i64 (pairE p)) (ex_move _) ?_
   simp only [pS, pN, pA, pC, pZ]
   by_cases hc19 : (pairE p) = (0 : Int)
   ·refine do_ rfl (.bool false) (ex_neq (m := (pairE p)) (n := (0 : Int)) (b := false) rfl rfl (bne_eq_false_iff_eq.2 (by omega))) ?_
    simp only [pS, pN, pA, pC, pZ]
    refine wl_nil (hK39 _ _ ?_)
    refine wp_cond_false rfl ?_
    refine wp_skip ?_
    refine hK35 _ _ ?_
    refine wp_seq_k (fun K40 hK40 => ?_)
    by_cases h0 : 0 < k
    ·obtain ⟨q, hq⟩ : ∃ q, l[k - 1]? = some q := ⟨l[k - 1], List.getElem?_eq_getElem (by omega)⟩
     have hqd : l.getD (k - 1) ([], []) = q := by rw [List.getD_eq_getElem?_getD, hq]; rfl
     obtain ⟨b41, o42, ha43, xa45, xc46, xa49, xc50, c44, c48, r47, r51⟩ := Prs.get hv hq
     refine region_gw F 9 [] (by kernel_rfl) (by kernel_rfl) ?_
     simp only [List.take_succ_cons, List.take_zero]
     refine gw_pure rfl rfl (.int .i64 ((k : Nat) : Int)) (fun w52 hCw52 => pureAt_of (ex_move _)) ?_
     simp only [pS, pN, pA, pC, pZ]
     refine gw_pure rfl rfl (.bool true) (fun w52 hCw52 => pureAt_of (ex_gtr (m := ((k : Nat) : Int)) (n := (0 : Int)) (b := true) rfl rfl (decide_eq_true (by omega)))) ?_
     simp only [pS, pN, pA, pC, pZ]
     refine gw_pure rfl rfl (.bool true) (fun w52 hCw52 => pureAt_of (ex_move _)) ?_
     simp only [pS, pN, pA, pC, pZ]
     refine gw_pure rfl rfl (.slice a l.length c) (fun w52 hCw52 => pureAt_of (ex_move _)) ?_
     simp only [pS, pN, pA, pC, pZ]
     refine gw_pure rfl rfl (.int .i64 ((k : Nat) : Int)) (fun w52 hCw52 => pureAt_of (ex_move _)) ?_
     simp only [pS, pN, pA, pC, pZ]
     refine gw_pure rfl rfl (.int .i64 (((k - 1) : Nat) : Int)) (fun w52 hCw52 => pureAt_of (ex_sub (m := ((k : Nat) : Int)) (n := (1 : Int)) (r := (((k - 1) : Nat) : Int)) rfl rfl (by omega) (by omega) (by omega))) ?_
     simp only [pS, pN, pA, pC, pZ]
     refine gw_pure rfl rfl (.pointer (some ⟨b41, o42 + (k - 1) * 2, none⟩)) (fun w52 hCw52 => pureAt_of (ex_at (i := (k - 1)) (sz := 2) Try.underlying23 (sizeof_36 _) rfl ha43 rfl (by omega) rfl)) ?_
     simp only [pS, pN, pA, pC, pZ]
     refine gw_pure rfl rfl (.agg #[(.slice xa45 q.1.length xc46), (.slice xa49 q.2.length xc50)]) (fun w52 hCw52 => pureAt_of (ex_load rfl (loadN (cs := [(.slice xa45 q.1.length xc46), (.slice xa49 q.2.length xc50)]) Try.underlying36 rfl (size_36) (range2 (St.fz (St.tells S38 hCw52) c44) (St.fz (St.tells S38 hCw52) c48))))) ?_
     simp only [pS, pN, pA, pC, pZ]
     refine gw_pure rfl rfl (.agg #[(.slice xa23 p.1.length xc24), (.slice xa27 p.2.length xc28)]) (fun w52 hCw52 => pureAt_of (ex_load rfl (loadN (cs := [(.slice xa23 p.1.length xc24), (.slice xa27 p.2.length xc28)]) Try.underlying36 rfl (size_36) (St.range (St.tells S38 hCw52) (i := 0) rfl 0 [(.slice xa23 p.1.length xc24), (.slice xa27 p.2.length xc28)] (sub_range 0 rfl))))) ?_
     simp only [pS, pN, pA, pC, pZ]
     refine gw_nil ?_
     intro w53 hC55 hF56
     clear hF56
     have S54 := St.tells S38 hC55
     simp only [List.drop_succ_cons, List.drop_zero]
     refine stTells (v := (.int .i64 (cmpL q.1 p.1))) S54 rfl (ex_fn (vs := #[(.agg #[(.slice xa45 q.1.length xc46), (.slice xa49 q.2.length xc50)]), (.agg #[(.slice xa23 p.1.length xc24), (.slice xa27 p.2.length xc28)])]) (map2 rfl rfl) rfl (ent_31 _ _)) (compare_spec _ _ _ _ q p (S54).sat ⟨_, _, _, _, rfl, r47, r51⟩ ⟨_, _, _, _, rfl, r25, r29⟩) (fun w57 S58 => ?_)
     simp only [pS, pN, pA, pC, pZ]
     by_cases hc31 : (0 : Int) ≤ (cmpL q.1 p.1)
     ·refine do_ rfl (.bool true) (ex_geq (m := (cmpL q.1 p.1)) (n := (0 : Int)) (b := true) rfl rfl (decide_eq_true (by omega))) ?_
      simp only [pS, pN, pA, pC, pZ]
      refine do_ rfl (.bool true) (ex_pick (b := true) rfl) ?_
      simp only [pS, pN, pA, pC, pZ]
      refine wl_nil (hK40 _ _ ?_)
      refine wp_cond_true rfl ?_
      refine wp_seq_k (fun K59 hK59 => region_wl ?_)
      refine do_ rfl (.int .i64 3) (ex_assign _) ?_
      simp only [pS, pN, pA, pC, pZ]
      refine wl_nil (hK59 _ _ ?_)
      refine wp_ret ?_
      (try simp only [Exit.then, Exit.inBlock, ↓reduceIte, Nat.reduceEqDiff])
      refine bodyPost_ret (v := (.int .i64 3)) ?_ rfl ?_
      ·exact res_t rfl rfl
      ·exact ⟨by unfold treeE; rw [if_neg (by omega), hT, treeAt_at hp, if_neg (by omega), if_pos ⟨h0, by rw [hqd]; exact hc31⟩], S58.gr.below⟩
     ·refine do_ rfl (.bool false) (ex_geq (m := (cmpL q.1 p.1)) (n := (0 : Int)) (b := false) rfl rfl (decide_eq_false (by omega))) ?_
      simp only [pS, pN, pA, pC, pZ]
      refine do_ rfl (.bool false) (ex_pick (b := true) rfl) ?_
      simp only [pS, pN, pA, pC, pZ]
      refine wl_nil (hK40 _ _ ?_)
      refine wp_cond_false rfl ?_
      refine wp_skip ?_
      refine hK17 _ _ ?_
      refine region_wl ?_
      refine do_ rfl (.int .i64 (((k + 1) : Nat) : Int)) (ex_add (m := ((k : Nat) : Int)) (n := (1 : Int)) (r := (((k + 1) : Nat) : Int)) rfl rfl (by omega) (by omega) (by omega)) ?_
      simp only [pS, pN, pA, pC, pZ]
      refine do_ rfl (.int .i64 (((k + 1) : Nat) : Int)) (ex_move _) ?_
      simp only [pS, pN, pA, pC, pZ]
      refine wl_nil ?_
      have S58 := St.drop S58 (L' := []) (.cons _ (List.Sublist.refl _))
      exact hK14 _ _ _ (by omega) ⟨(k + 1), _, rfl, rfl, rfl, S58, (by omega), (by rw [hT, treeAt_at hp, if_neg (by omega), if_neg (fun h => hc31 (by have := h.2; rw [hqd] at this; exact this))])⟩
    ·refine region_gw F 9 [] (by kernel_rfl) (by kernel_rfl) ?_
     simp only [List.take_succ_cons, List.take_zero]
     refine gw_pure rfl rfl (.int .i64 ((k : Nat) : Int)) (fun w60 hCw60 => pureAt_of (ex_move _)) ?_
     simp only [pS, pN, pA, pC, pZ]
     refine gw_pure rfl rfl (.bool false) (fun w60 hCw60 => pureAt_of (ex_gtr (m := ((k : Nat) : Int)) (n := (0 : Int)) (b := false) rfl rfl (decide_eq_false (by omega)))) ?_
     simp only [pS, pN, pA, pC, pZ]
     refine gw_pure rfl rfl (.bool false) (fun w60 hCw60 => pureAt_of (ex_move _)) ?_
     simp only [pS, pN, pA, pC, pZ]
     refine gw_skip (wanted_no rfl rfl rfl (c := false) rfl (by decide)) ?_
     simp only [pS, pN, pA, pC, pZ]
     refine gw_skip (wanted_no rfl rfl rfl (c := false) rfl (by decide)) ?_
     simp only [pS, pN, pA, pC, pZ]
     refine gw_skip (wanted_no rfl rfl rfl (c := false) rfl (by decide)) ?_
     simp only [pS, pN, pA, pC, pZ]
     refine gw_skip (wanted_no rfl rfl rfl (c := false) rfl (by decide)) ?_
     simp only [pS, pN, pA, pC, pZ]
     refine gw_skip (wanted_no rfl rfl rfl (c := false) rfl (by decide)) ?_
     simp only [pS, pN, pA, pC, pZ]
     refine gw_skip (wanted_no rfl rfl rfl (c := false) rfl (by decide)) ?_
     simp only [pS, pN, pA, pC, pZ]
     refine gw_nil ?_
     intro w61 hC63 hF64
     clear hF64
     have S62 := St.tells S38 hC63
     simp only [List.drop_succ_cons, List.drop_zero]
     refine doN (wanted_no rfl rfl rfl (c := false) rfl (by decide)) ?_
     simp only [pS, pN, pA, pC, pZ]
     refine doN (wanted_no rfl rfl rfl (c := false) rfl (by decide)) ?_
     simp only [pS, pN, pA, pC, pZ]
     refine do_ rfl (.bool false) (ex_pick (b := false) rfl) ?_
     simp only [pS, pN, pA, pC, pZ]
     refine wl_nil (hK40 _ _ ?_)
     refine wp_cond_false rfl ?_
     refine wp_skip ?_
     refine hK17 _ _ ?_
     refine region_wl ?_
     refine do_ rfl (.int .i64 (((k + 1) : Nat) : Int)) (ex_add (m := ((k : Nat) : Int)) (n := (1 : Int)) (r := (((k + 1) : Nat) : Int)) rfl rfl (by omega) (by omega) (by omega)) ?_
     simp only [pS, pN, pA, pC, pZ]
     refine do_ rfl (.int .i64 (((k + 1) : Nat) : Int)) (ex_move _) ?_
     simp only [pS, pN, pA, pC, pZ]
     refine wl_nil ?_
     have S62 := St.drop S62 (L' := []) (.cons _ (List.Sublist.refl _))
     exact hK14 _ _ _ (by omega) ⟨(k + 1), _, rfl, rfl, rfl, S62, (by omega), (by rw [hT, treeAt_at hp, if_neg (by omega), if_neg (fun h => h0 h.1)])⟩
   ·refine do_ rfl (.bool true) (ex_neq (m := (pairE p)) (n := (0 : Int)) (b := true) rfl rfl (bne_iff_ne.2 (by omega))) ?_
    simp only [pS, pN, pA, pC, pZ]
    refine wl_nil (hK39 _ _ ?_)
    refine wp_cond_true rfl ?_
    refine wp_seq_k (fun K65 hK65 => region_wl ?_)
    refine do_ rfl (.int .i64 (pairE p)) (ex_move _) ?_
    simp only [pS, pN, pA, pC, pZ]
    refine do_ rfl (.int .i64 (pairE p)) (ex_assign _) ?_
    simp only [pS, pN, pA, pC, pZ]
    refine wl_nil (hK65 _ _ ?_)
    refine wp_ret ?_
    (try simp only [Exit.then, Exit.inBlock, ↓reduceIte, Nat.reduceEqDiff])
    refine bodyPost_ret (v := (.int .i64 (pairE p))) ?_ rfl ?_
    ·exact res_t rfl rfl
    ·exact ⟨by unfold treeE; rw [if_neg (by omega), hT, treeAt_at hp, if_pos hc19], S38.gr.below⟩
  ·refine do_ rfl (.bool false) (ex_lss (m := ((k : Nat) : Int)) (n := ((l.length : Nat) : Int)) (b := false) rfl rfl (decide_eq_false (by omega))) ?_
   simp only [pS, pN, pA, pC, pZ]
   refine wl_nil (hK15 _ _ ?_)
   refine wp_seq_k (fun K66 hK66 => ?_)
   refine wp_cond_false rfl ?_
   refine wp_exit ?_
   refine hK5 _ _ ?_
   refine wp_seq_k (fun K67 hK67 => region_wl ?_)
   refine do_ rfl (.int .i64 0) (ex_assign _) ?_
   simp only [pS, pN, pA, pC, pZ]
   refine wl_nil (hK67 _ _ ?_)
   refine wp_ret ?_
   (try simp only [Exit.then, Exit.inBlock, ↓reduceIte, Nat.reduceEqDiff])
   refine bodyPost_ret (v := (.int .i64 0)) ?_ rfl ?_
   ·exact res_t rfl rfl
   ·exact ⟨by unfold treeE; rw [if_neg (by omega), hT, treeAt_end (by omega)], S12.gr.below⟩
end Go.Proofs.Ytlimmmidfhpakaa
namespace Go.Proofs.Ytlimmmidfhpakaa
open Go.RowKit
set_option maxRecDepth 100000
set_option linter.unusedVariables false
set_option linter.unusedSimpArgs false
theorem conv_iu (z : Nat) (h : z < 9223372036854775808) (w : World) : (convert 3 95 (.int .i64 (z : Int))).run Try.prog w = .ok (.int .u64 (z : Int)) w := by
  have e : IntKind.u64.wrap (z : Int) = (z : Int) := by
    rw [show IntKind.u64.wrap (z : Int) = (z : Int) % 18446744073709551616 from rfl]; omega
  go_simp
theorem conv_ui (z : Nat) (h : z < 9223372036854775808) (w : World) : (convert 95 3 (.int .u64 (z : Int))).run Try.prog w = .ok (.int .i64 (z : Int)) w := by
  have e : IntKind.i64.wrap (z : Int) = (z : Int) := wrap64_in (by omega) (by omega)
  go_simp
theorem shr1_u (z : Nat) (w : World) (X : TypeId) : (binOp .shr X (.int .u64 (z : Int)) (.int .u64 1)).run Try.prog w = .ok (.int .u64 ((z / 2 : Nat) : Int)) w := by
  have e : ((z / 2 : Nat) : Int) = (z : Int) / 2 := by omega
  rw [e]
  go_simp
theorem ex_shr {P : Program} {ρ : Operand → Value} {w : World} {d : Option Tmp} {t X Y : TypeId} {pos : String} {after : Array Edge} {guard : Option (Nat × Bool)} {x y : Operand} {k k' : IntKind} {m n : Int} {v : Value} {op : BinOp} (hop : op = .shr ∨ op = .shl) (hx : ρ x = .int k m) (hy : ρ y = .int k' n) (h : (binOp op X (.int k m) (.int k' n)).run P w = .ok v w) : (execOp ρ ⟨d, .binOp op X x y Y, t, pos, after, guard⟩).run P w = .ok (.value v) w := by
  have e : (eqGuard op X x y (.int k m) (.int k' n)).run P w = .ok () w := by
    unfold eqGuard
    rcases hop with rfl | rfl <;> rfl
  simp only [execOp, hx, hy, Sem.run_bind, e, Result.andThen_ok, h, Sem.run_pure]
theorem pos_gt {α : Type} {l : List (By × α)} (hr : Rise l) {h : Nat} {p : By × α} {k : By} (hp : l[h]? = some p) (hlt : cmpL p.1 k < 0) : h + 1 ≤ posT l k := by
  obtain ⟨hh, rfl⟩ := List.getElem?_eq_some_iff.1 hp
  rcases Nat.lt_or_ge h (posT l k) with h1 | h1
  · exact h1
  · exact absurd (cmpL_lt.1 hlt) (posBy_ge hr h1 hh)
theorem pos_le {α : Type} {l : List (By × α)} {h : Nat} {p : By × α} {k : By} (hp : l[h]? = some p) (hge : ¬ cmpL p.1 k < 0) : posT l k ≤ h := by
  obtain ⟨hh, rfl⟩ := List.getElem?_eq_some_iff.1 hp
  rcases Nat.lt_or_ge h (posT l k) with h1 | h1
  · exact absurd (cmpL_lt.2 (posBy_lt (f := (·.1)) h1 hh)) hge
  · exact h1
theorem has_yes {α : Type} {l : List (By × α)} (hr : Rise l) {p : By × α} {k : By} (hp : l[posT l k]? = some p) (h : cmpL p.1 k = 0) : hasT l k = true := by
  obtain ⟨hh, rfl⟩ := List.getElem?_eq_some_iff.1 hp
  exact (hasBy_at hr).2 ⟨hh, cmpL_eq.1 h⟩
theorem has_no {α : Type} {l : List (By × α)} (hr : Rise l) {p : By × α} {k : By} (hp : l[posT l k]? = some p) (h : ¬ cmpL p.1 k = 0) : hasT l k = false := by
  obtain ⟨hh, rfl⟩ := List.getElem?_eq_some_iff.1 hp
  cases e : hasT l k with
  | false => rfl
  | true => obtain ⟨_, h2⟩ := (hasBy_at hr).1 e; exact absurd (cmpL_eq.2 h2) h
theorem has_end {α : Type} {l : List (By × α)} (hr : Rise l) {k : By} (h : ¬ posT l k < l.length) : hasT l k = false := by
  cases e : hasT l k with
  | false => rfl
  | true => obtain ⟨h1, _⟩ := (hasBy_at hr).1 e; exact absurd h1 h
set_option maxHeartbeats 8000000 in
theorem bsearch_spec (F : Fz) (w : World) (v u : Value) (l : List Pr) (q : Pr) (hs : Sat w F) (hv : Prs F v l) (hu : Pr2V F u q) (hr : Rise l) (hl : l.length ≤ 1000000) :
    Calls Try.prog 42 #[v, u, .func (.func 31) #[] #[]] w (Tells w (.tuple #[.int .i64 (posT l q.1 : Nat), .bool (hasT l q.1)])) := by
 obtain ⟨a, c, rfl, hc1, hc2⟩ := Sl.shape hv
 obtain ⟨x0q, y0q, x1q, y1q, rfl, k0, k1⟩ := hu
 unfold maxLen at hc2
 have S := St.start hs
 go_enter Try.func42, Try.ntmps42
 refine wp_seq_k (fun K1 hK1 => region_wl ?_)
 refine stNew S (v := fun n => .pointer (some ⟨n, 0, none⟩)) rfl (ex_box (v := (.agg #[(.slice x0q q.1.length y0q), (.slice x1q q.2.length y1q)])) rfl) (fun n2 w3 S4 => ?_)
 simp only [pS, pN, pA, pC, pZ]
 have S4 : St w F w3 F [⟨n2, [(.slice x0q q.1.length y0q), (.slice x1q q.2.length y1q)], 36⟩] [] := S4
 refine do_ rfl (.int .i64 0) (ex_assign _) ?_
 simp only [pS, pN, pA, pC, pZ]
 refine do_ rfl (.bool false) (ex_assign _) ?_
 simp only [pS, pN, pA, pC, pZ]
 refine wl_nil (hK1 _ _ ?_)
 refine wp_seq_k (fun K5 hK5 => region_wl ?_)
 refine do_ rfl (.slice a l.length c) (ex_move _) ?_
 simp only [pS, pN, pA, pC, pZ]
 refine do_ rfl (.int .i64 ((l.length : Nat) : Int)) (ex_len Try.underlying23 rfl) ?_
 simp only [pS, pN, pA, pC, pZ]
 refine do_ rfl (.int .i64 ((l.length : Nat) : Int)) (ex_assign _) ?_
 simp only [pS, pN, pA, pC, pZ]
 refine wl_nil (hK5 _ _ ?_)
 refine wp_seq_k (fun K6 hK6 => region_wl ?_)
 refine do_ rfl (.int .i64 ((l.length : Nat) : Int)) (ex_move _) ?_
 simp only [pS, pN, pA, pC, pZ]
 refine do_ rfl (.int .i64 0) (ex_assign _) ?_
 simp only [pS, pN, pA, pC, pZ]
 refine do_ rfl (.int .i64 ((l.length : Nat) : Int)) (ex_assign _) ?_
 simp only [pS, pN, pA, pC, pZ]
 refine wl_nil (hK6 _ _ ?_)
 refine wp_seq_k (fun K7 hK7 => ?_)
 refine wp_block ?_
 refine wp_loop_g (fun mm aa w9 => ∃ (i : Nat) (j : Nat) (u8 : Nat → Value), mm = j - i ∧ u8 = slots aa ∧ aa = ⟨#[(.slice a l.length c), (.agg #[(.slice x0q q.1.length y0q), (.slice x1q q.2.length y1q)]), (.func (.func 31) #[] #[]), undef, (.pointer (some ⟨n2, 0, none⟩)), undef, (.int .i64 0), (.bool false), (.int .i64 ((l.length : Nat) : Int)), (.int .i64 ((i : Nat) : Int)), (.int .i64 ((j : Nat) : Int)), (u8 11), (.slice a l.length c), (.int .i64 ((l.length : Nat) : Int)), (.int .i64 ((l.length : Nat) : Int)), (u8 15), (u8 16), (u8 17), (u8 18), (u8 19), (u8 20), (u8 21), (u8 22), (u8 23), (u8 24), (u8 25), (u8 26), (u8 27), (u8 28), (u8 29), (u8 30), (u8 31), (u8 32), (u8 33), (u8 34), undef, undef, undef, undef, undef, undef, undef, undef, undef, undef, undef, undef, undef, undef], []⟩ ∧ St w F w9 F [⟨n2, [(.slice x0q q.1.length y0q), (.slice x1q q.2.length y1q)], 36⟩] [] ∧ (i ≤ j) ∧ (j ≤ l.length) ∧ (i ≤ posT l q.1) ∧ (posT l q.1 ≤ j)) _ ⟨0, l.length, _, rfl, rfl, rfl, S4, (by omega), (by omega), (by omega), (posBy_le _ _ _)⟩ ?_
 rintro m10 a11 w12 ⟨i, j, u8, rfl, -, rfl, S13, hij, hj, hip, hjp⟩ K15 hK15
 refine wp_seq_k (fun K16 hK16 => ?_)
 refine wp_seq_k (fun K17 hK17 => region_wl ?_)
 refine do_ rfl (.int .i64 ((i : Nat) : Int)) (ex_move _) ?_
 simp only [pS, pN, pA, pC, pZ]
 refine do_ rfl (.int .i64 ((j : Nat) : Int)) (ex_move _) ?_
 simp only [pS, pN, pA, pC, pZ]
 by_cases hc17 : i < j
 ·refine do_ rfl (.bool true) (ex_lss (m := ((i : Nat) : Int)) (n := ((j : Nat) : Int)) (b := true) rfl rfl (decide_eq_true (by omega))) ?_
  simp only [pS, pN, pA, pC, pZ]
  refine wl_nil (hK17 _ _ ?_)
  refine wp_cond_true rfl ?_
  refine wp_skip ?_
  refine hK16 _ _ ?_
  refine wp_block ?_
  refine wp_seq_k (fun K18 hK18 => region_wl ?_)
  refine do_ rfl (.int .i64 ((i : Nat) : Int)) (ex_move _) ?_
  simp only [pS, pN, pA, pC, pZ]
  refine do_ rfl (.int .i64 ((j : Nat) : Int)) (ex_move _) ?_
  simp only [pS, pN, pA, pC, pZ]
  refine do_ rfl (.int .i64 (((i + j) : Nat) : Int)) (ex_add (m := ((i : Nat) : Int)) (n := ((j : Nat) : Int)) (r := (((i + j) : Nat) : Int)) rfl rfl (by omega) (by omega) (by omega)) ?_
  simp only [pS, pN, pA, pC, pZ]
  refine do_ rfl (.int .u64 (((i + j) : Nat) : Int)) (ex_convert (v := (.int .i64 (((i + j) : Nat) : Int))) rfl (conv_iu (i + j) (by omega) _)) ?_
  simp only [pS, pN, pA, pC, pZ]
  refine do_ rfl (.int .u64 (((i + j) / 2 : Nat) : Int)) (ex_shr (.inl rfl) rfl rfl (shr1_u (i + j) _ _)) ?_
  simp only [pS, pN, pA, pC, pZ]
  refine do_ rfl (.int .i64 (((i + j) / 2 : Nat) : Int)) (ex_convert (v := (.int .u64 (((i + j) / 2 : Nat) : Int))) rfl (conv_ui ((i + j) / 2) (by omega) _)) ?_
  simp only [pS, pN, pA, pC, pZ]
  refine do_ rfl (.int .i64 (((i + j) / 2 : Nat) : Int)) (ex_assign _) ?_
  simp only [pS, pN, pA, pC, pZ]
  refine wl_nil (hK18 _ _ ?_)
  refine wp_seq_k (fun K19 hK19 => ?_)
  obtain ⟨p, hp⟩ : ∃ p, l[(i + j) / 2]? = some p := ⟨l[(i + j) / 2], List.getElem?_eq_getElem (by omega)⟩
  obtain ⟨b20, o21, ha22, xa24, xc25, xa28, xc29, c23, c27, r26, r30⟩ := Prs.get hv hp
  refine region_gw F 6 [] (by kernel_rfl) (by kernel_rfl) ?_
  simp only [List.take_succ_cons, List.take_zero]
  refine gw_pure rfl rfl (.func (.func 31) #[] #[]) (fun w31 hCw31 => pureAt_of (ex_move _)) ?_
  simp only [pS, pN, pA, pC, pZ]
  refine gw_pure rfl rfl (.slice a l.length c) (fun w31 hCw31 => pureAt_of (ex_move _)) ?_
  simp only [pS, pN, pA, pC, pZ]
  refine gw_pure rfl rfl (.int .i64 (((i + j) / 2 : Nat) : Int)) (fun w31 hCw31 => pureAt_of (ex_move _)) ?_
  simp only [pS, pN, pA, pC, pZ]
  refine gw_pure rfl rfl (.pointer (some ⟨b20, o21 + ((i + j) / 2) * 2, none⟩)) (fun w31 hCw31 => pureAt_of (ex_at (i := (i + j) / 2) (sz := 2) Try.underlying23 (sizeof_36 _) rfl ha22 rfl (by omega) rfl)) ?_
  simp only [pS, pN, pA, pC, pZ]
  refine gw_pure rfl rfl (.agg #[(.slice xa24 p.1.length xc25), (.slice xa28 p.2.length xc29)]) (fun w31 hCw31 => pureAt_of (ex_load rfl (loadN (cs := [(.slice xa24 p.1.length xc25), (.slice xa28 p.2.length xc29)]) Try.underlying36 rfl (size_36) (range2 (St.fz (St.tells S13 hCw31) c23) (St.fz (St.tells S13 hCw31) c27))))) ?_
  simp only [pS, pN, pA, pC, pZ]
  refine gw_pure rfl rfl (.agg #[(.slice x0q q.1.length y0q), (.slice x1q q.2.length y1q)]) (fun w31 hCw31 => pureAt_of (ex_load rfl (loadN (cs := [(.slice x0q q.1.length y0q), (.slice x1q q.2.length y1q)]) Try.underlying36 rfl (size_36) (St.range (St.tells S13 hCw31) (i := 0) rfl 0 [(.slice x0q q.1.length y0q), (.slice x1q q.2.length y1q)] (sub_range 0 rfl))))) ?_
  simp only [pS, pN, pA, pC, pZ]
  refine gw_nil ?_
  intro w32 hC34 hF35
  clear hF35
  have S33 := St.tells S13 hC34
  simp only [List.drop_succ_cons, List.drop_zero]
  refine stTells (v := (.int .i64 (cmpL p.1 q.1))) S33 rfl (ex_fv (fs := #[]) (cs := #[]) (vs := #[(.agg #[(.slice xa24 p.1.length xc25), (.slice xa28 p.2.length xc29)]), (.agg #[(.slice x0q q.1.length y0q), (.slice x1q q.2.length y1q)])]) rfl (vmap (fs := #[]) (cs := #[]) (xs := #[(.agg #[(.slice xa24 p.1.length xc25), (.slice xa28 p.2.length xc29)]), (.agg #[(.slice x0q q.1.length y0q), (.slice x1q q.2.length y1q)])]) (map2 rfl rfl) (by simp)) (ent_31 _ _)) (compare_spec _ _ _ _ p q (S33).sat ⟨_, _, _, _, rfl, r26, r30⟩ ⟨_, _, _, _, rfl, k0, k1⟩) (fun w36 S37 => ?_)
  simp only [pS, pN, pA, pC, pZ]
  by_cases hc31 : (cmpL p.1 q.1) < (0 : Int)
  ·refine do_ rfl (.bool true) (ex_lss (m := (cmpL p.1 q.1)) (n := (0 : Int)) (b := true) rfl rfl (decide_eq_true (by omega))) ?_
   simp only [pS, pN, pA, pC, pZ]
   refine wl_nil (hK19 _ _ ?_)
   refine wp_cond_true rfl ?_
   refine region_wl ?_
   refine do_ rfl (.int .i64 (((i + j) / 2 : Nat) : Int)) (ex_move _) ?_
   simp only [pS, pN, pA, pC, pZ]
   refine do_ rfl (.int .i64 ((((i + j) / 2 + 1) : Nat) : Int)) (ex_add (m := (((i + j) / 2 : Nat) : Int)) (n := (1 : Int)) (r := ((((i + j) / 2 + 1) : Nat) : Int)) rfl rfl (by omega) (by omega) (by omega)) ?_
   simp only [pS, pN, pA, pC, pZ]
   refine do_ rfl (.int .i64 ((((i + j) / 2 + 1) : Nat) : Int)) (ex_assign _) ?_
   simp only [pS, pN, pA, pC, pZ]
   refine wl_nil ?_
   exact hK15 _ _ _ (by omega) ⟨((i + j) / 2 + 1), j, _, rfl, rfl, rfl, S37, (by have := pos_gt hr hp hc31; omega), (by omega), (pos_gt hr hp hc31), (by omega)⟩
  ·refine do_ rfl (.bool false) (ex_lss (m := (cmpL p.1 q.1)) (n := (0 : Int)) (b := false) rfl rfl (decide_eq_false (by omega))) ?_
   simp only [pS, pN, pA, pC, pZ]
   refine wl_nil (hK19 _ _ ?_)
   refine wp_cond_false rfl ?_
   refine region_wl ?_
   refine do_ rfl (.int .i64 (((i + j) / 2 : Nat) : Int)) (ex_move _) ?_
   simp only [pS, pN, pA, pC, pZ]
   refine do_ rfl (.int .i64 (((i + j) / 2 : Nat) : Int)) (ex_assign _) ?_
   simp only [pS, pN, pA, pC, pZ]
   refine wl_nil ?_
   exact hK15 _ _ _ (by omega) ⟨i, (i + j) / 2, _, rfl, rfl, rfl, S37, (by omega), (by omega), (by omega), (pos_le hp hc31)⟩
 ·refine do_ rfl (.bool false) (ex_lss (m := ((i : Nat) : Int)) (n := ((j : Nat) : Int)) (b := false) rfl rfl (decide_eq_false (by omega))) ?_
  simp only [pS, pN, pA, pC, pZ]
  refine wl_nil (hK17 _ _ ?_)
  refine wp_cond_false rfl ?_
  refine wp_exit ?_
  refine hK7 _ _ ?_
  refine wp_seq_k (fun K38 hK38 => ?_)
  by_cases h0 : i < l.length
  ·have hip2 : posT l q.1 = i := by omega
   obtain ⟨p, hp⟩ : ∃ p, l[i]? = some p := ⟨l[i], List.getElem?_eq_getElem h0⟩
   obtain ⟨b39, o40, ha41, xa43, xc44, xa47, xc48, c42, c46, r45, r49⟩ := Prs.get hv hp
   by_cases hc47 : cmpL p.1 q.1 = 0
   ·refine region_gw F 15 [(11, .is (.int .i64 (cmpL p.1 q.1)))] (by kernel_rfl) (by kernel_rfl) ?_
    simp only [List.take_succ_cons, List.take_zero]
    refine gw_pure rfl rfl (.int .i64 ((i : Nat) : Int)) (fun w50 hCw50 => pureAt_of (ex_move _)) ?_
    simp only [pS, pN, pA, pC, pZ]
    refine gw_pure rfl rfl (.int .i64 ((i : Nat) : Int)) (fun w50 hCw50 => pureAt_of (ex_move _)) ?_
    simp only [pS, pN, pA, pC, pZ]
    refine gw_pure rfl rfl (.int .i64 ((l.length : Nat) : Int)) (fun w50 hCw50 => pureAt_of (ex_move _)) ?_
    simp only [pS, pN, pA, pC, pZ]
    refine gw_pure rfl rfl (.bool true) (fun w50 hCw50 => pureAt_of (ex_lss (m := ((i : Nat) : Int)) (n := ((l.length : Nat) : Int)) (b := true) rfl rfl (decide_eq_true (by omega)))) ?_
    simp only [pS, pN, pA, pC, pZ]
    refine gw_pure rfl rfl (.bool true) (fun w50 hCw50 => pureAt_of (ex_move _)) ?_
    simp only [pS, pN, pA, pC, pZ]
    refine gw_pure rfl rfl (.func (.func 31) #[] #[]) (fun w50 hCw50 => pureAt_of (ex_move _)) ?_
    simp only [pS, pN, pA, pC, pZ]
    refine gw_pure rfl rfl (.slice a l.length c) (fun w50 hCw50 => pureAt_of (ex_move _)) ?_
    simp only [pS, pN, pA, pC, pZ]
    refine gw_pure rfl rfl (.int .i64 ((i : Nat) : Int)) (fun w50 hCw50 => pureAt_of (ex_move _)) ?_
    simp only [pS, pN, pA, pC, pZ]
    refine gw_pure rfl rfl (.pointer (some ⟨b39, o40 + i * 2, none⟩)) (fun w50 hCw50 => pureAt_of (ex_at (i := i) (sz := 2) Try.underlying23 (sizeof_36 _) rfl ha41 rfl (by omega) rfl)) ?_
    simp only [pS, pN, pA, pC, pZ]
    refine gw_pure rfl rfl (.agg #[(.slice xa43 p.1.length xc44), (.slice xa47 p.2.length xc48)]) (fun w50 hCw50 => pureAt_of (ex_load rfl (loadN (cs := [(.slice xa43 p.1.length xc44), (.slice xa47 p.2.length xc48)]) Try.underlying36 rfl (size_36) (range2 (St.fz (St.tells S13 hCw50) c42) (St.fz (St.tells S13 hCw50) c46))))) ?_
    simp only [pS, pN, pA, pC, pZ]
    refine gw_pure rfl rfl (.agg #[(.slice x0q q.1.length y0q), (.slice x1q q.2.length y1q)]) (fun w50 hCw50 => pureAt_of (ex_load rfl (loadN (cs := [(.slice x0q q.1.length y0q), (.slice x1q q.2.length y1q)]) Try.underlying36 rfl (size_36) (St.range (St.tells S13 hCw50) (i := 0) rfl 0 [(.slice x0q q.1.length y0q), (.slice x1q q.2.length y1q)] (sub_range 0 rfl))))) ?_
    simp only [pS, pN, pA, pC, pZ]
    refine gw_const rfl rfl (v := (.int .i64 (cmpL p.1 q.1))) (fun w50 hCw50 _ => does_call (ex_fv (fs := #[]) (cs := #[]) (vs := #[(.agg #[(.slice xa43 p.1.length xc44), (.slice xa47 p.2.length xc48)]), (.agg #[(.slice x0q q.1.length y0q), (.slice x1q q.2.length y1q)])]) rfl (vmap (fs := #[]) (cs := #[]) (xs := #[(.agg #[(.slice xa43 p.1.length xc44), (.slice xa47 p.2.length xc48)]), (.agg #[(.slice x0q q.1.length y0q), (.slice x1q q.2.length y1q)])]) (map2 rfl rfl) (by simp)) (ent_31 _ _)) (call_tells (compare_spec _ _ _ _ p q ((St.tells S13 hCw50)).sat ⟨_, _, _, _, rfl, r45, r49⟩ ⟨_, _, _, _, rfl, k0, k1⟩))) ?_
    simp only [pS, pN, pA, pC, pZ]
    refine gw_pure rfl rfl (.bool true) (fun w50 hCw50 => pureAt_of (ex_eql (m := (cmpL p.1 q.1)) (n := (0 : Int)) (b := true) rfl rfl (beq_iff_eq.2 (by omega)))) ?_
    simp only [pS, pN, pA, pC, pZ]
    refine gw_pure rfl rfl (.bool true) (fun w50 hCw50 => pureAt_of (ex_pick (b := true) rfl)) ?_
    simp only [pS, pN, pA, pC, pZ]
    refine gw_pure rfl rfl (.int .i64 ((i : Nat) : Int)) (fun w50 hCw50 => pureAt_of (ex_assign _)) ?_
    simp only [pS, pN, pA, pC, pZ]
    refine gw_nil ?_
    intro w51 hC53 hF54
    clear hF54
    have S52 := St.tells S13 hC53
    simp only [List.drop_succ_cons, List.drop_zero]
    refine do_ rfl (.bool true) (ex_assign _) ?_
    simp only [pS, pN, pA, pC, pZ]
    refine wl_nil (hK38 _ _ ?_)
    refine wp_ret ?_
    (try simp only [Exit.then, Exit.inBlock, ↓reduceIte, Nat.reduceEqDiff])
    refine bodyPost_ret (v := (.tuple #[(.int .i64 ((i : Nat) : Int)), (.bool true)])) ?_ rfl ?_
    ·exact res_tt rfl rfl rfl
    ·have e2 := has_yes hr (by rw [hip2]; exact hp) hc47
     exact ⟨by rw [e2, hip2], S52.gr.below⟩
   ·refine region_gw F 15 [(11, .is (.int .i64 (cmpL p.1 q.1)))] (by kernel_rfl) (by kernel_rfl) ?_
    simp only [List.take_succ_cons, List.take_zero]
    refine gw_pure rfl rfl (.int .i64 ((i : Nat) : Int)) (fun w55 hCw55 => pureAt_of (ex_move _)) ?_
    simp only [pS, pN, pA, pC, pZ]
    refine gw_pure rfl rfl (.int .i64 ((i : Nat) : Int)) (fun w55 hCw55 => pureAt_of (ex_move _)) ?_
    simp only [pS, pN, pA, pC, pZ]
    refine gw_pure rfl rfl (.int .i64 ((l.length : Nat) : Int)) (fun w55 hCw55 => pureAt_of (ex_move _)) ?_
    simp only [pS, pN, pA, pC, pZ]
    refine gw_pure rfl rfl (.bool true) (fun w55 hCw55 => pureAt_of (ex_lss (m := ((i : Nat) : Int)) (n := ((l.length : Nat) : Int)) (b := true) rfl rfl (decide_eq_true (by omega)))) ?_
    simp only [pS, pN, pA, pC, pZ]
    refine gw_pure rfl rfl (.bool true) (fun w55 hCw55 => pureAt_of (ex_move _)) ?_
    simp only [pS, pN, pA, pC, pZ]
    refine gw_pure rfl rfl (.func (.func 31) #[] #[]) (fun w55 hCw55 => pureAt_of (ex_move _)) ?_
    simp only [pS, pN, pA, pC, pZ]
    refine gw_pure rfl rfl (.slice a l.length c) (fun w55 hCw55 => pureAt_of (ex_move _)) ?_
    simp only [pS, pN, pA, pC, pZ]
    refine gw_pure rfl rfl (.int .i64 ((i : Nat) : Int)) (fun w55 hCw55 => pureAt_of (ex_move _)) ?_
    simp only [pS, pN, pA, pC, pZ]
    refine gw_pure rfl rfl (.pointer (some ⟨b39, o40 + i * 2, none⟩)) (fun w55 hCw55 => pureAt_of (ex_at (i := i) (sz := 2) Try.underlying23 (sizeof_36 _) rfl ha41 rfl (by omega) rfl)) ?_
    simp only [pS, pN, pA, pC, pZ]
    refine gw_pure rfl rfl (.agg #[(.slice xa43 p.1.length xc44), (.slice xa47 p.2.length xc48)]) (fun w55 hCw55 => pureAt_of (ex_load rfl (loadN (cs := [(.slice xa43 p.1.length xc44), (.slice xa47 p.2.length xc48)]) Try.underlying36 rfl (size_36) (range2 (St.fz (St.tells S13 hCw55) c42) (St.fz (St.tells S13 hCw55) c46))))) ?_
    simp only [pS, pN, pA, pC, pZ]
    refine gw_pure rfl rfl (.agg #[(.slice x0q q.1.length y0q), (.slice x1q q.2.length y1q)]) (fun w55 hCw55 => pureAt_of (ex_load rfl (loadN (cs := [(.slice x0q q.1.length y0q), (.slice x1q q.2.length y1q)]) Try.underlying36 rfl (size_36) (St.range (St.tells S13 hCw55) (i := 0) rfl 0 [(.slice x0q q.1.length y0q), (.slice x1q q.2.length y1q)] (sub_range 0 rfl))))) ?_
    simp only [pS, pN, pA, pC, pZ]
    refine gw_const rfl rfl (v := (.int .i64 (cmpL p.1 q.1))) (fun w55 hCw55 _ => does_call (ex_fv (fs := #[]) (cs := #[]) (vs := #[(.agg #[(.slice xa43 p.1.length xc44), (.slice xa47 p.2.length xc48)]), (.agg #[(.slice x0q q.1.length y0q), (.slice x1q q.2.length y1q)])]) rfl (vmap (fs := #[]) (cs := #[]) (xs := #[(.agg #[(.slice xa43 p.1.length xc44), (.slice xa47 p.2.length xc48)]), (.agg #[(.slice x0q q.1.length y0q), (.slice x1q q.2.length y1q)])]) (map2 rfl rfl) (by simp)) (ent_31 _ _)) (call_tells (compare_spec _ _ _ _ p q ((St.tells S13 hCw55)).sat ⟨_, _, _, _, rfl, r45, r49⟩ ⟨_, _, _, _, rfl, k0, k1⟩))) ?_
    simp only [pS, pN, pA, pC, pZ]
    refine gw_pure rfl rfl (.bool false) (fun w55 hCw55 => pureAt_of (ex_eql (m := (cmpL p.1 q.1)) (n := (0 : Int)) (b := false) rfl rfl (beq_eq_false_iff_ne.2 (by omega)))) ?_
    simp only [pS, pN, pA, pC, pZ]
    refine gw_pure rfl rfl (.bool false) (fun w55 hCw55 => pureAt_of (ex_pick (b := true) rfl)) ?_
    simp only [pS, pN, pA, pC, pZ]
    refine gw_pure rfl rfl (.int .i64 ((i : Nat) : Int)) (fun w55 hCw55 => pureAt_of (ex_assign _)) ?_
    simp only [pS, pN, pA, pC, pZ]
    refine gw_nil ?_
    intro w56 hC58 hF59
    clear hF59
    have S57 := St.tells S13 hC58
    simp only [List.drop_succ_cons, List.drop_zero]
    refine do_ rfl (.bool false) (ex_assign _) ?_
    simp only [pS, pN, pA, pC, pZ]
    refine wl_nil (hK38 _ _ ?_)
    refine wp_ret ?_
    (try simp only [Exit.then, Exit.inBlock, ↓reduceIte, Nat.reduceEqDiff])
    refine bodyPost_ret (v := (.tuple #[(.int .i64 ((i : Nat) : Int)), (.bool false)])) ?_ rfl ?_
    ·exact res_tt rfl rfl rfl
    ·have e1 : posT l q.1 = i := by omega
     have e2 : hasT l q.1 = false := by first | exact has_no hr (by rw [e1]; assumption) (by assumption) | exact has_end hr (by omega)
     exact ⟨by rw [e2, e1], S57.gr.below⟩
  ·refine region_gw F 15 [] (by kernel_rfl) (by kernel_rfl) ?_
   simp only [List.take_succ_cons, List.take_zero]
   refine gw_pure rfl rfl (.int .i64 ((i : Nat) : Int)) (fun w60 hCw60 => pureAt_of (ex_move _)) ?_
   simp only [pS, pN, pA, pC, pZ]
   refine gw_pure rfl rfl (.int .i64 ((i : Nat) : Int)) (fun w60 hCw60 => pureAt_of (ex_move _)) ?_
   simp only [pS, pN, pA, pC, pZ]
   refine gw_pure rfl rfl (.int .i64 ((l.length : Nat) : Int)) (fun w60 hCw60 => pureAt_of (ex_move _)) ?_
   simp only [pS, pN, pA, pC, pZ]
   refine gw_pure rfl rfl (.bool false) (fun w60 hCw60 => pureAt_of (ex_lss (m := ((i : Nat) : Int)) (n := ((l.length : Nat) : Int)) (b := false) rfl rfl (decide_eq_false (by omega)))) ?_
   simp only [pS, pN, pA, pC, pZ]
   refine gw_pure rfl rfl (.bool false) (fun w60 hCw60 => pureAt_of (ex_move _)) ?_
   simp only [pS, pN, pA, pC, pZ]
   refine gw_skip (wanted_no rfl rfl rfl (c := false) rfl (by decide)) ?_
   simp only [pS, pN, pA, pC, pZ]
   refine gw_skip (wanted_no rfl rfl rfl (c := false) rfl (by decide)) ?_
   simp only [pS, pN, pA, pC, pZ]
   refine gw_skip (wanted_no rfl rfl rfl (c := false) rfl (by decide)) ?_
   simp only [pS, pN, pA, pC, pZ]
   refine gw_skip (wanted_no rfl rfl rfl (c := false) rfl (by decide)) ?_
   simp only [pS, pN, pA, pC, pZ]
   refine gw_skip (wanted_no rfl rfl rfl (c := false) rfl (by decide)) ?_
   simp only [pS, pN, pA, pC, pZ]
   refine gw_skip (wanted_no rfl rfl rfl (c := false) rfl (by decide)) ?_
   simp only [pS, pN, pA, pC, pZ]
   refine gw_skip (wanted_no rfl rfl rfl (c := false) rfl (by decide)) ?_
   simp only [pS, pN, pA, pC, pZ]
   refine gw_skip (wanted_no rfl rfl rfl (c := false) rfl (by decide)) ?_
   simp only [pS, pN, pA, pC, pZ]
   refine gw_pure rfl rfl (.bool false) (fun w60 hCw60 => pureAt_of (ex_pick (b := false) rfl)) ?_
   simp only [pS, pN, pA, pC, pZ]
   refine gw_pure rfl rfl (.int .i64 ((i : Nat) : Int)) (fun w60 hCw60 => pureAt_of (ex_assign _)) ?_
   simp only [pS, pN, pA, pC, pZ]
   refine gw_nil ?_
   intro w61 hC63 hF64
   clear hF64
   have S62 := St.tells S13 hC63
   simp only [List.drop_succ_cons, List.drop_zero]
   refine do_ rfl (.bool false) (ex_assign _) ?_
   simp only [pS, pN, pA, pC, pZ]
   refine wl_nil (hK38 _ _ ?_)
   refine wp_ret ?_
   (try simp only [Exit.then, Exit.inBlock, ↓reduceIte, Nat.reduceEqDiff])
   refine bodyPost_ret (v := (.tuple #[(.int .i64 ((i : Nat) : Int)), (.bool false)])) ?_ rfl ?_
   ·exact res_tt rfl rfl rfl
   ·have e1 : posT l q.1 = i := by omega
    have e2 : hasT l q.1 = false := by first | exact has_no hr (by rw [e1]; assumption) (by assumption) | exact has_end hr (by omega)
    exact ⟨by rw [e2, e1], S62.gr.below⟩
set_option maxHeartbeats 8000000 in
theorem find_spec (F : Fz) (w : World) (v u : Value) (l : List Pr) (k : By) (hs : Sat w F) (hv : Prs F v l) (hu : Bs F u k) (hr : Rise l) (hl : l.length ≤ 1000000) :
    Calls Try.prog 25 #[v, u] w (Tells w (.tuple #[.int .i64 (posT l k : Nat), .bool (hasT l k)])) := by
 obtain ⟨a, c, rfl, hc1, hc2⟩ := Sl.shape hv
 obtain ⟨a2, c2, rfl, _⟩ := hu.shape
 have S := St.start hs
 go_enter Try.func25, Try.ntmps25
 refine wp_seq_k (fun K1 hK1 => region_wl ?_)
 refine do_ rfl (.int .i64 0) (ex_assign _) ?_
 simp only [pS, pN, pA, pC, pZ]
 refine do_ rfl (.bool false) (ex_assign _) ?_
 simp only [pS, pN, pA, pC, pZ]
 refine wl_nil (hK1 _ _ ?_)
 refine wp_seq_k (fun K2 hK2 => region_wl ?_)
 refine do_ rfl (.slice a l.length c) (ex_move _) ?_
 simp only [pS, pN, pA, pC, pZ]
 refine do_ rfl (.slice a2 k.length c2) (ex_move _) ?_
 simp only [pS, pN, pA, pC, pZ]
 refine do_ rfl (.agg #[(.slice a2 k.length c2), (.slice none 0 0)]) (ex_build (ps := #[(0, (.slice a2 k.length c2))]) (bmap1 rfl) (by kernel_rfl)) ?_
 simp only [pS, pN, pA, pC, pZ]
 refine stTells (v := (.tuple #[(.int .i64 (((posT l k) : Nat) : Int)), (.bool (hasT l k))])) S rfl (ex_fn (vs := #[(.slice a l.length c), (.agg #[(.slice a2 k.length c2), (.slice none 0 0)]), (.func (.func 31) #[] #[])]) (map3 rfl rfl rfl) rfl (ent_42 _ _)) (bsearch_spec _ _ _ _ l (k, []) (S).sat hv ⟨_, _, _, _, rfl, hu, Bs.nil _⟩ hr (by omega)) (fun w3 S4 => ?_)
 simp only [pS, pN, pA, pC, pZ]
 refine do_ rfl (.int .i64 (((posT l k) : Nat) : Int)) (ex_extract rfl rfl) ?_
 simp only [pS, pN, pA, pC, pZ]
 refine do_ rfl (.bool (hasT l k)) (ex_extract rfl rfl) ?_
 simp only [pS, pN, pA, pC, pZ]
 refine do_ rfl (.int .i64 (((posT l k) : Nat) : Int)) (ex_assign _) ?_
 simp only [pS, pN, pA, pC, pZ]
 refine do_ rfl (.bool (hasT l k)) (ex_assign _) ?_
 simp only [pS, pN, pA, pC, pZ]
 refine wl_nil (hK2 _ _ ?_)
 refine wp_ret ?_
 (try simp only [Exit.then, Exit.inBlock, ↓reduceIte, Nat.reduceEqDiff])
 refine bodyPost_ret (v := (.tuple #[(.int .i64 (((posT l k) : Nat) : Int)), (.bool (hasT l k))])) ?_ rfl ?_
 ·exact res_tt rfl rfl rfl
 ·exact ⟨rfl, S4.gr.below⟩
/-- A finding. -/
def FndV (F : Fz) (u : Value) (o : Option By) : Prop := ∃ a c, u = .agg #[.bool o.isSome, .slice a (o.getD []).length c] ∧ Bs F (.slice a (o.getD []).length c) (o.getD [])
theorem FndV.mono {F F' : Fz} {u : Value} {o : Option By} (h : FndV F u o) (hl : Le F F') : FndV F' u o := by
  obtain ⟨a, c, rfl, h1⟩ := h; exact ⟨a, c, rfl, h1.mono hl⟩
def GetR (o : Option By) (e : Int) (F : Fz) (u : Value) : Prop := ∃ x, u = .tuple #[x, .int .i64 e] ∧ FndV F x o
theorem get_has {l : List Pr} (hr : Rise l) {k : By} {p : Pr} (h : hasT l k = true) (hp : l[posT l k]? = some p) : getT l k = some p.2 := by
  obtain ⟨hh, rfl⟩ := List.getElem?_eq_some_iff.1 hp
  obtain ⟨_, h2⟩ := (hasBy_at hr).1 h
  have := mem_getT hr (List.getElem_mem hh)
  rw [show l[posT l k].1 = k from h2] at this
  exact this
theorem get_not {α : Type} {l : List (By × α)} {k : By} (h : ¬ hasT l k = true) : getT l k = none := by
  rw [hasT_getT] at h
  cases e : getT l k with
  | none => rfl
  | some _ => rw [e] at h; exact absurd rfl h
set_option maxHeartbeats 8000000 in
theorem get_spec (F : Fz) (w : World) (v u : Value) (l : List Pr) (k : By) (hs : Sat w F) (hv : Prs F v l) (hu : Bs F u k) (ok1 : TreeOk 60 l) (hk1 : 1 ≤ k.length) (hk2 : k.length ≤ 16) :
    Calls Try.prog 9 #[v, u] w (Gives w F (GetR (getT l k) 0)) := by
 have ok := treeE_ok.2 ok1
 have okk := checkN_ok hk1 hk2
 obtain ⟨a, c, rfl, hc1, hc2⟩ := Sl.shape hv
 obtain ⟨a2, c2, rfl, _⟩ := hu.shape
 have S := St.start hs
 go_enter Try.func9, Try.ntmps9
 refine wp_seq_k (fun K1 hK1 => region_wl ?_)
 refine stNew S (v := fun n => .pointer (some ⟨n, 0, none⟩)) rfl (ex_alloc (zero_38 _)) (fun n2 w3 S4 => ?_)
 simp only [pS, pN, pA, pC, pZ]
 have S4 : St w F w3 F [⟨n2, [(.bool false), (.slice none 0 0)], 38⟩] [] := S4
 refine do_ rfl (.int .i64 0) (ex_assign _) ?_
 simp only [pS, pN, pA, pC, pZ]
 refine wl_nil (hK1 _ _ ?_)
 refine wp_seq_k (fun K5 hK5 => ?_)
 refine wp_seq_k (fun K6 hK6 => region_wl ?_)
 refine do_ rfl (.slice a l.length c) (ex_move _) ?_
 simp only [pS, pN, pA, pC, pZ]
 refine stTells (v := (.int .i64 (treeE l))) S4 rfl (ex_fn (vs := #[(.slice a l.length c)]) (map1 rfl) rfl (ent_10 _ _)) (treeCheck_spec _ _ _ l (S4).sat hv) (fun w7 S8 => ?_)
 simp only [pS, pN, pA, pC, pZ]
 refine do_ rfl (.int .i64 (treeE l)) (ex_assign _) ?_
 simp only [pS, pN, pA, pC, pZ]
 refine wl_nil (hK6 _ _ ?_)
 refine wp_seq_k (fun K9 hK9 => region_wl ?_)
 refine do_ rfl (.int .i64 (treeE l)) (ex_move _) ?_
 simp only [pS, pN, pA, pC, pZ]
 refine do_ rfl (.bool false) (ex_neq (m := (treeE l)) (n := (0 : Int)) (b := false) rfl rfl (bne_eq_false_iff_eq.2 (ok))) ?_
 simp only [pS, pN, pA, pC, pZ]
 refine wl_nil (hK9 _ _ ?_)
 refine wp_cond_false rfl ?_
 refine wp_skip ?_
 refine hK5 _ _ ?_
 refine wp_seq_k (fun K10 hK10 => ?_)
 refine wp_seq_k (fun K11 hK11 => region_wl ?_)
 refine do_ rfl (.slice a2 k.length c2) (ex_move _) ?_
 simp only [pS, pN, pA, pC, pZ]
 refine stTells (v := (.int .i64 (checkN k.length))) S8 rfl (ex_fn (vs := #[(.slice a2 k.length c2)]) (map1 rfl) rfl (ent_23 _ _)) (tells_same (check_spec _ _ _ k hu)) (fun w12 S13 => ?_)
 simp only [pS, pN, pA, pC, pZ]
 refine do_ rfl (.int .i64 (checkN k.length)) (ex_assign _) ?_
 simp only [pS, pN, pA, pC, pZ]
 refine wl_nil (hK11 _ _ ?_)
 refine wp_seq_k (fun K14 hK14 => region_wl ?_)
 refine do_ rfl (.int .i64 (checkN k.length)) (ex_move _) ?_
 simp only [pS, pN, pA, pC, pZ]
 refine do_ rfl (.bool false) (ex_neq (m := (checkN k.length)) (n := (0 : Int)) (b := false) rfl rfl (bne_eq_false_iff_eq.2 (okk))) ?_
 simp only [pS, pN, pA, pC, pZ]
 refine wl_nil (hK14 _ _ ?_)
 refine wp_cond_false rfl ?_
 refine wp_skip ?_
 refine hK10 _ _ ?_
 refine wp_seq_k (fun K15 hK15 => ?_)
 refine wp_seq_k (fun K16 hK16 => region_wl ?_)
 refine do_ rfl (.slice a l.length c) (ex_move _) ?_
 simp only [pS, pN, pA, pC, pZ]
 refine do_ rfl (.slice a2 k.length c2) (ex_move _) ?_
 simp only [pS, pN, pA, pC, pZ]
 refine stTells (v := (.tuple #[(.int .i64 (((posT l k) : Nat) : Int)), (.bool (hasT l k))])) S13 rfl (ex_fn (vs := #[(.slice a l.length c), (.slice a2 k.length c2)]) (map2 rfl rfl) rfl (ent_25 _ _)) (find_spec _ _ _ _ l k (S13).sat hv hu ok1.rise (by have := ok1.len; omega)) (fun w17 S18 => ?_)
 simp only [pS, pN, pA, pC, pZ]
 refine do_ rfl (.tuple #[(.int .i64 (((posT l k) : Nat) : Int)), (.bool (hasT l k))]) (ex_move _) ?_
 simp only [pS, pN, pA, pC, pZ]
 refine do_ rfl (.int .i64 (((posT l k) : Nat) : Int)) (ex_extract rfl rfl) ?_
 simp only [pS, pN, pA, pC, pZ]
 refine do_ rfl (.bool (hasT l k)) (ex_extract rfl rfl) ?_
 simp only [pS, pN, pA, pC, pZ]
 refine do_ rfl (.int .i64 (((posT l k) : Nat) : Int)) (ex_assign _) ?_
 simp only [pS, pN, pA, pC, pZ]
 refine do_ rfl (.bool (hasT l k)) (ex_assign _) ?_
 simp only [pS, pN, pA, pC, pZ]
 refine wl_nil (hK16 _ _ ?_)
 refine wp_seq_k (fun K19 hK19 => region_wl ?_)
 refine do_ rfl (.bool (hasT l k)) (ex_move _) ?_
 simp only [pS, pN, pA, pC, pZ]
 refine wl_nil (hK19 _ _ ?_)
 refine wp_cond_split rfl (fun hc20 => ?_) (fun hc20 => ?_)
 ·refine wp_seq_k (fun K21 hK21 => region_wl ?_)
  refine do_ rfl (.slice a l.length c) (ex_move _) ?_
  simp only [pS, pN, pA, pC, pZ]
  refine do_ rfl (.int .i64 (((posT l k) : Nat) : Int)) (ex_move _) ?_
  simp only [pS, pN, pA, pC, pZ]
  obtain ⟨hp0, _⟩ := (hasBy_at ok1.rise).1 hc20
  obtain ⟨p, hp⟩ : ∃ p, l[posT l k]? = some p := ⟨l[posT l k], List.getElem?_eq_getElem hp0⟩
  have hpo := ok1.ok p (List.mem_of_getElem? hp)
  have hpl := hpo.2.2
  obtain ⟨b22, o23, ha24, xa26, xc27, xa30, xc31, c25, c29, r28, r32⟩ := Prs.get hv hp
  refine do_ rfl (.pointer (some ⟨b22, o23 + (posT l k) * 2, none⟩)) (ex_at (i := (posT l k)) (sz := 2) Try.underlying23 (sizeof_36 _) rfl ha24 rfl (hp0) rfl) ?_
  simp only [pS, pN, pA, pC, pZ]
  refine do_ rfl (.pointer (some ⟨b22, o23 + (posT l k) * 2 + 1, none⟩)) (ex_field (q := ⟨b22, o23 + (posT l k) * 2 + 1, none⟩) rfl (fa_36_1 _ _)) ?_
  simp only [pS, pN, pA, pC, pZ]
  refine do_ rfl (.slice xa30 p.2.length xc31) (ex_load rfl (load1 (nagg_25 _) (St.fz S18 c29))) ?_
  simp only [pS, pN, pA, pC, pZ]
  refine stGives S18 rfl (ex_fn (vs := #[(.slice xa30 p.2.length xc31)]) (map1 rfl) rfl (ent_30 _ _)) (clone_spec _ _ _ p.2 (S18).sat r32 (by omega)) ?_
  intro v38 w33 F35 S34 le36 R37
  obtain ⟨xa39, xc40, rfl, _⟩ := R37.shape
  simp only [pS, pN, pA, pC, pZ]
  refine do_ rfl (.agg #[(.bool true), (.slice xa39 p.2.length xc40)]) (ex_build (ps := #[(0, (.bool true)), (1, (.slice xa39 p.2.length xc40))]) (bmap2 rfl rfl) (by kernel_rfl)) ?_
  simp only [pS, pN, pA, pC, pZ]
  refine stStore (i := 0) (v := (.agg #[(.bool true), (.slice xa39 p.2.length xc40)])) S34 rfl rfl rfl rfl (size_38) (allc2 rfl rfl) (Nat.le_of_ble_eq_true rfl) (fun w41 S42 => ?_)
  simp only [pS, pN, pA, pC, pZ]
  have S42 : St w F w41 F35 [⟨n2, [(.bool true), (.slice xa39 p.2.length xc40)], 38⟩] [] := S42
  refine do_ rfl (.int .i64 0) (ex_assign _) ?_
  simp only [pS, pN, pA, pC, pZ]
  refine wl_nil (hK21 _ _ ?_)
  refine wp_ret ?_
  (try simp only [Exit.then, Exit.inBlock, ↓reduceIte, Nat.reduceEqDiff])
  refine bodyPost_ret (v := (.tuple #[(.agg #[(.bool true), (.slice xa39 p.2.length xc40)]), (.int .i64 0)])) ?_ rfl ?_
  ·exact res_ct rfl ⟨_, rfl, loadN (cs := [(.bool true), (.slice xa39 p.2.length xc40)]) Try.underlying38 rfl (size_38) (St.range S42 (i := 0) rfl 0 [(.bool true), (.slice xa39 p.2.length xc40)] (sub_range 0 rfl))⟩ rfl
  ·rw [get_has ok1.rise hc20 hp]
   exact ⟨_, _, rfl, S42.gr, _, rfl, _, _, rfl, R37⟩
 ·refine wp_skip ?_
  refine hK15 _ _ ?_
  refine wp_seq_k (fun K43 hK43 => region_wl ?_)
  refine do_ rfl (.agg #[(.bool false), (.slice none 0 0)]) (ex_build (ps := #[]) (bmap0) (by kernel_rfl)) ?_
  simp only [pS, pN, pA, pC, pZ]
  refine stStore (i := 0) (v := (.agg #[(.bool false), (.slice none 0 0)])) S18 rfl rfl rfl rfl (size_38) (allc2 rfl rfl) (Nat.le_of_ble_eq_true rfl) (fun w44 S45 => ?_)
  simp only [pS, pN, pA, pC, pZ]
  have S45 : St w F w44 F [⟨n2, [(.bool false), (.slice none 0 0)], 38⟩] [] := S45
  refine do_ rfl (.int .i64 0) (ex_assign _) ?_
  simp only [pS, pN, pA, pC, pZ]
  refine wl_nil (hK43 _ _ ?_)
  refine wp_ret ?_
  (try simp only [Exit.then, Exit.inBlock, ↓reduceIte, Nat.reduceEqDiff])
  refine bodyPost_ret (v := (.tuple #[(.agg #[(.bool false), (.slice none 0 0)]), (.int .i64 0)])) ?_ rfl ?_
  ·exact res_ct rfl ⟨_, rfl, loadN (cs := [(.bool false), (.slice none 0 0)]) Try.underlying38 rfl (size_38) (St.range S45 (i := 0) rfl 0 [(.bool false), (.slice none 0 0)] (sub_range 0 rfl))⟩ rfl
  ·rw [get_not (by rw [hc20]; simp)]
   exact ⟨_, _, rfl, S45.gr, _, rfl, _, _, rfl, Bs.nil _⟩
end Go.Proofs.Ytlimmmidfhpakaa
namespace Go.Proofs.Ytlimmmidfhpakaa
open Go.RowKit
set_option linter.unusedVariables false
theorem cell_kept {W w' : World} {a : Addr} {v : Value} (h : Below W.heap.size W w') (hc : W.cell? a = some v) : w'.cell? a = some v := by
  have hlt : a.block < W.heap.size := by
    rcases Nat.lt_or_ge a.block W.heap.size with h' | h'
    · exact h'
    · simp [World.cell?, Array.getElem?_eq_none h'] at hc
  rw [← hc]
  unfold World.cell?
  rw [h.block a.block hlt]
section
variable {α : Type} {k E base : Nat} {R : Fz → List Value → α → Prop} {w : World} {F : Fz} {l : List α}
theorem Own.addr0 {a : Option Addr} {n c : Nat} (h : Own k R E base w F (.slice a n c) l) (hl : 0 < l.length) : ∃ g, a = some ⟨g, 0, none⟩ := by
  obtain ⟨g, cap, e, _⟩ := h.form hl
  injection e with e
  exact ⟨g, e⟩
theorem Own.at {a : Option Addr} {n c : Nat} (h : Own k R E base w F (.slice a n c) l) {i : Nat} {p : α} (hp : l[i]? = some p) : ∃ g cs, a = some ⟨g, 0, none⟩ ∧ cs.length = k ∧ R F cs p ∧ w.rangeAt g (i * k) cs := by
  obtain ⟨hi, rfl⟩ := List.getElem?_eq_some_iff.1 hp
  obtain ⟨el, ⟨e1, e2⟩, h2, h3⟩ := h.ex
  have hll := h2.len
  rcases e2 with ⟨e2, h0⟩ | ⟨g, cap, cur, e2, q0, hg, q1, q2, q3, q4⟩
  · omega
  · injection e2 with e2
    refine ⟨g, el[i]'(by omega), e2, h3 _ (List.getElem_mem _), h2.get i (by omega) hi, fun j u hu => ?_⟩
    have hj : j < k := by
      have := (List.getElem?_eq_some_iff.1 hu).1
      rwa [h3 _ (List.getElem_mem _)] at this
    have hf := flatten_at h3 i (by omega) j hj
    rw [← q4, List.getElem?_take] at hf
    rw [← hf] at hu
    split at hu
    · simp only [World.cell?, hg]; simpa using hu
    · cases hu
theorem Own.len {a : Option Addr} {n c : Nat} (h : Own k R E base w F (.slice a n c) l) : n = l.length := by
  obtain ⟨a', c', e, _⟩ := h.shape
  injection e
end
theorem tn_at {E base : Nat} {w : World} {F : Fz} {l : List (By × List Pr)} {a : Option Addr} {n c : Nat} (h : Own 2 TnC E base w F (.slice a n c) l) {i : Nat} {p : By × List Pr} (hp : l[i]? = some p) :
    ∃ g, a = some ⟨g, 0, none⟩ ∧ ∃ xa xc ya yc, w.cell? ⟨g, 0 + i * 2, none⟩ = some (.slice xa p.1.length xc) ∧ w.cell? ⟨g, 0 + i * 2 + 1, none⟩ = some (.slice ya p.2.length yc) ∧ Bs F (.slice xa p.1.length xc) p.1 ∧ Prs F (.slice ya p.2.length yc) p.2 := by
  obtain ⟨g, cs, e, _, ⟨x, y, rfl, r1, r2⟩, hr⟩ := h.at hp
  obtain ⟨xa, xc, rfl, _⟩ := r1.shape
  obtain ⟨ya, yc, rfl, _⟩ := Sl.shape r2
  refine ⟨g, e, xa, xc, ya, yc, ?_, ?_, r1, r2⟩
  · have := hr 0 _ rfl; rw [Nat.zero_add]; simpa using this
  · have := hr 1 _ rfl; rw [Nat.zero_add]; simpa using this
/-- 'row[i].field = x', a field of one cell. -/
theorem stSetCell {P : Program} {w0 w : World} {F0 F : Fz} {L : List Blk} {M : List RowP} {α : Type} {k base E : Nat} {R : Fz → List Value → α → Prop} {hR : ∀ F F' x p, Le F F' → R F x p → R F' x p} {l : List α} {ops : Array Oper} {Q : Exit → Act → World → Prop} {a : Act} {rest : List Oper} {d : Option Tmp} {t T : TypeId} {x y : Operand} {pos : String} {after : Array Edge} {guard : Option (Nat × Bool)} {r g cap i j o n : Nat} {u : Value} {p : α} (S : St w0 F0 w F L M)
    (hw : Region.wanted ⟨d, .store T x y, t, pos, after, guard⟩ (yielded ops a.tmps) = true) (hx : a.eval x = .pointer (some ⟨g, o, none⟩)) (ho : o = i * k + j) (hjk : j < k) (hy : a.eval y = u) (hM : M[r]? = some (ownP k R hR E base (.slice (some ⟨g, 0, none⟩) n cap) l)) (hil : i < l.length)
    (hi : (P.info? T).map (·.size) = some 1) (h1 : u.oneCell' = true) (hu : u.cells = #[u]) (hp : ∀ cs (q : α), l[i]? = some q → R F cs q → R F (cs.set j u) p) (hb : w0.heap.size ≤ base)
    (h : ∀ w', St w0 F0 w' F L (M.set r (ownP k R hR E base (.slice (some ⟨g, 0, none⟩) n cap) (l.set i p))) → WL P ops Q rest (a.put d undef) w') : WL P ops Q (⟨d, .store T x y, t, pos, after, guard⟩ :: rest) a w := by
  obtain ⟨el, ⟨e1, e2⟩, h2, h3⟩ := (S.own hM).ex
  have hll := h2.len
  subst ho
  rcases e2 with ⟨e2, _⟩ | ⟨g', cap', cur, e2, q0, hg, q1, q2, q3, q4⟩
  · cases e2
  · injection e2 with e2 e2n e2c
    injection e2 with e2
    injection e2 with e2
    subst e2; subst e2n; subst e2c
    have hcl : cur.toList.length = cap * k := by simpa using q3
    have hkl : (i + 1) * k ≤ l.length * k := Nat.mul_le_mul_right k (by omega)
    have hlc : l.length * k ≤ cap * k := Nat.mul_le_mul_right k q1
    rw [Nat.add_mul, Nat.one_mul] at hkl
    have hle : i * k + j + 1 ≤ cur.toList.length := by rw [hcl]; omega
    have ht : w.there g (i * k + j) u.cells.size := by
      intro m hm
      rw [hu] at hm
      simp at hm
      subst hm
      have : i * k + j < cur.size := by simp at hle; omega
      exact ⟨by simp [World.cell?, hg, this], by simp [World.frozen?, hg]⟩
    have hst := storeV (P := P) (T := T) (v := u) (by rw [hu]; exact hi) ht (by rw [hu]; simp [h1])
    have hgrown : w.grownBy (w.setCells g (i * k + j) u.cells.toList) (Value.slice (some ⟨g, 0, none⟩) l.length cap).ownBlock := by
      have hb' := below_setCells (B := 0) (Nat.zero_le g) u.cells.toList (i * k + j) w w (Below.refl 0 w)
      exact ⟨hb'.os, hb'.tape, hb'.output, hb'.size, fun b hb1 hb2 => heap_setCells_past _ _ _ (fun e => hb2 (by rw [e]; rfl))⟩
    have hheap := heap_setCells (n := g) (T := E) (fr := (0, 0)) u.cells.toList (i * k + j) w cur.toList (by simpa using hg) (by rw [hu]; simpa using hle)
    have hxl : el[i]'(by omega) ∈ el := List.getElem_mem _
    have hel := h3 _ hxl
    have hown : Own k R E base (w.setCells g (i * k + j) u.cells.toList) F (.slice (some ⟨g, 0, none⟩) l.length cap) (l.set i p) := by
      refine ⟨⟨el.set i ((el[i]'(by omega)).set j u), ⟨?_, .inr ⟨g, cap, _, by rw [List.length_set], q0, hheap, by rw [List.length_set]; exact q1, q2, ?_, ?_⟩⟩, allR_set h2 (hp _ _ (List.getElem?_eq_getElem hil) (h2.get i (by omega) hil)), fun y hy => ?_⟩, (S.own hM).out⟩
      · rw [flatten_len (fun y hy => ?_), List.length_set, List.length_set, hll]
        rcases List.mem_or_eq_of_mem_set hy with hy | rfl
        · exact h3 y hy
        · rw [List.length_set]; exact hel
      · rw [List.size_toArray, splice_len (by rw [hu]; simpa using hle), hcl]
      · rw [List.length_set, flatten_set h3 (by omega) (by rw [List.length_set]; exact hel), ← q4]
        have hei : el[i]'(by omega) = (cur.toList.drop (i * k)).take k := by
          have hf : ∀ m, m < k → (el[i]'(by omega))[m]? = cur.toList[i * k + m]? := fun m hm => by
            have := flatten_at h3 i (by omega) m hm
            rw [← this, ← q4, List.getElem?_take, if_pos (by omega)]
          apply List.ext_getElem?
          intro m
          rcases Nat.lt_or_ge m k with hm | hm
          · rw [hf m hm, List.getElem?_take, if_pos hm, List.getElem?_drop]
          · rw [List.getElem?_eq_none (by omega), List.getElem?_take, if_neg (by omega)]
        rw [hei, hu]
        unfold splice
        have hcl2 : cap * k ≤ cur.toList.length := by omega
        apply List.ext_getElem?
        intro m
        simp only [List.getElem?_append, List.getElem?_take, List.getElem?_drop, List.length_take, List.length_append, List.getElem?_set, List.length_set, List.length_drop, List.length_singleton]
        grind
      · rcases List.mem_or_eq_of_mem_set hy with hy | rfl
        · exact h3 y hy
        · rw [List.length_set]; exact hel
    refine doS hw (ex_store hx (by rw [hy]; exact hst)) (h _ (S.grown hM hb hgrown hown (fun g' hg' => .inl hg')))
/-- A literal of one element, in a region that draws its order. -/
theorem does_lit {P : Program} {o : Oper} {a : Act} {W w : World} {F F1 : Fz} {α : Type} {k : Nat} {R : Fz → List Value → α → Prop} {hR : ∀ F F' x p, Le F F' → R F x p → R F' x p} {cs : List Value} {p : α} {E : TypeId} (g : Gr W F w F1) (hp : R F1 cs p) (hk : cs.length = k)
    (hr : (execOp a.eval o).run P w = .ok (.value (.slice (some ⟨w.heap.size, 0, none⟩) 1 1)) (w.alloc (.cells cs.toArray E))) : Does P o a w (RelPost (Made W F fun F' u => Sl k R F' u [p]) w) := by
  unfold Does
  rw [hr]
  have g2 := g.new (.cells cs.toArray E)
  have g3 := g2.add (g := w.heap.size) g.below.size
  have hle : Le F1 (addF F1 (w.alloc (.cells cs.toArray E)) w.heap.size) := fun b o hb => addF_le _ _ _ _ _ hb
  refine ⟨⟨_, g3, sl_of_block (R := R) (l := [p]) (c := cs) (el := [cs]) (fun j v hj => ?_) (by simp) ⟨hR _ _ _ _ hle hp, trivial⟩ (by simpa using hk) (show [p].length ≤ maxLen by simp [maxLen])⟩, (Below.refl _ _).alloc (Nat.le_refl _) _⟩
  unfold cellF addF
  rw [g.sat.out (Nat.le_refl _)]
  simp only [if_true, heap_alloc_new]
  simpa using hj
/-! A block that is made in a region that draws its order. -/
def NewAt (W : World) (cs : List Value) (T : TypeId) (v : Value) (w : World) : Prop := ∃ n, v = .pointer (some ⟨n, 0, none⟩) ∧ W.heap.size ≤ n ∧ w.heap[n]? = some (.cells cs.toArray T (0, 0))
theorem NewAt.stable (W : World) (cs : List Value) (T : TypeId) : ∀ v w w', NewAt W cs T v w → Below w.heap.size w w' → NewAt W cs T v w' := by
  rintro v w w' ⟨n, h1, h2, h3⟩ hb
  exact ⟨n, h1, h2, heap_kept hb h3⟩
theorem does_alloc {P : Program} {d : Option Tmp} {t T : TypeId} {pos : String} {after : Array Edge} {guard : Option (Nat × Bool)} {a : Act} {w W : World} {z : Value} {cs : List Value} (hz : (zeroValue T).run P w = .ok z w) (hc : z.cells = cs.toArray) (hC : Below W.heap.size W w) : Does P ⟨d, .alloc T, t, pos, after, guard⟩ a w (RelPost (NewAt W cs T) w) := by
  unfold Does
  rw [ex_alloc hz]
  refine ⟨⟨w.heap.size, rfl, hC.size, ?_⟩, (Below.refl _ _).alloc (Nat.le_refl _) _⟩
  rw [hc]
  exact heap_alloc_new w _
theorem Facts.getR {W : World} {F : Fz} {L : List (Nat × Mark)} {Vs : Vals} {w : World} (h : Facts (specOf W F L) Vs w) (i : Nat) {v : Value} {R : Value → World → Prop} (hv : Vs i = some v) (hL : specOf W F L i = .rel R) : R v w := by
  have := h i v hv
  rw [hL] at this
  exact this
def dropF (F : Fz) (n : Nat) : Fz := fun b => if b = n then none else F b
theorem dropF_at (F : Fz) (n : Nat) : dropF F n n = none := by simp [dropF]
theorem Gr.dropF {W w : World} {F F' : Fz} (g : Gr W F w F') (hs : Sat W F) {n : Nat} (hn : W.heap.size ≤ n) : Gr W F w (dropF F' n) :=
  ⟨g.below, fun b hb => by unfold Proofs.Ytlimmmidfhpakaa.dropF; rw [if_neg (by omega)]; exact g.old b hb, fun b o hb => by
    unfold Proofs.Ytlimmmidfhpakaa.dropF at hb
    split at hb
    · cases hb
    · exact g.sat b o hb⟩
theorem Bs.dropF {w : World} {F : Fz} {n : Nat} {cs : List Value} {T : TypeId} (hs : Sat w F) (hb : w.heap[n]? = some (.cells cs.toArray T (0, 0))) (hc : ∀ u ∈ cs, ∀ x, u ≠ bv x) {v : Value} {l : List UInt8} (h : Bs F v l) : Bs (dropF F n) v l := by
  obtain ⟨a, c, h1, h2, h3, h4, h5⟩ := h
  refine ⟨a, c, h1, h2, h3, h4, ?_⟩
  rcases h5 with h5 | ⟨b, o, e, h6⟩
  · exact .inl h5
  · by_cases hbn : b = n
    · cases l with
      | nil => exact .inl rfl
      | cons x l =>
        exfalso
        have h0 := h6 0 (bv x) rfl
        subst hbn
        unfold cellF at h0
        split at h0
        · rename_i c0 t0 fr0 hF
          have := hs _ _ hF
          rw [hb] at this
          cases this
          have hm : bv x ∈ cs := by
            have : cs[o + 0]? = some (bv x) := by simpa using h0
            exact List.mem_of_getElem? this
          exact hc _ hm x rfl
        · cases h0
    · refine .inr ⟨b, o, e, fun j u hu => ?_⟩
      have := h6 j u hu
      unfold cellF Proofs.Ytlimmmidfhpakaa.dropF at *
      rw [if_neg hbn]
      exact this
theorem Pr2V.dropF {w : World} {F : Fz} {n : Nat} {cs : List Value} {T : TypeId} (hs : Sat w F) (hb : w.heap[n]? = some (.cells cs.toArray T (0, 0))) (hc : ∀ u ∈ cs, ∀ x, u ≠ bv x) {v : Value} {p : Pr} (h : Pr2V F v p) : Pr2V (Proofs.Ytlimmmidfhpakaa.dropF F n) v p := by
  obtain ⟨x0, y0, x1, y1, rfl, h0, h1⟩ := h
  exact ⟨x0, y0, x1, y1, rfl, h0.dropF hs hb hc, h1.dropF hs hb hc⟩
theorem WrV.dropF {w : World} {F : Fz} {n : Nat} {cs : List Value} {T : TypeId} (hs : Sat w F) (hb : w.heap[n]? = some (.cells cs.toArray T (0, 0))) (hc : ∀ u ∈ cs, ∀ x, u ≠ bv x) {v : Value} {p : Wr} (h : WrV F v p) : WrV (Proofs.Ytlimmmidfhpakaa.dropF F n) v p := by
  obtain ⟨x0, y0, x1, y1, x3, y3, rfl, h0, h1, h3⟩ := h
  exact ⟨x0, y0, x1, y1, x3, y3, rfl, h0.dropF hs hb hc, h1.dropF hs hb hc, h3.dropF hs hb hc⟩
theorem RdV.dropF {w : World} {F : Fz} {n : Nat} {cs : List Value} {T : TypeId} (hs : Sat w F) (hb : w.heap[n]? = some (.cells cs.toArray T (0, 0))) (hc : ∀ u ∈ cs, ∀ x, u ≠ bv x) {v : Value} {p : Rd} (h : RdV F v p) : RdV (Proofs.Ytlimmmidfhpakaa.dropF F n) v p := by
  obtain ⟨x0, y0, x1, y1, x3, y3, rfl, h0, h1, h3⟩ := h
  exact ⟨x0, y0, x1, y1, x3, y3, rfl, h0.dropF hs hb hc, h1.dropF hs hb hc, h3.dropF hs hb hc⟩
theorem does_val {P : Program} {o : Oper} {a : Act} {w : World} {v : Value} {R : Value → World → Prop} (h : (execOp a.eval o).run P w = .ok (.value v) w) (hR : R v w) (hb : Below w.heap.size w w) : Does P o a w (RelPost R w) := by
  unfold Does
  rw [h]
  exact ⟨hR, hb⟩
theorem St.addBlk {w0 W w : World} {F0 F F' : Fz} {L : List Blk} {M : List RowP} (S : St w0 F0 W F L M) (g : Gr W F w F') {n : Nat} {cs : List Value} {T : TypeId} (hn : W.heap.size ≤ n) (hF : F' n = none) (hb : w.heap[n]? = some (.cells cs.toArray T (0, 0))) : St w0 F0 w F' (⟨n, cs, T⟩ :: L) M := by
  have S' := S.gives g
  refine ⟨S'.gr, fun x hx => ?_, S'.row, ?_, fun r hr x hx => ?_, S'.rr⟩
  · rcases List.mem_cons.1 hx with rfl | hx
    · exact ⟨hb, hF, Nat.le_trans S.gr.below.size hn⟩
    · exact S'.blk x hx
  · refine List.pairwise_cons.2 ⟨fun y hy => ?_, S'.bb⟩
    have := S.blk_lt hy
    simp only
    omega
  · rcases List.mem_cons.1 hx with rfl | hx
    · intro e
      have := ((S.row r hr).2 _ e).1
      simp at this
      omega
    · exact S'.rb r hr x hx
end Go.Proofs.Ytlimmmidfhpakaa
