/- The walk of KnownSums -/
import Derived.Test.YtcanckliggcllaaDoorBX5
import Derived.Test.YtcanckliggcllaaDoorBX4
import Derived.Test.YtcanckliggcllaaDoorBX2
namespace Go.Proofs.YtcanckliggcllaaDoor
open Go.RowKit
set_option maxRecDepth 100000
set_option linter.unusedVariables false
set_option linter.unusedSimpArgs false
section
variable {P : Program} {ρ : Operand → Value} {w : World} {d : Option Tmp} {t X Y T : TypeId} {pos : String} {after : Array Edge} {guard : Option (Nat × Bool)} {x y : Operand}
theorem ba_get (l : By) (i : Nat) : (⟨l.toArray⟩ : ByteArray)[i]? = l[i]? := by
  by_cases h : i < l.length
  · rw [getElem?_pos (⟨l.toArray⟩ : ByteArray) i (by simpa [ByteArray.size] using h), List.getElem?_eq_getElem h]
    rfl
  · rw [getElem?_neg (⟨l.toArray⟩ : ByteArray) i (by simpa [ByteArray.size] using h), List.getElem?_eq_none (by omega)]
theorem ex_lenS {l : By} (hT : P.underlying T = some .string) (h : ρ x = .string ⟨l.toArray⟩) : (execOp ρ ⟨d, .call ⟨.builtin .len, #[x], #[T]⟩, t, pos, after, guard⟩).run P w = .ok (.value (.int .i64 (l.length : Nat))) w := by
  simp [execOp, resolve, invoke, builtin, Builtin.len_, h, run_underlying hT w]; rfl
theorem ex_ixS {l : By} {i : Nat} {b : UInt8} (hX : P.underlying X = some .string) (hx : ρ x = .string ⟨l.toArray⟩) (hy : ρ y = .int .i64 (i : Nat)) (hb : l[i]? = some b) : (execOp ρ ⟨d, .index X x y, t, pos, after, guard⟩).run P w = .ok (.value (bv b)) w := by
  have h1 : (0 : Int) ≤ (i : Int) := by omega
  have hg := ba_get l i
  rw [hb] at hg
  simp [execOp, hx, hy, Instr.index, Sem.run_bind, run_underlying hX w, asIntOf, h1, hg, bv]
theorem ex_subB {a b : UInt8} (hx : ρ x = bv a) (hy : ρ y = bv b) : (execOp ρ ⟨d, .binOp .sub X x y Y, t, pos, after, guard⟩).run P w = .ok (.value (bv (a - b))) w := by
  refine ex_bin hx hy ?_
  rw [run_binInt _ (by simp)]
  show Result.ok (Value.int .u8 (IntKind.u8.wrap ((a.toNat : Int) - (b.toNat : Int)))) w = _
  have e : IntKind.u8.wrap ((a.toNat : Int) - (b.toNat : Int)) = ((a - b).toNat : Int) := by
    rw [show IntKind.u8.wrap ((a.toNat : Int) - (b.toNat : Int)) = ((a.toNat : Int) - (b.toNat : Int)) % 256 from rfl]
    rw [UInt8.toNat_sub]
    have := UInt8.toNat_lt a
    have := UInt8.toNat_lt b
    omega
  rw [e]; rfl
end
def nibN (c : UInt8) : Nat := if 97 ≤ c.toNat then c.toNat - 87 else c.toNat - 48
def HexOk (l : By) : Prop := ∀ c ∈ l, (48 ≤ c.toNat ∧ c.toNat ≤ 57) ∨ (97 ≤ c.toNat ∧ c.toNat ≤ 102)
def hexAt (l : By) (m : Nat) : UInt8 := b8 (16 * nibN (l.getD (2 * m) 0) + nibN (l.getD (2 * m + 1) 0))
def hexL (l : By) (k : Nat) : By := (List.range k).map (hexAt l)
theorem hexL_step (l : By) (m : Nat) : hexL l m ++ [hexAt l m] = hexL l (m + 1) := by unfold hexL; rw [List.range_succ, List.map_append]; rfl
def hxN (l : By) (m : Nat) : Nat → Nat
  | 0 => 0
  | j + 1 => 16 * hxN l m j + nibN (l.getD (2 * m + j) 0)
theorem nib_le {c : UInt8} (h : (48 ≤ c.toNat ∧ c.toNat ≤ 57) ∨ (97 ≤ c.toNat ∧ c.toNat ≤ 102)) : nibN c ≤ 15 := by unfold nibN; split <;> omega
theorem nib_hi {c : UInt8} (h : (97 : Int) ≤ (c.toNat : Int)) : (c - 97).toNat + 10 = nibN c := by
  unfold nibN
  rw [if_pos (by omega), UInt8.toNat_sub]
  have := UInt8.toNat_lt c
  show (256 - 97 + c.toNat) % 256 + 10 = _
  omega
theorem nib_lo {c : UInt8} (h : ¬ (97 : Int) ≤ (c.toNat : Int)) (h2 : 48 ≤ c.toNat) : (c - 48).toNat = nibN c := by
  unfold nibN
  rw [if_neg (by omega), UInt8.toNat_sub]
  have := UInt8.toNat_lt c
  show (256 - 48 + c.toNat) % 256 = _
  omega
theorem hx_step {l : By} {m j n : Nat} {c : UInt8} (hn : n = hxN l m j) (hc : l[2 * m + j]? = some c) : 16 * n + nibN c = hxN l m (j + 1) := by
  have : l.getD (2 * m + j) 0 = c := by rw [List.getD_eq_getElem?_getD, hc]; rfl
  rw [hxN, ← hn, this]
theorem hx_two (l : By) (m : Nat) : b8 (hxN l m 2) = hexAt l m := by
  unfold hexAt
  simp only [hxN]
  congr 1
  show 16 * (16 * 0 + nibN (l.getD (2 * m + 0) 0)) + _ = _
  simp
set_option maxHeartbeats 8000000 in
theorem hex_spec (F : Fz) (w : World) (l : By) (hs : Sat w F) (hok : HexOk l) (hl : l.length % 2 = 0) (h1000 : l.length ≤ 1000) :
    Calls Tryd.prog 17 #[.string ⟨l.toArray⟩] w (Gives w F fun F' u => Bs F' u (hexL l (l.length / 2))) := by
 obtain ⟨i5, hi5, hz5, hs5, hb5⟩ := info_parts infoU8
 have S := St.start hs
 go_enter Tryd.func17, Tryd.ntmps17
 refine wp_seq_k (fun K1 hK1 => region_wl ?_)
 refine do_ rfl (.slice none 0 0) (ex_assign _) ?_
 simp only [pS, pN, pA, pC, pZ]
 refine wl_nil (hK1 _ _ ?_)
 refine wp_seq_k (fun K2 hK2 => region_wl ?_)
 refine do_ rfl (.slice none 0 0) (ex_assign _) ?_
 simp only [pS, pN, pA, pC, pZ]
 refine wl_nil (hK2 _ _ ?_)
 refine wp_seq_k (fun K3 hK3 => ?_)
 refine wp_seq_k (fun K4 hK4 => region_wl ?_)
 refine do_ rfl (.int .i64 0) (ex_assign _) ?_
 simp only [pS, pN, pA, pC, pZ]
 refine wl_nil (hK4 _ _ ?_)
 refine wp_block ?_
 have S5 := St.addNil S 1 ByC ByC.mono 5 w.heap.size
 have S5 : St w F w F [] [ownP 1 ByC ByC.mono 5 w.heap.size (.slice none 0 0) (hexL l 0)] := S5
 refine wp_loop_g (fun mm aa w8 => ∃ (m : Nat) (v : Value) (F6 : Fz) (u7 : Nat → Value), mm = l.length - 2 * m ∧ u7 = slots aa ∧ aa = ⟨#[(.string ⟨l.toArray⟩), undef, (.slice none 0 0), v, (.int .i64 (((2 * m) : Nat) : Int)), (u7 5), (u7 6), (u7 7), (u7 8), (u7 9), (u7 10), (u7 11), (u7 12), (u7 13), (u7 14), (u7 15), (u7 16), (u7 17), (u7 18), (u7 19), (u7 20), (u7 21), (u7 22), (u7 23), (u7 24), (u7 25), (u7 26), (u7 27), (u7 28), (u7 29), (u7 30), (u7 31), (u7 32), (u7 33), (u7 34), (u7 35), (u7 36), (u7 37), (u7 38), (u7 39), (u7 40), (u7 41), (u7 42), (u7 43), (u7 44), (u7 45), undef], []⟩ ∧ St w F w8 F6 [] [ownP 1 ByC ByC.mono 5 w.heap.size v (hexL l m)] ∧ Le F F6 ∧ (2 * m ≤ l.length)) _ ⟨0, (.slice none 0 0), F, _, rfl, rfl, rfl, S5, Le.refl _, (by omega)⟩ ?_
 rintro m9 a10 w11 ⟨m, v, F6, u7, rfl, -, rfl, S12, le13, hm⟩ K14 hK14
 refine wp_seq_k (fun K15 hK15 => ?_)
 refine wp_seq_k (fun K16 hK16 => region_wl ?_)
 refine do_ rfl (.int .i64 (((2 * m) : Nat) : Int)) (ex_move _) ?_
 simp only [pS, pN, pA, pC, pZ]
 refine do_ rfl (.int .i64 ((((2 * m) + 1) : Nat) : Int)) (ex_add (m := (((2 * m) : Nat) : Int)) (n := (1 : Int)) (r := ((((2 * m) + 1) : Nat) : Int)) rfl rfl (by omega) (by omega) (by omega)) ?_
 simp only [pS, pN, pA, pC, pZ]
 refine do_ rfl (.string ⟨l.toArray⟩) (ex_move _) ?_
 simp only [pS, pN, pA, pC, pZ]
 refine do_ rfl (.int .i64 ((l.length : Nat) : Int)) (ex_lenS (l := l) Tryd.underlying9 rfl) ?_
 simp only [pS, pN, pA, pC, pZ]
 by_cases hc12 : ((2 * m) + 1) < l.length
 ·refine do_ rfl (.bool true) (ex_lss (m := ((((2 * m) + 1) : Nat) : Int)) (n := ((l.length : Nat) : Int)) (b := true) rfl rfl (decide_eq_true (by omega))) ?_
  simp only [pS, pN, pA, pC, pZ]
  refine wl_nil (hK16 _ _ ?_)
  refine wp_cond_true rfl ?_
  refine wp_skip ?_
  refine hK15 _ _ ?_
  refine wp_seq_k (fun K17 hK17 => ?_)
  refine wp_block ?_
  refine wp_seq_k (fun K18 hK18 => region_wl ?_)
  refine do_ rfl (.int .i64 0) (ex_assign _) ?_
  simp only [pS, pN, pA, pC, pZ]
  refine wl_nil (hK18 _ _ ?_)
  refine wp_seq_k (fun K19 hK19 => ?_)
  refine wp_seq_k (fun K20 hK20 => region_wl ?_)
  refine do_ rfl (.int .i64 (((2 * m) : Nat) : Int)) (ex_move _) ?_
  simp only [pS, pN, pA, pC, pZ]
  refine do_ rfl (.int .i64 (((2 * m) : Nat) : Int)) (ex_assign _) ?_
  simp only [pS, pN, pA, pC, pZ]
  refine wl_nil (hK20 _ _ ?_)
  refine wp_block ?_
  refine wp_loop_g (fun mm aa w23 => ∃ (j : Nat) (n : Nat) (F21 : Fz) (u22 : Nat → Value), mm = 2 - j ∧ u22 = slots aa ∧ aa = ⟨#[(.string ⟨l.toArray⟩), undef, (.slice none 0 0), v, (.int .i64 (((2 * m) : Nat) : Int)), (.int .i64 ((n : Nat) : Int)), (.int .i64 ((((2 * m) + j) : Nat) : Int)), (u22 7), (.int .i64 (((2 * m) : Nat) : Int)), (.int .i64 ((((2 * m) + 1) : Nat) : Int)), (.string ⟨l.toArray⟩), (.int .i64 ((l.length : Nat) : Int)), (.bool true), (u7 13), (u7 14), (.int .i64 (((2 * m) : Nat) : Int)), (u22 16), (u22 17), (u22 18), (u22 19), (u22 20), (u22 21), (u22 22), (u22 23), (u22 24), (u22 25), (u22 26), (u22 27), (u22 28), (u22 29), (u22 30), (u22 31), (u22 32), (u22 33), (u22 34), (u22 35), (u22 36), (u22 37), (u22 38), (u22 39), (u22 40), (u7 41), (u7 42), (u7 43), (u7 44), (u7 45), undef], []⟩ ∧ St w F w23 F21 [] [ownP 1 ByC ByC.mono 5 w.heap.size v (hexL l m)] ∧ Le F6 F21 ∧ (j ≤ 2) ∧ (n = hxN l m j) ∧ ((j ≤ 1 → n ≤ 15 * j) ∧ n ≤ 255)) _ ⟨0, 0, F6, _, rfl, rfl, rfl, S12, Le.refl _, (by omega), rfl, ⟨fun _ => by omega, by omega⟩⟩ ?_
  rintro m24 a25 w26 ⟨j, n, F21, u22, rfl, -, rfl, S27, le28, hj, hn, hnb⟩ K29 hK29
  refine wp_seq_k (fun K30 hK30 => ?_)
  refine wp_seq_k (fun K31 hK31 => region_wl ?_)
  refine do_ rfl (.int .i64 ((((2 * m) + j) : Nat) : Int)) (ex_move _) ?_
  simp only [pS, pN, pA, pC, pZ]
  refine do_ rfl (.int .i64 (((2 * m) : Nat) : Int)) (ex_move _) ?_
  simp only [pS, pN, pA, pC, pZ]
  refine do_ rfl (.int .i64 ((((2 * m) + 2) : Nat) : Int)) (ex_add (m := (((2 * m) : Nat) : Int)) (n := (2 : Int)) (r := ((((2 * m) + 2) : Nat) : Int)) rfl rfl (by omega) (by omega) (by omega)) ?_
  simp only [pS, pN, pA, pC, pZ]
  by_cases hc19 : ((2 * m) + j) < ((2 * m) + 2)
  ·refine do_ rfl (.bool true) (ex_lss (m := ((((2 * m) + j) : Nat) : Int)) (n := ((((2 * m) + 2) : Nat) : Int)) (b := true) rfl rfl (decide_eq_true (by omega))) ?_
   simp only [pS, pN, pA, pC, pZ]
   refine wl_nil (hK31 _ _ ?_)
   refine wp_cond_true rfl ?_
   refine wp_skip ?_
   refine hK30 _ _ ?_
   refine wp_seq_k (fun K32 hK32 => ?_)
   refine wp_block ?_
   refine wp_seq_k (fun K33 hK33 => ?_)
   obtain ⟨c, hcj⟩ : ∃ c, l[2 * m + j]? = some c := ⟨l[2 * m + j]'(by omega), List.getElem?_eq_getElem (by omega)⟩
   have hck := hok c (List.mem_of_getElem? hcj)
   have hnl := nib_le hck
   have hcl := UInt8.toNat_lt c
   have hj15 := hnb.1 (by omega)
   have h48 := UInt8.toNat_lt (c - 48)
   have h97 := UInt8.toNat_lt (c - 97)
   refine region_wl ?_
   refine do_ rfl (.string ⟨l.toArray⟩) (ex_move _) ?_
   simp only [pS, pN, pA, pC, pZ]
   refine do_ rfl (.int .i64 ((((2 * m) + j) : Nat) : Int)) (ex_move _) ?_
   simp only [pS, pN, pA, pC, pZ]
   refine do_ rfl (bv c) (ex_ixS (i := ((2 * m) + j)) Tryd.underlying9 rfl rfl hcj) ?_
   simp only [pS, pN, pA, pC, pZ]
   refine do_ rfl (bv (c - 48)) (ex_subB rfl rfl) ?_
   simp only [pS, pN, pA, pC, pZ]
   refine do_ rfl (.int .i64 (((c - 48).toNat : Nat) : Int)) (ex_convert (v := (bv (c - 48))) rfl (conv_int (c - 48) _)) ?_
   simp only [pS, pN, pA, pC, pZ]
   refine do_ rfl (.int .i64 (((c - 48).toNat : Nat) : Int)) (ex_assign _) ?_
   simp only [pS, pN, pA, pC, pZ]
   refine wl_nil (hK33 _ _ ?_)
   refine wp_seq_k (fun K34 hK34 => ?_)
   refine wp_seq_k (fun K35 hK35 => region_wl ?_)
   refine do_ rfl (.string ⟨l.toArray⟩) (ex_move _) ?_
   simp only [pS, pN, pA, pC, pZ]
   refine do_ rfl (.int .i64 ((((2 * m) + j) : Nat) : Int)) (ex_move _) ?_
   simp only [pS, pN, pA, pC, pZ]
   refine do_ rfl (bv c) (ex_ixS (i := ((2 * m) + j)) Tryd.underlying9 rfl rfl hcj) ?_
   simp only [pS, pN, pA, pC, pZ]
   refine do_ rfl (.bool (decide ((97 : Int) ≤ (c.toNat : Int)))) (ex_geq (k := .u8) (m := (c.toNat : Int)) (n := 97) rfl rfl rfl) ?_
   simp only [pS, pN, pA, pC, pZ]
   refine wl_nil (hK35 _ _ ?_)
   refine wp_cond_split rfl (fun hc36 => ?_) (fun hc36 => ?_)
   ·have hnh := nib_hi (of_decide_eq_true hc36)
    refine region_wl ?_
    refine do_ rfl (.string ⟨l.toArray⟩) (ex_move _) ?_
    simp only [pS, pN, pA, pC, pZ]
    refine do_ rfl (.int .i64 ((((2 * m) + j) : Nat) : Int)) (ex_move _) ?_
    simp only [pS, pN, pA, pC, pZ]
    refine do_ rfl (bv c) (ex_ixS (i := ((2 * m) + j)) Tryd.underlying9 rfl rfl hcj) ?_
    simp only [pS, pN, pA, pC, pZ]
    refine do_ rfl (bv (c - 97)) (ex_subB rfl rfl) ?_
    simp only [pS, pN, pA, pC, pZ]
    refine do_ rfl (.int .i64 (((c - 97).toNat : Nat) : Int)) (ex_convert (v := (bv (c - 97))) rfl (conv_int (c - 97) _)) ?_
    simp only [pS, pN, pA, pC, pZ]
    refine do_ rfl (.int .i64 ((((c - 97).toNat + 10) : Nat) : Int)) (ex_add (m := (((c - 97).toNat : Nat) : Int)) (n := (10 : Int)) (r := ((((c - 97).toNat + 10) : Nat) : Int)) rfl rfl (by omega) (by omega) (by omega)) ?_
    simp only [pS, pN, pA, pC, pZ]
    refine do_ rfl (.int .i64 ((((c - 97).toNat + 10) : Nat) : Int)) (ex_assign _) ?_
    simp only [pS, pN, pA, pC, pZ]
    refine wl_nil (hK34 _ _ ?_)
    refine region_wl ?_
    refine do_ rfl (.int .i64 ((n : Nat) : Int)) (ex_move _) ?_
    simp only [pS, pN, pA, pC, pZ]
    refine do_ rfl (.int .i64 (((16 * n) : Nat) : Int)) (ex_mul (m := (16 : Int)) (n := ((n : Nat) : Int)) (r := (((16 * n) : Nat) : Int)) rfl rfl (by omega) (by omega) (by omega)) ?_
    simp only [pS, pN, pA, pC, pZ]
    refine do_ rfl (.int .i64 ((((c - 97).toNat + 10) : Nat) : Int)) (ex_move _) ?_
    simp only [pS, pN, pA, pC, pZ]
    refine do_ rfl (.int .i64 ((((16 * n) + ((c - 97).toNat + 10)) : Nat) : Int)) (ex_add (m := (((16 * n) : Nat) : Int)) (n := ((((c - 97).toNat + 10) : Nat) : Int)) (r := ((((16 * n) + ((c - 97).toNat + 10)) : Nat) : Int)) rfl rfl (by omega) (by omega) (by omega)) ?_
    simp only [pS, pN, pA, pC, pZ]
    refine do_ rfl (.int .i64 ((((16 * n) + ((c - 97).toNat + 10)) : Nat) : Int)) (ex_assign _) ?_
    simp only [pS, pN, pA, pC, pZ]
    refine wl_nil (hK32 _ _ ?_)
    refine region_wl ?_
    refine do_ rfl (.int .i64 ((((2 * m) + j) : Nat) : Int)) (ex_move _) ?_
    simp only [pS, pN, pA, pC, pZ]
    refine do_ rfl (.int .i64 (((((2 * m) + j) + 1) : Nat) : Int)) (ex_add (m := ((((2 * m) + j) : Nat) : Int)) (n := (1 : Int)) (r := (((((2 * m) + j) + 1) : Nat) : Int)) rfl rfl (by omega) (by omega) (by omega)) ?_
    simp only [pS, pN, pA, pC, pZ]
    refine do_ rfl (.int .i64 (((((2 * m) + j) + 1) : Nat) : Int)) (ex_assign _) ?_
    simp only [pS, pN, pA, pC, pZ]
    refine wl_nil ?_
    exact hK29 _ _ _ (by omega) ⟨(j + 1), ((16 * n) + ((c - 97).toNat + 10)), F21, _, rfl, rfl, rfl, S27, le28, (by omega), (by rw [hnh]; exact hx_step hn hcj), ⟨fun _ => by omega, by omega⟩⟩
   ·refine wp_skip ?_
    refine hK34 _ _ ?_
    have hnq := nib_lo (of_decide_eq_false hc36) (by have := of_decide_eq_false hc36; omega)
    refine region_wl ?_
    refine do_ rfl (.int .i64 ((n : Nat) : Int)) (ex_move _) ?_
    simp only [pS, pN, pA, pC, pZ]
    refine do_ rfl (.int .i64 (((16 * n) : Nat) : Int)) (ex_mul (m := (16 : Int)) (n := ((n : Nat) : Int)) (r := (((16 * n) : Nat) : Int)) rfl rfl (by omega) (by omega) (by omega)) ?_
    simp only [pS, pN, pA, pC, pZ]
    refine do_ rfl (.int .i64 (((c - 48).toNat : Nat) : Int)) (ex_move _) ?_
    simp only [pS, pN, pA, pC, pZ]
    refine do_ rfl (.int .i64 ((((16 * n) + (c - 48).toNat) : Nat) : Int)) (ex_add (m := (((16 * n) : Nat) : Int)) (n := (((c - 48).toNat : Nat) : Int)) (r := ((((16 * n) + (c - 48).toNat) : Nat) : Int)) rfl rfl (by omega) (by omega) (by omega)) ?_
    simp only [pS, pN, pA, pC, pZ]
    refine do_ rfl (.int .i64 ((((16 * n) + (c - 48).toNat) : Nat) : Int)) (ex_assign _) ?_
    simp only [pS, pN, pA, pC, pZ]
    refine wl_nil (hK32 _ _ ?_)
    refine region_wl ?_
    refine do_ rfl (.int .i64 ((((2 * m) + j) : Nat) : Int)) (ex_move _) ?_
    simp only [pS, pN, pA, pC, pZ]
    refine do_ rfl (.int .i64 (((((2 * m) + j) + 1) : Nat) : Int)) (ex_add (m := ((((2 * m) + j) : Nat) : Int)) (n := (1 : Int)) (r := (((((2 * m) + j) + 1) : Nat) : Int)) rfl rfl (by omega) (by omega) (by omega)) ?_
    simp only [pS, pN, pA, pC, pZ]
    refine do_ rfl (.int .i64 (((((2 * m) + j) + 1) : Nat) : Int)) (ex_assign _) ?_
    simp only [pS, pN, pA, pC, pZ]
    refine wl_nil ?_
    exact hK29 _ _ _ (by omega) ⟨(j + 1), ((16 * n) + (c - 48).toNat), F21, _, rfl, rfl, rfl, S27, le28, (by omega), (by rw [hnq]; exact hx_step hn hcj), ⟨fun _ => by omega, by omega⟩⟩
  ·refine do_ rfl (.bool false) (ex_lss (m := ((((2 * m) + j) : Nat) : Int)) (n := ((((2 * m) + 2) : Nat) : Int)) (b := false) rfl rfl (decide_eq_false (by omega))) ?_
   simp only [pS, pN, pA, pC, pZ]
   refine wl_nil (hK31 _ _ ?_)
   refine wp_cond_false rfl ?_
   refine wp_exit ?_
   refine hK19 _ _ ?_
   obtain rfl : j = 2 := by omega
   have hhl : (hexL l m).length = m := by simp [hexL]
   refine region_wl ?_
   refine do_ rfl v (ex_move _) ?_
   simp only [pS, pN, pA, pC, pZ]
   refine do_ rfl (.int .i64 ((n : Nat) : Int)) (ex_move _) ?_
   simp only [pS, pN, pA, pC, pZ]
   refine do_ rfl (bv (b8 n)) (ex_convert (v := (.int .i64 ((n : Nat) : Int))) rfl (conv_b8 n _)) ?_
   simp only [pS, pN, pA, pC, pZ]
   refine stNew S27 (v := fun n => .slice (some ⟨n, 0, none⟩) 1 1) rfl (ex_lit (ps := #[(0, (bv (b8 n)))]) (cells := #[(bv (b8 n))]) (E := 5) (bmap1 rfl) (fun w => by kernel_rfl)) (fun n37 w38 S39 => ?_)
   simp only [pS, pN, pA, pC, pZ]
   have S39 : St w F w38 F21 [⟨n37, [(bv (b8 n))], 5⟩] [ownP 1 ByC ByC.mono 5 w.heap.size v (hexL l m)] := S39
   refine stPush (i := 0) (r := 0) (p := (b8 n)) (cs := [(bv (b8 n))]) S39 rfl i5 (.int .u8 0) 1 Tryd.underlying22 hi5 hz5 hs5 hb5 rfl (by decide) rfl rfl rfl rfl rfl (bv_one (b8 n)) (rfl) (Nat.le_refl _) S39.gr.below.size (by unfold maxLen; omega) (by omega) ?_
   intro v40 w41 S42 hn43
   simp only [pS, pN, pA, pC, pZ]
   have S42 := St.drop S42 (L' := []) (.cons _ (List.Sublist.refl _))
   have S42 : St w F w41 F21 [] [ownP 1 ByC ByC.mono 5 w.heap.size v40 ((hexL l m) ++ [(b8 n)])] := S42
   rw [hn, hx_two, hexL_step] at S42
   have S42 : St w F w41 F21 [] [ownP 1 ByC ByC.mono 5 w.heap.size v40 (hexL l (m + 1))] := S42
   refine do_ rfl v40 (ex_assign _) ?_
   simp only [pS, pN, pA, pC, pZ]
   refine wl_nil (hK17 _ _ ?_)
   refine region_wl ?_
   refine do_ rfl (.int .i64 (((2 * m) : Nat) : Int)) (ex_move _) ?_
   simp only [pS, pN, pA, pC, pZ]
   refine do_ rfl (.int .i64 ((((2 * m) + 2) : Nat) : Int)) (ex_add (m := (((2 * m) : Nat) : Int)) (n := (2 : Int)) (r := ((((2 * m) + 2) : Nat) : Int)) rfl rfl (by omega) (by omega) (by omega)) ?_
   simp only [pS, pN, pA, pC, pZ]
   refine do_ rfl (.int .i64 ((((2 * m) + 2) : Nat) : Int)) (ex_assign _) ?_
   simp only [pS, pN, pA, pC, pZ]
   refine wl_nil ?_
   exact hK14 _ _ _ (by omega) ⟨(m + 1), v40, F21, _, rfl, rfl, rfl, S42, (le13.trans le28), (by omega)⟩
 ·refine do_ rfl (.bool false) (ex_lss (m := ((((2 * m) + 1) : Nat) : Int)) (n := ((l.length : Nat) : Int)) (b := false) rfl rfl (decide_eq_false (by omega))) ?_
  simp only [pS, pN, pA, pC, pZ]
  refine wl_nil (hK16 _ _ ?_)
  refine wp_cond_false rfl ?_
  refine wp_exit ?_
  refine hK3 _ _ ?_
  refine wp_seq_k (fun K44 hK44 => region_wl ?_)
  refine do_ rfl v (ex_move _) ?_
  simp only [pS, pN, pA, pC, pZ]
  refine do_ rfl v (ex_assign _) ?_
  simp only [pS, pN, pA, pC, pZ]
  refine wl_nil (hK44 _ _ ?_)
  refine wp_ret ?_
  (try simp only [Exit.then, Exit.inBlock, ↓reduceIte, Nat.reduceEqDiff])
  refine bodyPost_ret (v := v) ?_ rfl ?_
  ·exact res_t rfl rfl
  ·have hme : m = l.length / 2 := by omega
   rw [hme] at S12
   obtain ⟨F45, S46, le47, hv48⟩ := St.freeze S12 (i := 0) rfl (Nat.le_refl _)
   have S46 : St w F w11 F45 [] [] := S46
   have hv48 : Bys _ v (hexL l (l.length / 2)) := hv48
   exact ⟨_, _, rfl, S46.gr, bs_of_sl hv48⟩
abbrev hexSA : By := ([97, 55, 102, 102, 99, 54, 102, 56, 98, 102, 49, 101, 100, 55, 54, 54, 53, 49, 99, 49, 52, 55, 53, 54, 97, 48, 54, 49, 100, 54, 54, 50, 102, 53, 56, 48, 102, 102, 52, 100, 101, 52, 51, 98, 52, 57, 102, 97, 56, 50, 100, 56, 48, 97, 52, 98, 56, 48, 102, 56, 52, 51, 52, 97] : By)
abbrev hexSB : By := ([51, 97, 57, 56, 53, 100, 97, 55, 52, 102, 101, 50, 50, 53, 98, 50, 48, 52, 53, 99, 49, 55, 50, 100, 54, 98, 100, 51, 57, 48, 98, 100, 56, 53, 53, 102, 48, 56, 54, 101, 51, 101, 57, 100, 53, 50, 53, 98, 52, 54, 98, 102, 101, 50, 52, 53, 49, 49, 52, 51, 49, 53, 51, 50] : By)
theorem hexSA_ok : HexOk hexSA := by unfold HexOk; decide +kernel
theorem hexSB_ok : HexOk hexSB := by unfold HexOk; decide +kernel
theorem sumA : sumL ([] : By) = hexL hexSA (hexSA.length / 2) := by
  show sumL knB = _
  rw [kn_sum]
  decide +kernel
theorem sumB : sumL ([97, 98, 99] : By) = hexL hexSB (hexSB.length / 2) := by
  show sumL kaB = _
  rw [ka_sum]
  decide +kernel
theorem conv_bytes (a : Addr) (l c : Nat) (w : World) {t : TypeId} {n : Nat} (h : w.shape? a.block = some (t, n)) : (convert 22 22 (.slice (some a) l c)).run Tryd.prog w = .ok (.slice (some a) l c) (w.freeze ⟨a.block, n, none⟩ 1) := by
  have e : (convert 22 22 (.slice (some a) l c)).run Tryd.prog w = (do markStringish a; pure (.slice (some a) l c) : Sem Value).run Tryd.prog w := by kernel_rfl
  rw [e]
  simp [markStringish, shape, freeze, Sem.run, h, Sem.run_bind]
theorem St.mark {w0 w : World} {F0 F : Fz} {L : List Blk} {M : List RowP} {n : Nat} {c : List Value} {t : TypeId} (S : St w0 F0 w F (⟨n, c, t⟩ :: L) M) (a : Addr) (ha : a.block = n) : ∃ F', St w0 F0 (w.freeze a 1) F' L M ∧ Le F F' ∧ ∀ j v, c[j]? = some v → cellF F' n j = some v := by
  obtain ⟨b1, b2, b3⟩ := S.blk _ (List.mem_cons_self ..)
  simp only at b1 b2 b3
  have hne : ∀ x ∈ L, x.n ≠ n := fun x hx => ((List.pairwise_cons.1 S.bb).1 x hx).symm
  have hp : ∀ b, b ≠ n → (w.freeze a 1).heap[b]? = w.heap[b]? := by
    intro b hb
    unfold World.freeze
    rw [if_neg (by decide)]
    simp only
    rw [Array.getElem?_modify, if_neg (by rw [ha]; exact fun e => hb e.symm)]
  have hn : ∃ fr, (w.freeze a 1).heap[n]? = some (.cells c.toArray t fr) := by
    unfold World.freeze
    rw [if_neg (by decide)]
    simp only
    rw [Array.getElem?_modify, if_pos ha, b1]
    exact ⟨_, rfl⟩
  have hsz : (w.freeze a 1).heap.size = w.heap.size := by unfold World.freeze; rw [if_neg (by decide)]; simp
  have hos : (w.freeze a 1).os = w.os ∧ (w.freeze a 1).tape = w.tape ∧ (w.freeze a 1).output = w.output := by unfold World.freeze; rw [if_neg (by decide)]; exact ⟨rfl, rfl, rfl⟩
  generalize w.freeze a 1 = w' at *
  obtain ⟨fr, hn⟩ := hn
  have hle : Le F (addF F w' n) := fun b o hb => addF_le _ _ _ _ _ hb
  have hsat : Sat w' F := fun b o hb => by
    rw [hp b (fun e => by rw [e, b2] at hb; cases hb)]
    exact S.sat b o hb
  have gb := S.gr.below
  refine ⟨addF F w' n, ⟨⟨⟨hos.1.trans gb.os, hos.2.1.trans gb.tape, hos.2.2.trans gb.output, by rw [hsz]; exact gb.size, fun k hk => (hp k (by omega)).trans (gb.block k hk)⟩, fun b hb => (addF_old (by omega)).trans (S.gr.old b hb), hsat.addF n⟩, fun x hx => ?_, fun r hr => ?_, (List.pairwise_cons.1 S.bb).2, fun r hr x hx => S.rb r hr x (List.mem_cons_of_mem _ hx), S.rr⟩, hle, fun j v hv => ?_⟩
  · have := S.blk x (List.mem_cons_of_mem _ hx)
    exact ⟨(hp _ (hne x hx)).trans this.1, by rw [addF_old (hne x hx)]; exact this.2.1, this.2.2⟩
  · have hr1 := S.row r hr
    have hgn : ∀ g, r.ob = some g → g ≠ n := fun g hg e => S.rb r hr _ (List.mem_cons_self ..) (by rw [hg, e])
    exact ⟨r.stable _ _ _ _ hr1.1 (fun g hg => hp g (hgn g hg)) hle (fun g hg => by rw [addF_old (hgn g hg)]; exact (hr1.2 g hg).2.1), fun g hg => ⟨by rw [hsz]; exact (hr1.2 g hg).1, by rw [addF_old (hgn g hg)]; exact (hr1.2 g hg).2.1, (hr1.2 g hg).2.2⟩⟩
  · unfold cellF addF
    simp [b2, hn, hv]
theorem stMark {ops : Array Oper} {Q : Exit → Act → World → Prop} {a : Act} {rest : List Oper} {d : Option Tmp} {t E : TypeId} {x : Operand} {pos : String} {after : Array Edge} {guard : Option (Nat × Bool)} {w0 w : World} {F0 F : Fz} {L : List Blk} {M : List RowP} {n l k : Nat} {c : List Value} (S : St w0 F0 w F (⟨n, c, E⟩ :: L) M)
    (hw : Region.wanted ⟨d, .convert 22 22 x, t, pos, after, guard⟩ (yielded ops a.tmps) = true) (hx : a.eval x = .slice (some ⟨n, 0, none⟩) l k)
    (h : ∀ w' F', St w0 F0 w' F' L M → Le F F' → (∀ j v, c[j]? = some v → cellF F' n j = some v) → WL Tryd.prog ops Q rest (a.put d (.slice (some ⟨n, 0, none⟩) l k)) w') : WL Tryd.prog ops Q (⟨d, .convert 22 22 x, t, pos, after, guard⟩ :: rest) a w := by
  have hb := (S.blk _ (List.mem_cons_self ..)).1
  simp only at hb
  have hr := conv_bytes ⟨n, 0, none⟩ l k w (t := E) (n := c.length) (by simp [World.shape?, hb])
  obtain ⟨F', S', h1, h2⟩ := S.mark ⟨n, c.length, none⟩ rfl
  exact do_ hw _ (by simp only [execOp, hx, Sem.run_bind, hr, Result.andThen_ok, Sem.run_pure]) (h _ _ S' h1 h2)
set_option maxHeartbeats 8000000 in
theorem knownSums_walk (W : World) (hT : Tabs W) :
    Calls Tryd.prog 3 #[] W (Tells W (.bool true)) := by
 obtain ⟨i5, hi5, hz5, hs5, hb5⟩ := info_parts infoU8
 have S := St.start (Sat.whole W)
 go_enter Tryd.func3, Tryd.ntmps3
 refine wp_seq_k (fun K101 hK101 => region_wl ?_)
 refine do_ rfl (.bool false) (ex_assign _) ?_
 simp only [pS, pN, pA, pC, pZ]
 refine wl_nil (hK101 _ _ ?_)
 refine wp_seq_k (fun K102 hK102 => region_wl ?_)
 refine stGives S rfl (ex_fn (vs := #[(.slice none 0 0)]) (map1 rfl) rfl (ent_15 _ _)) (Sum_spec _ _ _ ([] : By) (S).sat (hT.at S.gr.below) (Bs.nil _) (by decide)) ?_
 intro v108 w103 F105 S104 le106 R107
 obtain ⟨x109, rfl, r110⟩ := R107
 obtain ⟨xa111, xc112, rfl, _⟩ := r110.shape
 have r110 : Bs _ (.slice xa111 (sumL ([] : By)).length xc112) (sumL ([] : By)) := r110
 simp only [pS, pN, pA, pC, pZ]
 refine do_ rfl (.tuple #[(.slice xa111 (sumL ([] : By)).length xc112), (.int .i64 0)]) (ex_move _) ?_
 simp only [pS, pN, pA, pC, pZ]
 refine do_ rfl (.slice xa111 (sumL ([] : By)).length xc112) (ex_extract rfl rfl) ?_
 simp only [pS, pN, pA, pC, pZ]
 refine do_ rfl (.int .i64 0) (ex_extract rfl rfl) ?_
 simp only [pS, pN, pA, pC, pZ]
 refine do_ rfl (.slice xa111 (sumL ([] : By)).length xc112) (ex_assign _) ?_
 simp only [pS, pN, pA, pC, pZ]
 refine do_ rfl (.int .i64 0) (ex_assign _) ?_
 simp only [pS, pN, pA, pC, pZ]
 refine wl_nil (hK102 _ _ ?_)
 refine wp_seq_k (fun K113 hK113 => region_wl ?_)
 refine stNew S104 (v := fun n => .slice (some ⟨n, 0, none⟩) 3 3) rfl (ex_lit (ps := #[(0, (.int .u8 97)), (1, (.int .u8 98)), (2, (.int .u8 99))]) (cells := #[(.int .u8 97), (.int .u8 98), (.int .u8 99)]) (E := 5) (bmap3 rfl rfl rfl) (fun w => by kernel_rfl)) (fun n114 w115 S116 => ?_)
 simp only [pS, pN, pA, pC, pZ]
 have S116 : St W (whole W) w115 F105 [⟨n114, [(.int .u8 97), (.int .u8 98), (.int .u8 99)], 5⟩] [] := S116
 refine stMark S116 rfl rfl ?_
 intro w117 F118 S119 le120 hc121
 simp only [pS, pN, pA, pC, pZ]
 have r122 := bs_of_block (l := ([97, 98, 99] : By)) hc121 rfl (by decide)
 have S119 : St W (whole W) w117 F118 [] [] := S119
 refine stGives S119 rfl (ex_fn (vs := #[(.slice (some ⟨n114, 0, none⟩) 3 3)]) (map1 rfl) rfl (ent_15 _ _)) (Sum_spec _ _ _ ([97, 98, 99] : By) (S119).sat (hT.at S119.gr.below) r122 (by decide)) ?_
 intro v128 w123 F125 S124 le126 R127
 obtain ⟨x129, rfl, r130⟩ := R127
 obtain ⟨xa131, xc132, rfl, _⟩ := r130.shape
 have r130 : Bs _ (.slice xa131 (sumL ([97, 98, 99] : By)).length xc132) (sumL ([97, 98, 99] : By)) := r130
 simp only [pS, pN, pA, pC, pZ]
 refine do_ rfl (.tuple #[(.slice xa131 (sumL ([97, 98, 99] : By)).length xc132), (.int .i64 0)]) (ex_move _) ?_
 simp only [pS, pN, pA, pC, pZ]
 refine do_ rfl (.slice xa131 (sumL ([97, 98, 99] : By)).length xc132) (ex_extract rfl rfl) ?_
 simp only [pS, pN, pA, pC, pZ]
 refine do_ rfl (.int .i64 0) (ex_extract rfl rfl) ?_
 simp only [pS, pN, pA, pC, pZ]
 refine do_ rfl (.slice xa131 (sumL ([97, 98, 99] : By)).length xc132) (ex_assign _) ?_
 simp only [pS, pN, pA, pC, pZ]
 refine do_ rfl (.int .i64 0) (ex_assign _) ?_
 simp only [pS, pN, pA, pC, pZ]
 refine wl_nil (hK113 _ _ ?_)
 refine wp_seq_k (fun K133 hK133 => region_wl ?_)
 refine do_ rfl (.int .i64 0) (ex_move _) ?_
 simp only [pS, pN, pA, pC, pZ]
 refine do_ rfl (.bool true) (ex_eql (b := true) rfl rfl (by decide)) ?_
 simp only [pS, pN, pA, pC, pZ]
 refine do_ rfl (.bool true) (ex_move _) ?_
 simp only [pS, pN, pA, pC, pZ]
 refine do_ rfl (.int .i64 0) (ex_move _) ?_
 simp only [pS, pN, pA, pC, pZ]
 refine do_ rfl (.bool true) (ex_eql (b := true) rfl rfl (by decide)) ?_
 simp only [pS, pN, pA, pC, pZ]
 refine do_ rfl (.bool true) (ex_pick (b := true) rfl) ?_
 simp only [pS, pN, pA, pC, pZ]
 refine do_ rfl (.bool true) (ex_move _) ?_
 simp only [pS, pN, pA, pC, pZ]
 refine do_ rfl (.slice xa111 (sumL ([] : By)).length xc112) (ex_move _) ?_
 simp only [pS, pN, pA, pC, pZ]
 refine stGives S124 rfl (ex_fn (vs := #[(.string ⟨hexSA.toArray⟩)]) (map1 rfl) rfl (ent_17 _ _)) (hex_spec _ _ hexSA (S124).sat hexSA_ok (by decide) (by decide)) ?_
 intro v139 w134 F136 S135 le137 R138
 obtain ⟨xa140, xc141, rfl, _⟩ := R138.shape
 simp only [pS, pN, pA, pC, pZ]
 refine stTells (v := (.bool true)) S135 rfl (ex_fn (vs := #[(.slice xa111 (sumL ([] : By)).length xc112), (.slice xa140 (hexL hexSA (hexSA.length / 2)).length xc141)]) (map2 rfl rfl) rfl (ent_16 _ _)) (tells_bool (tells_same (same_spec _ _ _ _ (sumL ([] : By)) (hexL hexSA (hexSA.length / 2)) (S135).sat (r110.mono ((le120.trans le126).trans le137)) R138)) (beq_iff_eq.2 (sumA))) (fun w142 S143 => ?_)
 simp only [pS, pN, pA, pC, pZ]
 refine do_ rfl (.bool true) (ex_pick (b := true) rfl) ?_
 simp only [pS, pN, pA, pC, pZ]
 refine do_ rfl (.bool true) (ex_move _) ?_
 simp only [pS, pN, pA, pC, pZ]
 refine do_ rfl (.slice xa131 (sumL ([97, 98, 99] : By)).length xc132) (ex_move _) ?_
 simp only [pS, pN, pA, pC, pZ]
 refine stGives S143 rfl (ex_fn (vs := #[(.string ⟨hexSB.toArray⟩)]) (map1 rfl) rfl (ent_17 _ _)) (hex_spec _ _ hexSB (S143).sat hexSB_ok (by decide) (by decide)) ?_
 intro v149 w144 F146 S145 le147 R148
 obtain ⟨xa150, xc151, rfl, _⟩ := R148.shape
 simp only [pS, pN, pA, pC, pZ]
 refine stTells (v := (.bool true)) S145 rfl (ex_fn (vs := #[(.slice xa131 (sumL ([97, 98, 99] : By)).length xc132), (.slice xa150 (hexL hexSB (hexSB.length / 2)).length xc151)]) (map2 rfl rfl) rfl (ent_16 _ _)) (tells_bool (tells_same (same_spec _ _ _ _ (sumL ([97, 98, 99] : By)) (hexL hexSB (hexSB.length / 2)) (S145).sat (r130.mono (le137.trans le147)) R148)) (beq_iff_eq.2 (sumB))) (fun w152 S153 => ?_)
 simp only [pS, pN, pA, pC, pZ]
 refine do_ rfl (.bool true) (ex_pick (b := true) rfl) ?_
 simp only [pS, pN, pA, pC, pZ]
 refine do_ rfl (.bool true) (ex_assign _) ?_
 simp only [pS, pN, pA, pC, pZ]
 refine wl_nil (hK133 _ _ ?_)
 refine wp_ret ?_
 (try simp only [Exit.then, Exit.inBlock, ↓reduceIte, Nat.reduceEqDiff])
 refine bodyPost_ret (v := (.bool true)) ?_ rfl ?_
 ·exact res_t rfl rfl
 ·exact ⟨rfl, S153.gr.below⟩
end Go.Proofs.YtcanckliggcllaaDoor
