/- Rules, plain laws and walks: S4 S5 S6 TY TI R2 N1 P10 P11 T1a T1b T2 T3 S7 -/
import Derived.Test.YtilgpdpooildcaaGreatDoorFA2
import Derived.Laws.IdiomCopy
import Derived.ArgAppend
import Derived.Lib.AppendZerosOnto
import Derived.Lib.Overlaps
import Derived.Laws.MakeOwn
import Derived.Test.YtilgpdpooildcaaGreatDoorFA1
import Derived.Lib.SmallJoins
import Derived.Lib.Bytealg
namespace Go.Proofs.YtilgpdpooildcaaGreatDoor
set_option maxHeartbeats 8000000
open Go.RowKit
set_option linter.unusedVariables false
section
variable {P : Program} {w0 w w' : World} {F0 F : Fz} {L : List Blk} {M : List RowP} {α : Type} {k base E : Nat} {R : Fz → List Value → α → Prop} {hR : ∀ F F' x p, Le F F' → R F x p → R F' x p} {v : Value} {l : List α}
theorem St.other (S : St w0 F0 w F L M) {r : Nat} {p : RowP} (hM : M[r]? = some p) : ∀ s ∈ M.eraseIdx r, ∀ g, p.ob = some g → s.ob ≠ some g := by
 obtain ⟨hi, he⟩ := List.getElem?_eq_some_iff.1 hM
 intro s hs g hg hc
 obtain ⟨k', hk, rfl⟩ := List.mem_iff_getElem.1 hs
 have hp := List.pairwise_iff_getElem.1 S.rr
 rw [List.length_eraseIdx, if_pos hi] at hk
 rw [List.getElem_eraseIdx] at hc
 split at hc
 ·rename_i hlt
  have := hp k' r (by omega) hi hlt g hc; rw [he] at this; exact this hg
 ·rename_i hge
  have := hp r (k' + 1) hi (by omega) (by omega) g (by rw [he]; exact hg); exact this hc
theorem St.rowBlk {r g n cap : Nat} (S : St w0 F0 w F L M) (hM : M[r]? = some (bV k R hR E base (.slice (some ⟨g, 0, none⟩) n cap) l)) :
    ∃ c el, St w0 F0 w F (⟨g, c, E⟩ :: L) (M.eraseIdx r) ∧ n = l.length ∧ n ≤ cap ∧ cap ≤ maxLen ∧ c.length = cap * k ∧ c.take (n * k) = el.flatten ∧ AllR (R F) el l ∧ (∀ x ∈ el, x.length = k) ∧ base ≤ g := by
 have hown := S.own hM
 obtain ⟨hi, he⟩ := List.getElem?_eq_some_iff.1 hM
 have hm : bV k R hR E base (.slice (some ⟨g, 0, none⟩) n cap) l ∈ M := by rw [← he]; exact List.getElem_mem hi
 obtain ⟨el, ⟨e1, e2⟩, h2, h3⟩ := hown.ex
 have hsub := List.eraseIdx_sublist M r
 have hr0 := (S.row _ hm).2 g rfl
 rcases e2 with ⟨e2, _⟩ | ⟨g', cap', cur, e2, q0, hg, q1, q2, q3, q4⟩
 cases e2
 injection e2 with e2 e2n e2c
 injection e2 with e2
 injection e2 with e2
 subst e2; subst e2n; subst e2c
 refine ⟨cur.toList, el, ⟨S.gr, fun x hx => ?_, fun s hs => S.row s (hsub.subset hs), ?_, fun s hs x hx => ?_, S.rr.sublist hsub⟩, rfl, q1, q2, by simpa using q3, q4, h2, h3, q0⟩
 rcases List.mem_cons.1 hx with rfl | hx
 exact ⟨by simpa using hg, hr0.2.1, hr0.2.2⟩
 exact S.blk x hx
 exact List.pairwise_cons.2 ⟨fun x hx e => S.rb _ hm x hx (congrArg some e), S.bb⟩
 rcases List.mem_cons.1 hx with rfl | hx
 exact S.other hM s hs g rfl
 exact S.rb s (hsub.subset hs) x hx
theorem St.blkRow {g cap : Nat} {c : List Value} (S : St w0 F0 w F (⟨g, c, E⟩ :: L) M) {el : List (List Value)} (hc : c.take (l.length * k) = el.flatten) (h2 : AllR (R F) el l) (h3 : ∀ x ∈ el, x.length = k) (h4 : c.length = cap * k) (h5 : l.length ≤ cap) (h6 : cap ≤ maxLen) (hb : base ≤ g) : St w0 F0 w F L (bV k R hR E base (.slice (some ⟨g, 0, none⟩) l.length cap) l :: M) := by
 have hb0 := S.blk ⟨g, c, E⟩ (by simp)
 have hbb := List.pairwise_cons.1 S.bb
 refine ⟨S.gr, fun x hx => S.blk x (by simp [hx]), fun r hr => ?_, hbb.2, fun r hr x hx => ?_, List.pairwise_cons.2 ⟨fun s hs b hb' hc' => ?_, S.rr⟩⟩
 rcases List.mem_cons.1 hr with rfl | hr
 refine ⟨⟨⟨el, ⟨?_, .inr ⟨g, cap, c.toArray, rfl, hb, hb0.1, h5, h6, by simpa using h4, by simpa using hc⟩⟩, h2, h3⟩, fun b e => ?_⟩, fun b e => ?_⟩
 rw [eY h3, h2.len]
 cases e; exact hb0.2.1
 cases e; exact ⟨S.blk_lt (x := ⟨g, c, E⟩) (by simp), hb0.2⟩
 exact S.row r hr
 rcases List.mem_cons.1 hr with rfl | hr
 intro e; cases e; exact hbb.1 x hx rfl
 exact S.rb r hr x (by simp [hx])
 cases hb'; exact S.rb s hs ⟨g, c, E⟩ (by simp) hc'
theorem RK (w : World) (dT sT ty elem : TypeId) (b o dLen dCap k : Nat) (a : Addr) (sLen sCap m : Nat) (cs : List Value)
    (hu : P.underlying dT = some (.slice elem)) (hs : (P.info? elem).map (·.size) = some k) (hn : Nat.min sLen dLen = m) (hl : cs.length = m * k)
    (hsrc : ∀ j v, cs[j]? = some v → w.cell? (a.add j) = some v) (ht : w.there b o cs.length) (h1 : ∀ v ∈ cs, v.oneCell' = true) :
    (Builtin.copy_ #[dT, sT] ty #[.slice (some ⟨b, o, none⟩) dLen dCap, .slice (some a) sLen sCap]).run P w = .ok (.int .i64 (m : Int)) (w.setCells b o cs) := by
 have hf := run_firstCells_some (P := P) w k m a sLen sCap cs hl hsrc
 have hst := run_storeCells_cells (P := P) b o cs 0 w (fun j hj => by simpa using (ht j hj).1) (fun j hj => by simpa using (ht j hj).2) h1
 cases hq : P.info? elem with
 | none => simp [hq] at hs
 | some i =>
  have hi : i.size = k := by simpa [hq] using hs
  simp [Builtin.copy_, run_underlying hu, Builtin.lenOf, sizeOf, typeInfo, hq, hi, hn, hf, hst]
  rfl
theorem rY {ops : Array Oper} {Q : Exit → Act → World → Prop} {a : Act} {rest : List Oper} {d : Option Tmp} {t dT sT elem : TypeId} {x y : Operand} {pos : String} {after : Array Edge} {guard : Option (Nat × Bool)} {i g j dl dc sl sc : Nat} {T : TypeId} {c : List Value} {ad : Addr} (m : Nat) (cs : List Value) (S : St w0 F0 w F L M)
    (hw : Region.wanted ⟨d, .call ⟨.builtin .copy, #[x, y], #[dT, sT]⟩, t, pos, after, guard⟩ (yielded ops a.tmps) = true) (hu : P.underlying dT = some (.slice elem)) (hz : (P.info? elem).map (·.size) = some k)
    (hx : a.eval x = .slice (some ⟨g, j, none⟩) dl dc) (hy : a.eval y = .slice (some ad) sl sc) (hL : L[i]? = some ⟨g, c, T⟩) (hm : Nat.min sl dl = m) (hl : cs.length = m * k) (hfit : j + cs.length ≤ c.length)
    (hsrc : ∀ q u, cs[q]? = some u → w.cell? (ad.add q) = some u) (h1 : ∀ u ∈ cs, u.oneCell' = true)
    (h : ∀ w', St w0 F0 w' F (L.set i ⟨g, bQ c j cs, T⟩) M → WL P ops Q rest (a.put d (.int .i64 (m : Int))) w') : WL P ops Q (⟨d, .call ⟨.builtin .copy, #[x, y], #[dT, sT]⟩, t, pos, after, guard⟩ :: rest) a w := by
 have hrun := RK (P := P) w dT sT t elem g j dl dc k ad sl sc m cs hu hz hm hl hsrc (S.there hL j cs.length hfit) h1
 refine do_ hw _ ?_ (h _ (S.store hL j cs hfit))
 simp only [execOp, resolve, invoke, builtin, Sem.run_bind, Sem.run_pure, Result.andThen_ok, List.map_toArray, List.map_cons, List.map_nil, hx, hy, hrun]
theorem MT (w : World) (t e ty : TypeId) (z : Value) (ht : P.underlying t = some (.slice e)) (hv : ∀ w, (zeroValue e).run P w = .ok z w) (b o n c : Nat) (zs : List Value) (hz : (Builtin.zeroCells z.cells n).toList = zs) (hn : 0 < n)
    (hth : w.there b o zs.length) (h1 : ∀ v ∈ zs, v.oneCell' = true) :
    (Builtin.clear_ #[t] ty #[.slice (some ⟨b, o, none⟩) n c]).run P w = .ok (.tuple #[]) (w.setCells b o zs) := by
 have hst := run_storeCells_cells (P := P) b o zs 0 w (fun j hj => by simpa using (hth j hj).1) (fun j hj => by simpa using (hth j hj).2) h1
 simp only [Nat.add_zero] at hst
 obtain ⟨m, rfl⟩ : ∃ m, n = m + 1 := ⟨n - 1, by omega⟩
 simp [Builtin.clear_, run_underlying ht, hv, hz, hst]
theorem PF {ops : Array Oper} {Q : Exit → Act → World → Prop} {a : Act} {rest : List Oper} {d : Option Tmp} {t sT elem : TypeId} {x : Operand} {pos : String} {after : Array Edge} {guard : Option (Nat × Bool)} {i g j n cp : Nat} {T : TypeId} {c : List Value} (z : Value) (zs : List Value) (S : St w0 F0 w F L M)
    (hw : Region.wanted ⟨d, .call ⟨.builtin .clear, #[x], #[sT]⟩, t, pos, after, guard⟩ (yielded ops a.tmps) = true) (hu : P.underlying sT = some (.slice elem)) (hv : ∀ w, (zeroValue elem).run P w = .ok z w) (hz : (Builtin.zeroCells z.cells n).toList = zs)
    (hx : a.eval x = .slice (some ⟨g, j, none⟩) n cp) (hn : 0 < n) (hL : L[i]? = some ⟨g, c, T⟩) (hfit : j + zs.length ≤ c.length) (h1 : ∀ u ∈ zs, u.oneCell' = true)
    (h : ∀ w', St w0 F0 w' F (L.set i ⟨g, bQ c j zs, T⟩) M → WL P ops Q rest (a.put d (.tuple #[])) w') : WL P ops Q (⟨d, .call ⟨.builtin .clear, #[x], #[sT]⟩, t, pos, after, guard⟩ :: rest) a w := by
 have hrun := MT (P := P) w sT elem t z hu hv g j n cp zs hz hn (S.there hL j zs.length hfit) h1
 refine do_ hw _ ?_ (h _ (S.store hL j zs hfit))
 simp only [execOp, resolve, invoke, builtin, Sem.run_bind, Sem.run_pure, Result.andThen_ok, List.map_toArray, List.map_cons, List.map_nil, hx, hrun]
theorem FY {ops : Array Oper} {Q : Exit → Act → World → Prop} {a : Act} {rest : List Oper} {d : Option Tmp} {t T E : TypeId} {x y : Operand} {pos : String} {after : Array Edge} {guard : Option (Nat × Bool)} {n m : Nat} (S : St w0 F0 w F L M)
    (hw : Region.wanted ⟨d, .makeSlice T x y, t, pos, after, guard⟩ (yielded ops a.tmps) = true) (inf : TypeInfo) (z : Value) (bytes : Nat) (ht : P.underlying T = some (.slice E)) (hi : P.info? E = some inf) (hz : inf.zero = some z) (hsize : inf.size = k) (hby : inf.bytes = bytes)
    (hx : a.eval x = .int .i64 (n : Int)) (hy : a.eval y = .int .i64 (m : Int)) (hnm : n ≤ m) (hb : bytes * m ≤ 281474976710656) (a0 : m ≤ 9223372036854775807)
    (h : ∀ g w', St w0 F0 w' F (⟨g, (madeCells z.cells (m * k)).toList, E⟩ :: L) M → WL P ops Q rest (a.put d (.slice (some ⟨g, 0, none⟩) n m)) w') : WL P ops Q (⟨d, .makeSlice T x y, t, pos, after, guard⟩ :: rest) a w := by
 subst hsize
 subst hby
 have hb' : (inf.bytes : Int) * (m : Int) ≤ 281474976710656 := by
  have h : ((inf.bytes * m : Nat) : Int) ≤ 281474976710656 := by omega
  rwa [Int.natCast_mul] at h
 have hrun := run_make (P := P) w T E inf z ht hi hz .i64 .i64 (n : Int) (m : Int) (by omega) (by omega) hb' (by omega)
 simp only [Int.toNat_natCast] at hrun
 refine do_ hw _ ?_ (h _ _ (S.alloc _ _))
 simp only [execOp, hx, hy, Sem.run_bind, hrun, Result.andThen_ok, Sem.run_pure]
theorem UF {ops : Array Oper} {Q : Exit → Act → World → Prop} {a : Act} {rest : List Oper} {d : Option Tmp} {t T I E : TypeId} {x s : Operand} {pos : String} {after : Array Edge} {guard : Option (Nat × Bool)} {n m cap : Nat} {b : Addr} (nm : Nat) (olds : List Value) (S : St w0 F0 w F L M)
    (hw : Region.wanted ⟨d, .call ⟨.builtin .append, #[s, x], #[T, I]⟩, t, pos, after, guard⟩ (yielded ops a.tmps) = true)
    (inf : TypeInfo) (z : Value) (bytes : Nat) (ht : P.underlying T = some (.slice E)) (htI : P.underlying I = some (.int .i64)) (hi : P.info? E = some inf) (hz : inf.zero = some z) (hsize : inf.size = k) (hby : inf.bytes = bytes) (hzs : z.cells.size = k) (hk : 0 < k)
    (hs : a.eval s = .slice (some b) n cap) (hx : a.eval x = .int .i64 (m : Int)) (hm : 0 < m) (hlo : olds.length = n * k) (ho : ∀ q u, olds[q]? = some u → w.cell? (b.add q) = some u)
    (hnm : n + m = nm) (hgrow : cap < nm) (a0 : nm ≤ maxLen) (hbytes : nm * bytes ≤ 140737488355328)
    (h : ∀ g cap' news more w', nm ≤ cap' → cap' ≤ maxLen → news.length = m * k → (olds ++ news ++ more).length = cap' * k → St w0 F0 w' F (⟨g, olds ++ news ++ more, E⟩ :: L) M → WL P ops Q rest (a.put d (.slice (some ⟨g, 0, none⟩) nm cap')) w') : WL P ops Q (⟨d, .call ⟨.builtin .append, #[s, x], #[T, I]⟩, t, pos, after, guard⟩ :: rest) a w := by
 subst hnm
 subst hsize
 subst hby
 have hsmall : n + m ≤ 9223372036854775807 := by simp only [maxLen] at a0; omega
 have hold := run_firstCells_some (P := P) w.drew inf.size n b n cap olds hlo ho
 have hmb : m * inf.bytes ≤ 281474976710656 := by
  have := Nat.mul_le_mul_right inf.bytes (show m ≤ n + m by omega)
  omega
 have hrun := Lib.run_append_grow_zeros (P := P) w T I t E inf z .i64 .i64 ht htI hi hz (some b) n cap olds hold m hm hk hgrow (by omega) hmb (growslice_fits hgrow hbytes)
 have hge := grownCap_ge w (n + m) cap E
 have hcm : grownCap w (n + m) cap E ≤ maxLen := grownCap_le_maxLen w (n + m) cap E a0
 have S2 := (S.tells (show Below w.heap.size w w.drew from (Below.refl _ _).drew)).alloc (olds.toArray ++ Builtin.zeroCells z.cells m ++ Builtin.zeroCells z.cells (grownCap w (n + m) cap E - (n + m))) E
 have e : (olds.toArray ++ Builtin.zeroCells z.cells m ++ Builtin.zeroCells z.cells (grownCap w (n + m) cap E - (n + m))).toList = olds ++ (Builtin.zeroCells z.cells m).toList ++ (Builtin.zeroCells z.cells (grownCap w (n + m) cap E - (n + m))).toList := by simp
 rw [e] at S2
 have hnl : (Builtin.zeroCells z.cells m).toList.length = m * inf.size := by rw [Array.length_toList, size_zeroCells, hzs]
 refine do_ hw _ ?_ (h _ _ _ _ _ hge hcm hnl ?_ S2)
 simp only [execOp, resolve, invoke, builtin, Sem.run_bind, Sem.run_pure, Result.andThen_ok, List.map_toArray, List.map_cons, List.map_nil, hs, hx, hrun]
 rfl
 have hzl : (Builtin.zeroCells z.cells (grownCap w (n + m) cap E - (n + m))).toList.length = (grownCap w (n + m) cap E - (n + m)) * inf.size := by rw [Array.length_toList, size_zeroCells, hzs]
 rw [List.length_append, List.length_append, hlo, hnl, hzl, ← Nat.add_mul, ← Nat.add_mul]
 congr 1
 omega
theorem UG {ops : Array Oper} {Q : Exit → Act → World → Prop} {a : Act} {rest : List Oper} {d : Option Tmp} {t T E : TypeId} {x s : Operand} {pos : String} {after : Array Edge} {guard : Option (Nat × Bool)} {i g n m cap cp : Nat} {ad : Addr} {c : List Value} {T' : TypeId} (nm : Nat) (news : List Value) (S : St w0 F0 w F L M)
    (hw : Region.wanted ⟨d, .call ⟨.builtin .append, #[s, x], #[T, T]⟩, t, pos, after, guard⟩ (yielded ops a.tmps) = true)
    (inf : TypeInfo) (ht : P.underlying T = some (.slice E)) (hi : P.info? E = some inf) (hsize : inf.size = k)
    (hs : a.eval s = .slice (some ⟨g, 0, none⟩) n cap) (hx : a.eval x = .slice (some ad) m cp) (hL : L[i]? = some ⟨g, c, T'⟩) (hln : news.length = m * k) (hn : ∀ q u, news[q]? = some u → w.cell? (ad.add q) = some u) (h1 : ∀ u ∈ news, u.oneCell' = true)
    (hnm : n + m = nm) (hroom : nm ≤ cap) (hfit : n * k + news.length ≤ c.length)
    (h : ∀ w', St w0 F0 w' F (L.set i ⟨g, bQ c (n * k) news, T'⟩) M → WL P ops Q rest (a.put d (.slice (some ⟨g, 0, none⟩) nm cap)) w') : WL P ops Q (⟨d, .call ⟨.builtin .append, #[s, x], #[T, T]⟩, t, pos, after, guard⟩ :: rest) a w := by
 subst hnm
 subst hsize
 have ht0 := S.there hL (n * inf.size) news.length hfit
 have hrun := run_append_room_cells (P := P) w T t E inf ht hi g 0 n cap ad m cp news hln hn h1 hroom (fun j hj => by simpa using (ht0 j hj).1) (fun j hj => by simpa using (ht0 j hj).2)
 rw [Nat.zero_add] at hrun
 refine do_ hw _ ?_ (h _ (S.store hL (n * inf.size) news hfit))
 simp only [execOp, resolve, invoke, builtin, Sem.run_bind, Sem.run_pure, Result.andThen_ok, List.map_toArray, List.map_cons, List.map_nil, hs, hx, hrun]
end
theorem vX {P : Program} {w0 w : World} {F0 F : Fz} {ops : Array Oper} {Q : Exit → Act → World → Prop} {a : Act} {rest : List Oper} {o : Oper} {k : FuncId} {vs : Array Value} {L : List Blk} {M : Value → List RowP} (hw : Region.wanted o (yielded ops a.tmps) = true)
    (hr : (execOp a.eval o).run P w = .ok (.enter k vs) w) (hc : Calls P k vs w fun e w' => ∃ v, e = .returned v ∧ St w0 F0 w' F L (M v))
    (h : ∀ v w', St w0 F0 w' F L (M v) → WL P ops Q rest (a.put o.dst v) w') : WL P ops Q (o :: rest) a w :=
  doC hw hr hc fun e w' ⟨v, he, hS⟩ => ⟨v, he, h v w' hS⟩
section
variable {k i n : Nat} {c zs vs : List Value} {el : List (List Value)}
theorem YS (A B K : Nat) (hA : A ≤ B) (hc : B + K ≤ c.length) (hv : vs.length = K) :
    (bQ (bQ c (A + K) ((c.drop A).take (B - A))) A vs).take (B + K) = (c.take B).take A ++ (vs ++ (c.take B).drop A) := by
 unfold bQ
 apply List.ext_getElem?
 intro j
 simp only [List.getElem?_append, List.getElem?_take, List.getElem?_drop, List.length_take, List.length_drop, List.length_append, hv]
 grind
theorem UH (A B K : Nat) (hA : A ≤ B) {x : List Value} (hB : B ≤ c.length) (hx : x.length = B + K - A) {more : List Value} (hv : vs.length = K) :
    (bQ (bQ (c.take A ++ x ++ more) A vs) (A + K) ((c.drop A).take (B - A))).take (B + K) = (c.take B).take A ++ (vs ++ (c.take B).drop A) := by
 unfold bQ
 apply List.ext_getElem?
 intro j
 simp only [List.getElem?_append, List.getElem?_take, List.getElem?_drop, List.length_take, List.length_drop, List.length_append, hv, hx]
 grind
theorem YT (A B K : Nat) (hA : A + K ≤ B) (hc : B ≤ c.length) (hz : zs.length = K) :
    (bQ (bQ c A ((c.drop (A + K)).take (B - (A + K)))) (B - K) zs).take (B - K) = (c.take B).take A ++ (c.take B).drop (A + K) := by
 unfold bQ
 apply List.ext_getElem?
 intro j
 simp only [List.getElem?_append, List.getElem?_take, List.getElem?_drop, List.length_take, List.length_drop, List.length_append, hz]
 grind
variable (h3 : ∀ x ∈ el, x.length = k) (hc : c.take (n * k) = el.flatten)
include h3 hc
theorem EF (hi : i ≤ n) (hl : (n + 1) * k ≤ c.length) (hv : vs.length = k) :
    (bQ (bQ c ((i + 1) * k) ((c.drop (i * k)).take ((n - i) * k))) (i * k) vs).take ((n + 1) * k) = (el.take i ++ vs :: el.drop i).flatten := by
 have hA : i * k ≤ n * k := Nat.mul_le_mul_right k hi
 have := YS (c := c) (vs := vs) (i * k) (n * k) k hA (by rw [Nat.add_mul, Nat.one_mul] at hl; exact hl) hv
 rw [Nat.add_mul, Nat.one_mul, Nat.sub_mul, Nat.add_mul, Nat.one_mul, this, hc, List.flatten_append, List.flatten_cons, nB h3, nC h3]
theorem AW (hi : i ≤ n) (hl : n * k ≤ c.length) {x more : List Value} (hx : x.length = (n + 1 - i) * k) (hv : vs.length = k) :
    (bQ (bQ (c.take (i * k) ++ x ++ more) (i * k) vs) ((i + 1) * k) ((c.drop (i * k)).take ((n - i) * k))).take ((n + 1) * k) = (el.take i ++ vs :: el.drop i).flatten := by
 have hA : i * k ≤ n * k := Nat.mul_le_mul_right k hi
 have := UH (c := c) (vs := vs) (x := x) (more := more) (i * k) (n * k) k hA hl (by rw [hx, Nat.sub_mul, Nat.add_mul, Nat.one_mul]) hv
 rw [Nat.add_mul, Nat.one_mul, Nat.sub_mul, Nat.add_mul, Nat.one_mul, this, hc, List.flatten_append, List.flatten_cons, nB h3, nC h3]
theorem EG (hi : i < n) (hl : n * k ≤ c.length) (hz : zs.length = k) :
    (bQ (bQ c (i * k) ((c.drop ((i + 1) * k)).take ((n - (i + 1)) * k))) ((n - 1) * k) zs).take ((n - 1) * k) = (el.take i ++ el.drop (i + 1)).flatten := by
 have hA : (i + 1) * k ≤ n * k := Nat.mul_le_mul_right k hi
 rw [Nat.add_mul, Nat.one_mul] at hA
 have := YT (c := c) (zs := zs) (i * k) (n * k) k hA hl hz
 rw [Nat.add_mul, Nat.one_mul, Nat.sub_mul, Nat.sub_mul, Nat.add_mul, Nat.one_mul, this, hc, List.flatten_append, nB h3, nC h3, Nat.add_mul, Nat.one_mul]
end
theorem St.src {w0 w : World} {F0 F : Fz} {L : List Blk} {M : List RowP} (S : St w0 F0 w F L M) {i n : Nat} {c : List Value} {T : TypeId} (hL : L[i]? = some ⟨n, c, T⟩) (j m : Nat) : ∀ q u, ((c.drop j).take m)[q]? = some u → w.cell? ((⟨n, j, none⟩ : Addr).add q) = some u := by
 intro q u hu
 rw [Addr.add_mid]
 rw [List.getElem?_take] at hu
 split at hu
 ·rw [List.getElem?_drop] at hu
  exact S.cell hL hu
 ·cases hu
theorem St.src0 {w0 w : World} {F0 F : Fz} {L : List Blk} {M : List RowP} (S : St w0 F0 w F L M) {i n : Nat} {c : List Value} {T : TypeId} (hL : L[i]? = some ⟨n, c, T⟩) : ∀ q u, c[q]? = some u → w.cell? ((⟨n, 0, none⟩ : Addr).add q) = some u := by
 intro q u hu
 rw [Addr.add_mid, Nat.zero_add]
 exact S.cell hL hu
theorem St.srcT {w0 w : World} {F0 F : Fz} {L : List Blk} {M : List RowP} (S : St w0 F0 w F L M) {i n : Nat} {c : List Value} {T : TypeId} (hL : L[i]? = some ⟨n, c, T⟩) (m : Nat) : ∀ q u, (c.take m)[q]? = some u → w.cell? ((⟨n, 0, none⟩ : Addr).add q) = some u := by
 intro q u hu
 rw [Addr.add_mid, Nat.zero_add]
 rw [List.getElem?_take] at hu
 split at hu
 ·exact S.cell hL hu
 ·cases hu
theorem tI {α : Type} {R : Fz → List Value → α → Prop} {F : Fz} {k : Nat} {c : List Value} {el : List (List Value)} {l : List α} (hone : ∀ F cs p, R F cs p → ∀ u ∈ cs, u.oneCell' = true) (hall : AllR (R F) el l) (hc : c.take (l.length * k) = el.flatten) (i : Nat) : ∀ u ∈ (c.drop (i * k)).take ((l.length - i) * k), u.oneCell' = true := by
 intro u hu
 have e : (c.drop (i * k)).take ((l.length - i) * k) = el.flatten.drop (i * k) := by
  rw [← hc, List.drop_take, Nat.sub_mul]
 rw [e] at hu
 obtain ⟨y, hy, huy⟩ := List.mem_flatten.1 (List.mem_of_mem_drop hu)
 obtain ⟨j, hj, rfl⟩ := List.mem_iff_getElem.1 hy
 exact hone _ _ _ (hall.get j hj (by rw [← hall.len]; exact hj)) u huy
theorem oQ {α : Type} {R : List Value → α → Prop} {xs : List (List Value)} {ps : List α} (h : AllR R xs ps) (i : Nat) {x : List Value} {p : α} (hx : R x p) : AllR R (xs.take i ++ x :: xs.drop i) (ps.take i ++ p :: ps.drop i) := (h.take i).append ⟨hx, h.drop i⟩
theorem yH {α : Type} {R : List Value → α → Prop} {xs : List (List Value)} {ps : List α} (h : AllR R xs ps) (i : Nat) : AllR R (xs.take i ++ xs.drop (i + 1)) (ps.take i ++ ps.drop (i + 1)) := (h.take i).append (h.drop (i + 1))
theorem qU {el : List (List Value)} {k : Nat} (h : ∀ x ∈ el, x.length = k) (i : Nat) {x : List Value} (hx : x.length = k) : ∀ y ∈ el.take i ++ x :: el.drop i, y.length = k := by
 intro y hy
 rcases List.mem_append.1 hy with hy | hy
 ·exact h y (List.mem_of_mem_take hy)
 ·rcases List.mem_cons.1 hy with rfl | hy
  ·exact hx
  ·exact h y (List.mem_of_mem_drop hy)
theorem AX {el : List (List Value)} {k : Nat} (h : ∀ x ∈ el, x.length = k) (i : Nat) : ∀ y ∈ el.take i ++ el.drop (i + 1), y.length = k := by
 intro y hy
 rcases List.mem_append.1 hy with hy | hy
 ·exact h y (List.mem_of_mem_take hy)
 ·exact h y (List.mem_of_mem_drop hy)
section
variable {P : Program} {ρ : Operand → Value} {w : World} {d : Option Tmp} {t X Y : TypeId} {pos : String} {after : Array Edge} {guard : Option (Nat × Bool)} {x y : Operand} {l m : List UInt8}
def Cw (op : BinOp) (l m : List UInt8) : Bool := match op with | .lss => Op.bytesLess l m | .leq => Op.bytesLess l m || l == m | .gtr => !(Op.bytesLess l m || l == m) | .geq => !Op.bytesLess l m | .eql => l == m | _ => !(l == m)
theorem UI {op : BinOp} {b : Bool} (hop : op = .lss ∨ op = .leq ∨ op = .gtr ∨ op = .geq ∨ op = .eql ∨ op = .neq) (hx : ρ x = .string ⟨l.toArray⟩) (hy : ρ y = .string ⟨m.toArray⟩)
    (h : Cw op l m = b) :
    (execOp ρ ⟨d, .binOp op X x y Y, t, pos, after, guard⟩).run P w = .ok (.value (.bool b)) w := by
 subst h
 have e : (eqGuard op X x y (.string ⟨l.toArray⟩) (.string ⟨m.toArray⟩)).run P w = .ok () w := by
  unfold eqGuard
  rcases hop with rfl | rfl | rfl | rfl | rfl | rfl <;> rfl
 have e2 : (binOp op X (.string ⟨l.toArray⟩) (.string ⟨m.toArray⟩)).run P w = .ok (.bool (Cw op l m)) w := by
  rcases hop with rfl | rfl | rfl | rfl | rfl | rfl <;> simp [binOp, Op.stringOp, Cw]
 simp only [execOp, hx, hy, Sem.run_bind, e, Result.andThen_ok, e2, Sem.run_pure]
theorem aX {v r : Value} (hx : ρ x = v) (h : (convert X Y v).run P w = .ok r w) : (execOp ρ ⟨d, .convert X Y x, t, pos, after, guard⟩).run P w = .ok (.value r) w := by
 subst hx
 simp only [execOp, Sem.run_bind, h, Result.andThen_ok, Sem.run_pure]
end
section
variable {P : Program} {ρ : Operand → Value} {w : World} {d : Option Tmp} {t X T : TypeId} {pos : String} {after : Array Edge} {guard : Option (Nat × Bool)} {x y : Operand} {k : IntKind} {m n r : Int}
theorem UJ {E : TypeId} {A : Option Addr} {l c : Nat} (hT : P.underlying T = some (.slice E)) (h : ρ x = .slice A l c) : (execOp ρ ⟨d, .call ⟨.builtin .cap, #[x], #[T]⟩, t, pos, after, guard⟩).run P w = .ok (.value (.int .i64 c)) w := by
 simp [execOp, resolve, invoke, builtin, Builtin.cap_, h, run_underlying hT w]; rfl
theorem UK {U : TypeId} (hx : ρ x = .int k m) (hy : ρ y = .int k n) (e : (if m < n then n else m) = r) : (execOp ρ ⟨d, .call ⟨.builtin .max, #[x, y], #[T, U]⟩, t, pos, after, guard⟩).run P w = .ok (.value (.int k r)) w := by
 subst e
 simp [execOp, resolve, invoke, builtin, Builtin.max_, Builtin.max2, hx, hy]
theorem uN {U : TypeId} (hx : ρ x = .int k m) (hy : ρ y = .int k n) (e : (if n < m then n else m) = r) : (execOp ρ ⟨d, .call ⟨.builtin .min, #[x, y], #[T, U]⟩, t, pos, after, guard⟩).run P w = .ok (.value (.int k r)) w := by
 subst e
 simp [execOp, resolve, invoke, builtin, Builtin.min_, Builtin.min2, hx, hy]
theorem EH {E : TypeId} {A : Option Addr} {n c : Nat} {lo hi mx : Operand} {l h m : Nat} {sz : Nat} {v : Value} (hX : P.underlying X = some (.slice E)) (hx : ρ x = .slice A n c) (hsz : (sizeOf E).run P w = .ok sz w)
    (hl : ρ lo = .int .i64 l) (hh : ρ hi = .int .i64 h) (hm : ρ mx = .int .i64 m) (h1 : l ≤ h) (h2 : h ≤ m) (h3 : m ≤ c)
    (hv : v = .slice (if m = l then A else A.map (·.add (l * sz))) (h - l) (m - l)) : (execOp ρ ⟨d, .slice X x (some lo) (some hi) (some mx), t, pos, after, guard⟩).run P w = .ok (.value v) w := by
 subst hv
 have b1 : ∀ (z y : Nat) (code : BoundsCode), z ≤ y → (Instr.sliceBound (.int .i64 z) y code).run P w = .ok z w := by
  intro z y code hzy
  have : (0 : Int) ≤ (z : Int) ∧ (z : Int) ≤ (y : Int) := by omega
  simp [Instr.sliceBound, asIntOf, this]
 have hb : (Instr.sliceBounds true n c (some (ρ lo)) (some (ρ hi)) (some (ρ mx))).run P w = .ok (l, h, m) w := by
  simp [Instr.sliceBounds, hl, hh, hm, b1 _ _ _ h1, b1 _ _ _ h2, b1 _ _ _ h3]
 have hs : (Instr.sliceAt X (.slice A n c) (some (ρ lo)) (some (ρ hi)) (some (ρ mx))).run P w = .ok (.slice (if m = l then A else A.map (·.add (l * sz))) (h - l) (m - l)) w := by
  simp [Instr.sliceAt, Sem.run_bind, run_underlying hX w, Instr.slice, hb, hsz]
 simp [execOp, hx, hs]
theorem iK {E : TypeId} {A : Option Addr} {n c : Nat} {hi mx : Operand} {h m : Nat} {sz : Nat} {v : Value} (hX : P.underlying X = some (.slice E)) (hx : ρ x = .slice A n c) (hsz : (sizeOf E).run P w = .ok sz w)
    (hh : ρ hi = .int .i64 h) (hm : ρ mx = .int .i64 m) (h2 : h ≤ m) (h3 : m ≤ c)
    (hv : v = .slice A h m) : (execOp ρ ⟨d, .slice X x none (some hi) (some mx), t, pos, after, guard⟩).run P w = .ok (.value v) w := by
 subst hv
 have b1 : ∀ (z y : Nat) (code : BoundsCode), z ≤ y → (Instr.sliceBound (.int .i64 z) y code).run P w = .ok z w := by
  intro z y code hzy
  have : (0 : Int) ≤ (z : Int) ∧ (z : Int) ≤ (y : Int) := by omega
  simp [Instr.sliceBound, asIntOf, this]
 have hb : (Instr.sliceBounds true n c none (some (ρ hi)) (some (ρ mx))).run P w = .ok (0, h, m) w := by
  simp [Instr.sliceBounds, hh, hm, b1 _ _ _ h2, b1 _ _ _ h3]
 have ha : (if m = 0 then A else A.map (·.add (0 * sz))) = A := by
  have : A.map (·.add (0 * sz)) = A := by cases A <;> simp [Addr.add]
  rw [this]; split <;> rfl
 have hs : (Instr.sliceAt X (.slice A n c) none (some (ρ hi)) (some (ρ mx))).run P w = .ok (.slice A h m) w := by
  simp only [Instr.sliceAt, Sem.run_bind, run_underlying hX w, Result.andThen_ok, Instr.slice, hb, hsz, Sem.run_pure, Nat.sub_zero, ha]
 simp [execOp, hx, hs]
end
theorem jD {F : Fz} {n : Nat} {c : List Value} {l : List UInt8} (h : ∀ j v, c[j]? = some v → bH F n j = some v) (e : c = l.map bv) (hl : l.length ≤ maxLen) : Bs F (.slice (some ⟨n, 0, none⟩) l.length l.length) l := by
 subst e
 exact Rw.of_cells (Nat.le_refl _) hl fun j u hu => by rw [Nat.zero_add]; exact h j u hu
theorem fS {α : Type} {k : Nat} {R : Fz → List Value → α → Prop} {F : Fz} {n : Nat} {c : List Value} {el : List (List Value)} {l : List α} (h : ∀ j v, c[j]? = some v → bH F n j = some v) (e : c = el.flatten) (hR : AllR (R F) el l) (hk : ∀ x ∈ el, x.length = k) (hl : l.length ≤ maxLen) : Sl k R F (.slice (some ⟨n, 0, none⟩) l.length l.length) l := by
 subst e
 exact ⟨el, Rw.of_cells (Nat.le_refl _) hl fun j u hu => by rw [Nat.zero_add]; exact h j u hu, hR, hk⟩
set_option maxRecDepth 100000
def EN (k : FuncId) : Prop := ∀ (vs : Array Value) (w : World), (callFunc k vs).run Tryz.prog w = .ok (.enter k vs) w
abbrev SZ (t : TypeId) (n : Nat) : Prop := (Tryz.prog.info? t).map (·.size) = some n
def ZR (t : TypeId) (v : Value) : Prop := ∀ w : World, (zeroValue t).run Tryz.prog w = .ok v w
def NG (t : TypeId) : Prop := ∀ w : World, (isAgg t).run Tryz.prog w = .ok false w
def SO (t : TypeId) (n : Nat) : Prop := ∀ w : World, (sizeOf t).run Tryz.prog w = .ok n w
def FZ (t : TypeId) (f : Nat) : Prop := ∀ (b o : Nat) (w : World), (Instr.fieldAt t (.pointer (some ⟨b, o, none⟩)) f).run Tryz.prog w = .ok (.pointer (some ⟨b, o, none⟩)) w
def FO (t : TypeId) (f n : Nat) : Prop := ∀ (b o : Nat) (w : World), (Instr.fieldAt t (.pointer (some ⟨b, o, none⟩)) f).run Tryz.prog w = .ok (.pointer (some ⟨b, o + n, none⟩)) w
abbrev IFO (t : TypeId) (z : Value) (n m : Nat) : Prop := (Tryz.prog.info? t).map (fun i => (i.zero, i.size, i.bytes)) = some (some z, n, m)
theorem bU : NG 3 := fun _ => by kernel_rfl
theorem MU : SZ 3 1 := (by kernel_rfl : _ = _)
theorem eR : SO 3 1 := fun _ => by kernel_rfl
theorem iE : NG 4 := fun _ => by kernel_rfl
theorem uO : SZ 4 1 := (by kernel_rfl : _ = _)
theorem fG : NG 5 := fun _ => by kernel_rfl
theorem UL : SZ 5 1 := (by kernel_rfl : _ = _)
theorem aV : SO 5 1 := fun _ => by kernel_rfl
theorem YU : NG 22 := fun _ => by kernel_rfl
theorem YV : NG 23 := fun _ => by kernel_rfl
theorem tJ : NG 24 := fun _ => by kernel_rfl
theorem pT : SO 24 1 := fun _ => by kernel_rfl
theorem bD : NG 25 := fun _ => by kernel_rfl
theorem oR : SZ 25 1 := (by kernel_rfl : _ = _)
theorem iV : SO 25 1 := fun _ => by kernel_rfl
theorem YW : NG 35 := fun _ => by kernel_rfl
theorem vY : NG 40 := fun _ => by kernel_rfl
theorem GA : SZ 40 1 := (by kernel_rfl : _ = _)
theorem zI : NG 41 := fun _ => by kernel_rfl
theorem PG : SZ 41 1 := (by kernel_rfl : _ = _)
theorem tK : NG 47 := fun _ => by kernel_rfl
theorem GB : SZ 47 1 := (by kernel_rfl : _ = _)
theorem YX : NG 48 := fun _ => by kernel_rfl
theorem GC : NG 60 := fun _ => by kernel_rfl
theorem zJ : SZ 60 1 := (by kernel_rfl : _ = _)
theorem YY : NG 61 := fun _ => by kernel_rfl
theorem UM : NG 105 := fun _ => by kernel_rfl
theorem pU : NG 106 := fun _ => by kernel_rfl
theorem AY : SZ 106 1 := (by kernel_rfl : _ = _)
theorem iS : NG 109 := fun _ => by kernel_rfl
theorem AZ : SZ 109 1 := (by kernel_rfl : _ = _)
theorem eC : NG 110 := fun _ => by kernel_rfl
theorem nV : SZ 110 1 := (by kernel_rfl : _ = _)
theorem UN : NG 137 := fun _ => by kernel_rfl
theorem BA : NG 139 := fun _ => by kernel_rfl
theorem IW : SZ 139 1 := (by kernel_rfl : _ = _)
theorem eE : SZ 50 2 := (by kernel_rfl : _ = _)
theorem vZ : ZR 50 (.agg #[.slice none 0 0, .slice none 0 0]) := fun _ => by kernel_rfl
theorem cK : SO 50 2 := fun _ => by kernel_rfl
theorem oS : IFO 50 (.agg #[.slice none 0 0, .slice none 0 0]) 2 48 := (by kernel_rfl : _ = _)
theorem GD : FZ 50 0 := fun _ _ _ => by go_simp
theorem zK : FO 50 1 1 := fun _ _ _ => by go_simp
theorem kB : SZ 66 2 := (by kernel_rfl : _ = _)
theorem zL : ZR 66 (.agg #[.slice none 0 0, .slice none 0 0]) := fun _ => by kernel_rfl
theorem cO : SO 66 2 := fun _ => by kernel_rfl
theorem tL : IFO 66 (.agg #[.slice none 0 0, .slice none 0 0]) 2 48 := (by kernel_rfl : _ = _)
theorem GE : FZ 66 0 := fun _ _ _ => by go_simp
theorem oT : FO 66 1 1 := fun _ _ _ => by go_simp
theorem hJ : SZ 72 2 := (by kernel_rfl : _ = _)
theorem oU : ZR 72 (.agg #[.bool false, .slice none 0 0]) := fun _ => by kernel_rfl
theorem wA : FZ 72 0 := fun _ _ _ => by go_simp
theorem wB : FO 72 1 1 := fun _ _ _ => by go_simp
theorem bI : SZ 39 4 := (by kernel_rfl : _ = _)
theorem kC : ZR 39 (.agg #[.slice none 0 0, .slice none 0 0, .bool false, .slice none 0 0]) := fun _ => by kernel_rfl
theorem eT : SO 39 4 := fun _ => by kernel_rfl
theorem GF : IFO 39 (.agg #[.slice none 0 0, .slice none 0 0, .bool false, .slice none 0 0]) 4 80 := (by kernel_rfl : _ = _)
theorem GG : FZ 39 0 := fun _ _ _ => by go_simp
theorem zM : FO 39 1 1 := fun _ _ _ => by go_simp
theorem wC : FO 39 2 2 := fun _ _ _ => by go_simp
theorem zN : FO 39 3 3 := fun _ _ _ => by go_simp
theorem dE : SZ 179 4 := (by kernel_rfl : _ = _)
theorem rZ : ZR 179 (.agg #[.slice none 0 0, .slice none 0 0, .bool false, .slice none 0 0]) := fun _ => by kernel_rfl
theorem jE : SO 179 4 := fun _ => by kernel_rfl
theorem IX : IFO 179 (.agg #[.slice none 0 0, .slice none 0 0, .bool false, .slice none 0 0]) 4 80 := (by kernel_rfl : _ = _)
theorem BB : FZ 179 0 := fun _ _ _ => by go_simp
theorem BC : FO 179 1 1 := fun _ _ _ => by go_simp
theorem BD : FO 179 2 2 := fun _ _ _ => by go_simp
theorem wD : FO 179 3 3 := fun _ _ _ => by go_simp
theorem eN : SZ 168 2 := (by kernel_rfl : _ = _)
theorem sB : ZR 168 (.agg #[.int .i64 0, .slice none 0 0]) := fun _ => by kernel_rfl
theorem MV : SO 168 2 := fun _ => by kernel_rfl
theorem IY : IFO 168 (.agg #[.int .i64 0, .slice none 0 0]) 2 32 := (by kernel_rfl : _ = _)
theorem IZ : FZ 168 0 := fun _ _ _ => by go_simp
theorem sC : FO 168 1 1 := fun _ _ _ => by go_simp
theorem UO : FZ 204 0 := fun _ _ _ => by go_simp
theorem UP : FO 204 1 1 := fun _ _ _ => by go_simp
theorem UQ : FO 204 2 2 := fun _ _ _ => by go_simp
theorem aU : SZ 141 3 := (by kernel_rfl : _ = _)
theorem fX : ZR 141 (.agg #[.int .i64 0, .slice none 0 0, .slice none 0 0]) := fun _ => by kernel_rfl
theorem kY : FZ 141 0 := fun _ _ _ => by go_simp
theorem sD : FO 141 1 1 := fun _ _ _ => by go_simp
theorem wE : FO 141 2 2 := fun _ _ _ => by go_simp
theorem bL : SZ 108 2 := (by kernel_rfl : _ = _)
theorem jF : ZR 108 (.agg #[.slice none 0 0, .int .i64 0]) := fun _ => by kernel_rfl
theorem jX : FZ 108 0 := fun _ _ _ => by go_simp
theorem mG : FO 108 1 1 := fun _ _ _ => by go_simp
theorem oV : SZ 33 4 := (by kernel_rfl : _ = _)
theorem GH : ZR 33 (.agg #[.int .i64 0, .int .i64 0, .int .i64 0, .slice none 0 0]) := fun _ => by kernel_rfl
theorem EI : SO 33 4 := fun _ => by kernel_rfl
theorem YZ : IFO 33 (.agg #[.int .i64 0, .int .i64 0, .int .i64 0, .slice none 0 0]) 4 48 := (by kernel_rfl : _ = _)
theorem ZA : FZ 33 0 := fun _ _ _ => by go_simp
theorem ZB : FO 33 1 1 := fun _ _ _ => by go_simp
theorem ZC : FO 33 2 2 := fun _ _ _ => by go_simp
theorem ZD : FO 33 3 3 := fun _ _ _ => by go_simp
theorem bP : SZ 27 5 := (by kernel_rfl : _ = _)
theorem GI : ZR 27 (.agg #[.int .i64 0, .slice none 0 0, .slice none 0 0, .slice none 0 0, .slice none 0 0]) := fun _ => by kernel_rfl
theorem mB : FZ 27 0 := fun _ _ _ => by go_simp
theorem wF : FO 27 1 1 := fun _ _ _ => by go_simp
theorem wG : FO 27 2 2 := fun _ _ _ => by go_simp
theorem GJ : FO 27 3 3 := fun _ _ _ => by go_simp
theorem ZE : FO 27 4 4 := fun _ _ _ => by go_simp
theorem ZF : FZ 52 0 := fun _ _ _ => by go_simp
theorem ZG : FO 52 1 1 := fun _ _ _ => by go_simp
theorem ZH : FO 52 2 2 := fun _ _ _ => by go_simp
theorem UR : FZ 195 0 := fun _ _ _ => by go_simp
theorem UT : FO 195 1 1 := fun _ _ _ => by go_simp
theorem wH : SZ 54 15 := (by kernel_rfl : _ = _)
theorem PH : ZR 54 (.agg #[.int .i64 0, .int .i64 0, .int .i64 0, .bool false, .slice none 0 0, .slice none 0 0, .slice none 0 0, .bool false, .slice none 0 0, .slice none 0 0, .slice none 0 0, .bool false, .slice none 0 0, .slice none 0 0, .slice none 0 0]) := fun _ => by kernel_rfl
theorem EJ : SO 54 15 := fun _ => by kernel_rfl
theorem ZI : IFO 54 (.agg #[.int .i64 0, .int .i64 0, .int .i64 0, .bool false, .slice none 0 0, .slice none 0 0, .slice none 0 0, .bool false, .slice none 0 0, .slice none 0 0, .slice none 0 0, .bool false, .slice none 0 0, .slice none 0 0, .slice none 0 0]) 15 264 := (by kernel_rfl : _ = _)
theorem ZJ : FZ 54 0 := fun _ _ _ => by go_simp
theorem ZK : FO 54 1 1 := fun _ _ _ => by go_simp
theorem ZL : FO 54 2 2 := fun _ _ _ => by go_simp
theorem ZM : FO 54 3 3 := fun _ _ _ => by go_simp
theorem GK : FO 54 4 4 := fun _ _ _ => by go_simp
theorem ZN : FO 54 5 5 := fun _ _ _ => by go_simp
theorem ZO : FO 54 6 6 := fun _ _ _ => by go_simp
theorem ZP : FO 54 7 7 := fun _ _ _ => by go_simp
theorem ZQ : FO 54 8 11 := fun _ _ _ => by go_simp
theorem BE : SO 112 2 := fun _ => by kernel_rfl
theorem dZ : FZ 112 0 := fun _ _ _ => by go_simp
theorem nW : FO 112 1 1 := fun _ _ _ => by go_simp
theorem pV : FZ 115 0 := fun _ _ _ => by go_simp
theorem pW : FO 115 1 1 := fun _ _ _ => by go_simp
theorem gR : FO 115 2 3 := fun _ _ _ => by go_simp
theorem nX : FO 115 3 4 := fun _ _ _ => by go_simp
theorem iF : FO 115 4 5 := fun _ _ _ => by go_simp
theorem wI : FO 115 5 6 := fun _ _ _ => by go_simp
theorem sE : FO 115 6 22 := fun _ _ _ => by go_simp
theorem sF : FO 115 7 23 := fun _ _ _ => by go_simp
theorem nD : SZ 43 5 := (by kernel_rfl : _ = _)
theorem tM : ZR 43 (.agg #[.bool false, .int .i64 0, .int .i64 0, .slice none 0 0, .slice none 0 0]) := fun _ => by kernel_rfl
theorem PI : FZ 43 0 := fun _ _ _ => by go_simp
theorem ZS : FO 43 1 1 := fun _ _ _ => by go_simp
theorem ZT : FO 43 2 2 := fun _ _ _ => by go_simp
theorem ZU : FO 43 3 3 := fun _ _ _ => by go_simp
theorem ZV : FO 43 4 4 := fun _ _ _ => by go_simp
theorem PJ : SZ 31 5 := (by kernel_rfl : _ = _)
theorem ZW : ZR 31 (.agg #[.int .i64 0, .int .i64 0, .int .i64 0, .int .i64 0, .int .i64 0]) := fun _ => by kernel_rfl
theorem RL : SO 31 5 := fun _ => by kernel_rfl
theorem ZX : FZ 31 0 := fun _ _ _ => by go_simp
theorem ZY : FO 31 1 1 := fun _ _ _ => by go_simp
theorem ZZ : FO 31 2 2 := fun _ _ _ => by go_simp
theorem Aa : FO 31 3 3 := fun _ _ _ => by go_simp
theorem Ab : FO 31 4 4 := fun _ _ _ => by go_simp
theorem PK : EN 103 := fun _ _ => by kernel_rfl
theorem GL : EN 104 := fun _ _ => by kernel_rfl
theorem Ad : EN 105 := fun _ _ => by kernel_rfl
theorem zO : EN 106 := fun _ _ => by kernel_rfl
theorem Ae : EN 107 := fun _ _ => by kernel_rfl
theorem iY : EN 108 := fun _ _ => by kernel_rfl
theorem PL : EN 109 := fun _ _ => by kernel_rfl
theorem Af : EN 110 := fun _ _ => by kernel_rfl
theorem zP : EN 111 := fun _ _ => by kernel_rfl
theorem PM : EN 112 := fun _ _ => by kernel_rfl
theorem PN : EN 113 := fun _ _ => by kernel_rfl
theorem PO : EN 114 := fun _ _ => by kernel_rfl
theorem PP : EN 115 := fun _ _ => by kernel_rfl
theorem Ag : EN 116 := fun _ _ => by kernel_rfl
theorem PQ : EN 117 := fun _ _ => by kernel_rfl
theorem qV : EN 118 := fun _ _ => by kernel_rfl
theorem zQ : EN 119 := fun _ _ => by kernel_rfl
theorem PR : EN 120 := fun _ _ => by kernel_rfl
theorem PS : EN 126 := fun _ _ => by kernel_rfl
theorem GM : EN 127 := fun _ _ => by kernel_rfl
theorem Ah : EN 128 := fun _ _ => by kernel_rfl
theorem PT : EN 129 := fun _ _ => by kernel_rfl
theorem PU : EN 130 := fun _ _ => by kernel_rfl
theorem Ai : EN 131 := fun _ _ => by kernel_rfl
theorem Aj : EN 132 := fun _ _ => by kernel_rfl
theorem Ak : EN 133 := fun _ _ => by kernel_rfl
theorem Al : EN 134 := fun _ _ => by kernel_rfl
theorem Am : EN 135 := fun _ _ => by kernel_rfl
theorem An : EN 136 := fun _ _ => by kernel_rfl
theorem Ao : EN 137 := fun _ _ => by kernel_rfl
theorem Ap : EN 138 := fun _ _ => by kernel_rfl
theorem GN : EN 146 := fun _ _ => by kernel_rfl
theorem GO : EN 147 := fun _ _ => by kernel_rfl
theorem PV : EN 148 := fun _ _ => by kernel_rfl
theorem qW : EN 20 := fun _ _ => by kernel_rfl
theorem pF : EN 21 := fun _ _ => by kernel_rfl
theorem xP : EN 22 := fun _ _ => by kernel_rfl
theorem UU : EN 23 := fun _ _ => by kernel_rfl
theorem Cx : EN 29 := fun _ _ => by kernel_rfl
theorem Cy : EN 30 := fun _ _ => by kernel_rfl
theorem Cz : EN 31 := fun _ _ => by kernel_rfl
theorem MW : EN 32 := fun _ _ => by kernel_rfl
theorem Da : EN 33 := fun _ _ => by kernel_rfl
theorem Db : EN 34 := fun _ _ => by kernel_rfl
theorem UV : EN 35 := fun _ _ => by kernel_rfl
theorem UW : EN 38 := fun _ _ => by kernel_rfl
theorem Dc : EN 39 := fun _ _ => by kernel_rfl
theorem UX : EN 40 := fun _ _ => by kernel_rfl
theorem GQ : EN 41 := fun _ _ => by kernel_rfl
theorem GR : EN 42 := fun _ _ => by kernel_rfl
theorem BF : EN 43 := fun _ _ => by kernel_rfl
theorem uP : EN 44 := fun _ _ => by kernel_rfl
theorem gV : EN 45 := fun _ _ => by kernel_rfl
theorem MX : EN 46 := fun _ _ => by kernel_rfl
theorem BG : EN 47 := fun _ _ => by kernel_rfl
theorem sG : EN 48 := fun _ _ => by kernel_rfl
theorem UY : EN 49 := fun _ _ => by kernel_rfl
theorem UZ : EN 50 := fun _ _ => by kernel_rfl
theorem Dd : EN 51 := fun _ _ => by kernel_rfl
theorem De : EN 52 := fun _ _ => by kernel_rfl
theorem uQ : EN 55 := fun _ _ => by kernel_rfl
theorem BH : EN 56 := fun _ _ => by kernel_rfl
theorem VA : EN 57 := fun _ _ => by kernel_rfl
theorem GS : EN 58 := fun _ _ => by kernel_rfl
theorem Df : EN 60 := fun _ _ => by kernel_rfl
theorem VB : EN 61 := fun _ _ => by kernel_rfl
theorem GT : EN 62 := fun _ _ => by kernel_rfl
theorem Dg : EN 63 := fun _ _ => by kernel_rfl
theorem MY : EN 64 := fun _ _ => by kernel_rfl
theorem Dh : EN 65 := fun _ _ => by kernel_rfl
theorem Di : EN 68 := fun _ _ => by kernel_rfl
theorem Dj : EN 69 := fun _ _ => by kernel_rfl
theorem Dk : EN 70 := fun _ _ => by kernel_rfl
theorem Dl : EN 72 := fun _ _ => by kernel_rfl
theorem kZ : EN 76 := fun _ _ => by kernel_rfl
theorem Dm : EN 77 := fun _ _ => by kernel_rfl
theorem Dn : EN 78 := fun _ _ => by kernel_rfl
theorem qX : EN 79 := fun _ _ => by kernel_rfl
theorem VC : EN 80 := fun _ _ => by kernel_rfl
theorem Do : EN 81 := fun _ _ => by kernel_rfl
theorem Dp : EN 82 := fun _ _ => by kernel_rfl
theorem Dq : EN 83 := fun _ _ => by kernel_rfl
theorem Dr : EN 84 := fun _ _ => by kernel_rfl
theorem GU : EN 89 := fun _ _ => by kernel_rfl
theorem MZ : EN 90 := fun _ _ => by kernel_rfl
theorem VD : EN 91 := fun _ _ => by kernel_rfl
theorem Ds : EN 92 := fun _ _ => by kernel_rfl
theorem Dt : EN 93 := fun _ _ => by kernel_rfl
theorem GV : EN 94 := fun _ _ => by kernel_rfl
theorem GX : EN 95 := fun _ _ => by kernel_rfl
theorem VE : EN 96 := fun _ _ => by kernel_rfl
theorem VF : EN 97 := fun _ _ => by kernel_rfl
theorem Du : EN 98 := fun _ _ => by kernel_rfl
instance : FA Tryz.prog 50 0 0 := ⟨GD⟩
instance : FA Tryz.prog 50 1 1 := ⟨zK⟩
instance : FA Tryz.prog 66 0 0 := ⟨GE⟩
instance : FA Tryz.prog 66 1 1 := ⟨oT⟩
instance : FA Tryz.prog 72 0 0 := ⟨wA⟩
instance : FA Tryz.prog 72 1 1 := ⟨wB⟩
instance : FA Tryz.prog 39 0 0 := ⟨GG⟩
instance : FA Tryz.prog 39 1 1 := ⟨zM⟩
instance : FA Tryz.prog 39 2 2 := ⟨wC⟩
instance : FA Tryz.prog 39 3 3 := ⟨zN⟩
instance : FA Tryz.prog 179 0 0 := ⟨BB⟩
instance : FA Tryz.prog 179 1 1 := ⟨BC⟩
instance : FA Tryz.prog 179 2 2 := ⟨BD⟩
instance : FA Tryz.prog 179 3 3 := ⟨wD⟩
instance : FA Tryz.prog 168 0 0 := ⟨IZ⟩
instance : FA Tryz.prog 168 1 1 := ⟨sC⟩
instance : FA Tryz.prog 204 0 0 := ⟨UO⟩
instance : FA Tryz.prog 204 1 1 := ⟨UP⟩
instance : FA Tryz.prog 204 2 2 := ⟨UQ⟩
instance : FA Tryz.prog 141 0 0 := ⟨kY⟩
instance : FA Tryz.prog 141 1 1 := ⟨sD⟩
instance : FA Tryz.prog 141 2 2 := ⟨wE⟩
instance : FA Tryz.prog 108 0 0 := ⟨jX⟩
instance : FA Tryz.prog 108 1 1 := ⟨mG⟩
instance : FA Tryz.prog 33 0 0 := ⟨ZA⟩
instance : FA Tryz.prog 33 1 1 := ⟨ZB⟩
instance : FA Tryz.prog 33 2 2 := ⟨ZC⟩
instance : FA Tryz.prog 33 3 3 := ⟨ZD⟩
instance : FA Tryz.prog 27 0 0 := ⟨mB⟩
instance : FA Tryz.prog 27 1 1 := ⟨wF⟩
instance : FA Tryz.prog 27 2 2 := ⟨wG⟩
instance : FA Tryz.prog 27 3 3 := ⟨GJ⟩
instance : FA Tryz.prog 27 4 4 := ⟨ZE⟩
instance : FA Tryz.prog 52 0 0 := ⟨ZF⟩
instance : FA Tryz.prog 52 1 1 := ⟨ZG⟩
instance : FA Tryz.prog 52 2 2 := ⟨ZH⟩
instance : FA Tryz.prog 195 0 0 := ⟨UR⟩
instance : FA Tryz.prog 195 1 1 := ⟨UT⟩
instance : FA Tryz.prog 54 0 0 := ⟨ZJ⟩
instance : FA Tryz.prog 54 1 1 := ⟨ZK⟩
instance : FA Tryz.prog 54 2 2 := ⟨ZL⟩
instance : FA Tryz.prog 54 3 3 := ⟨ZM⟩
instance : FA Tryz.prog 54 4 4 := ⟨GK⟩
instance : FA Tryz.prog 54 5 5 := ⟨ZN⟩
instance : FA Tryz.prog 54 6 6 := ⟨ZO⟩
instance : FA Tryz.prog 54 7 7 := ⟨ZP⟩
instance : FA Tryz.prog 54 8 11 := ⟨ZQ⟩
instance : FA Tryz.prog 112 0 0 := ⟨dZ⟩
instance : FA Tryz.prog 112 1 1 := ⟨nW⟩
instance : FA Tryz.prog 115 0 0 := ⟨pV⟩
instance : FA Tryz.prog 115 1 1 := ⟨pW⟩
instance : FA Tryz.prog 115 2 3 := ⟨gR⟩
instance : FA Tryz.prog 115 3 4 := ⟨nX⟩
instance : FA Tryz.prog 115 4 5 := ⟨iF⟩
instance : FA Tryz.prog 115 5 6 := ⟨wI⟩
instance : FA Tryz.prog 115 6 22 := ⟨sE⟩
instance : FA Tryz.prog 115 7 23 := ⟨sF⟩
instance : FA Tryz.prog 43 0 0 := ⟨PI⟩
instance : FA Tryz.prog 43 1 1 := ⟨ZS⟩
instance : FA Tryz.prog 43 2 2 := ⟨ZT⟩
instance : FA Tryz.prog 43 3 3 := ⟨ZU⟩
instance : FA Tryz.prog 43 4 4 := ⟨ZV⟩
instance : FA Tryz.prog 31 0 0 := ⟨ZX⟩
instance : FA Tryz.prog 31 1 1 := ⟨ZY⟩
instance : FA Tryz.prog 31 2 2 := ⟨ZZ⟩
instance : FA Tryz.prog 31 3 3 := ⟨Aa⟩
instance : FA Tryz.prog 31 4 4 := ⟨Ab⟩
instance : NA Tryz.prog 3 := ⟨bU⟩
instance : NA Tryz.prog 4 := ⟨iE⟩
instance : NA Tryz.prog 5 := ⟨fG⟩
instance : NA Tryz.prog 22 := ⟨YU⟩
instance : NA Tryz.prog 23 := ⟨YV⟩
instance : NA Tryz.prog 24 := ⟨tJ⟩
instance : NA Tryz.prog 25 := ⟨bD⟩
instance : NA Tryz.prog 35 := ⟨YW⟩
instance : NA Tryz.prog 40 := ⟨vY⟩
instance : NA Tryz.prog 41 := ⟨zI⟩
instance : NA Tryz.prog 47 := ⟨tK⟩
instance : NA Tryz.prog 48 := ⟨YX⟩
instance : NA Tryz.prog 60 := ⟨GC⟩
instance : NA Tryz.prog 61 := ⟨YY⟩
instance : NA Tryz.prog 105 := ⟨UM⟩
instance : NA Tryz.prog 106 := ⟨pU⟩
instance : NA Tryz.prog 109 := ⟨iS⟩
instance : NA Tryz.prog 110 := ⟨eC⟩
instance : NA Tryz.prog 137 := ⟨UN⟩
instance : NA Tryz.prog 139 := ⟨BA⟩
instance : US Tryz.prog 22 31 := ⟨Tryz.underlying22⟩
instance : US Tryz.prog 23 33 := ⟨Tryz.underlying23⟩
instance : US Tryz.prog 24 66 := ⟨Tryz.underlying24⟩
instance : US Tryz.prog 25 5 := ⟨Tryz.underlying25⟩
instance : US Tryz.prog 40 39 := ⟨Tryz.underlying40⟩
instance : US Tryz.prog 41 54 := ⟨Tryz.underlying41⟩
instance : US Tryz.prog 47 50 := ⟨Tryz.underlying47⟩
instance : US Tryz.prog 48 204 := ⟨Tryz.underlying48⟩
instance : US Tryz.prog 60 3 := ⟨Tryz.underlying60⟩
instance : US Tryz.prog 61 27 := ⟨Tryz.underlying61⟩
instance : US Tryz.prog 106 24 := ⟨Tryz.underlying106⟩
instance : US Tryz.prog 109 168 := ⟨Tryz.underlying109⟩
instance : US Tryz.prog 139 179 := ⟨Tryz.underlying139⟩
instance : US Tryz.prog 219 25 := ⟨Tryz.underlying219⟩
instance : US Tryz.prog 236 215 := ⟨Tryz.underlying236⟩
open Go.ChangeShapes Go.WideShapes Go.ChangeAt Go.RowKit Go.Deep
section
variable {H : Type} {enc : TypeId × Value → H} {P : Program} {w : World}
end
theorem kH {k : IntKind} {a b : Int} (h : a = b) : Ending.returned (.int k a) = .returned (.int k b) := by rw [h]
def gX (n : Nat) : Int := if 1 ≤ n ∧ n ≤ 8 then 0 else 1
theorem lA {n : Nat} (h1 : 1 ≤ n) (h2 : n ≤ 8) : gX n = 0 := by unfold gX; rw [if_pos ⟨h1, h2⟩]
theorem tN {n : Nat} (h : ¬ (1 ≤ n ∧ n ≤ 8)) : gX n = 1 := by unfold gX; rw [if_neg h]
theorem gS (w : World) (a : Option Addr) (n c : Nat) :
    Calls Tryz.prog 42 #[.slice a n c] w fun e w' => e = .returned (.int .i64 (gX n)) ∧ w' = w := by
 by_cases h : 1 ≤ n ∧ n ≤ 8
 ·rw [lA h.1 h.2]
  obtain ⟨h1, h2⟩ := h
  go_enter Tryz.func42, Tryz.ntmps42
  go_wp2
  go_ret
  exact ⟨rfl, rfl⟩
 ·rw [tN h]
  by_cases h1 : n < 1
  ·clear h
   go_enter Tryz.func42, Tryz.ntmps42
   go_wp2
   go_ret
   exact ⟨rfl, rfl⟩
  ·have h2 : 8 < n := by omega
   clear h
   go_enter Tryz.func42, Tryz.ntmps42
   go_wp2
   go_ret
   exact ⟨rfl, rfl⟩
theorem TreeOk.small {n : Nat} {l : List Pr} (h : TreeOk n l) {p : Pr} (hp : p ∈ l) : p.1.length ≤ 100000 ∧ p.2.length ≤ 100000 := by
 obtain ⟨_, h2, h3⟩ := h.ok p hp; omega
theorem RM {l : List Pr} {k v : By} (h : eW l k = true) : eO l k v = l.set (aS l k) (k, v) := by unfold eO; rw [if_pos h]
theorem VG {l : List Pr} {k v : By} (h : ¬ eW l k = true) : eO l k v = l.take (aS l k) ++ (k, v) :: l.drop (aS l k) := by unfold eO; rw [if_neg h]
theorem uR (f : aP) (w : Wr) : gJ f [w] = eH f w := by
 simp only [gJ]
 cases eH f w <;> rfl
set_option linter.unusedSimpArgs false
theorem fL {α : Type} {l : List α} {k : Nat} {p : α} (h : l[k]? = some p) : l.take (k + 1) = l.take k ++ [p] := by
 obtain ⟨hk, rfl⟩ := List.getElem?_eq_some_iff.1 h
 exact List.take_succ_eq_append_getElem hk
theorem xQ (F : Fz) (w : World) (v : Value) (p : Pr) (hs : Sat w F) (hv : Pr2V F v p) (hk : p.1.length ≤ 100000) (hx : p.2.length ≤ 100000) :
    Calls Tryz.prog 64 #[v] w (dO w F fun F' u => Pr2V F' u p) := by
 obtain ⟨x0, y0, x1, y1, rfl, h0, h1⟩ := hv
 have S := St.start hs
 go_enter Tryz.func64, Tryz.ntmps64
 refine aF fun K1 hK1 => ?_
 refine aB ?_
 refine aZ S (v := fun n => .pointer (aA n 0)) rfl (bW (v := (.agg #[(.slice x0 p.1.length y0), (.slice x1 p.2.length y1)])) rfl) (fun n2 w3 S4 => ?_)
 refine sA S4 (vZ _) fun n5 w6 S7 => ?_
 refine aH ?_
 refine hK1 _ _ ?_
 refine aF fun K8 hK8 => ?_
 refine aQ F 5 [(2, .made (fun F' u => Bs F' u p.1))] (by kernel_rfl) (by kernel_rfl) ?_
 simp only [cV]
 refine gf (GD _ _) ?_
 refine gl bD S7 1 ?_
 simp only [pq]
 refine dJ rfl rfl (fun w9 C9 hF => bX (cP (vs := #[(.slice x0 p.1.length y0)]) (kX rfl) rfl (gV _ _)) (dI S7.sat C9 (dC _ _ _ p.1 ((St.tells S7 C9)).sat h0 (by omega)))) (fun b6 => ?_)
 refine gf (zK _ _) ?_
 refine gl bD S7 1 ?_
 refine bN ?_
 intro b7 b2 a0
 obtain ⟨b3, a7, b4⟩ := a0.get 2 rfl rfl
 have a8 := St.gives S7 a7
 have a1 : Le _ _ := a7.le S7.sat
 have a9 := b4
 generalize b3 = b9 at *
 obtain ⟨a2, a3, rfl, _⟩ := a9.shape
 clear a0
 simp only [cW]
 refine aY a8 rfl (fn1 (gV _ _)) (dC _ _ _ p.2 (a8).sat (h1.mono a1) (by omega)) ?_
 intro c0 c1 c2 b5 a4 b0
 obtain ⟨a5, a6, rfl, _⟩ := b0.shape
 simp only [pq]
 refine dr (.agg #[(.slice a2 p.1.length a3), (.slice a5 p.2.length a6)]) (aJ (eZ rfl rfl) (by kernel_rfl)) ?_
 refine sW 0 b5 (eE) fun c3 b1 => ?_
 refine aH ?_
 refine hK8 _ _ ?_
 refine aO ?_
 try simp only [xt]
 refine bR (PA rfl ⟨_, rfl, lR b1 0 Tryz.underlying50 (eE)⟩) ?_
 exact ⟨_, _, rfl, b1.gr, ⟨_, _, _, _, rfl, (a9.mono a4), b0⟩⟩
theorem wJ (F : Fz) (w : World) (v : Value) (l : List Pr) (hs : Sat w F) (hv : Prs F v l) (hl : l.length ≤ 100000) (hL : ∀ p ∈ l, p.1.length ≤ 100000 ∧ p.2.length ≤ 100000) :
    Calls Tryz.prog 62 #[v] w (rX w F 2 PrC 50 l) := by
 obtain ⟨a, c, rfl, hc1, hc2⟩ := Sl.shape hv
 unfold maxLen at hc2
 obtain ⟨d1, b2, b3, b4, b5⟩ := info_parts oS
 have S := St.start hs
 go_enter Tryz.func62, Tryz.ntmps62
 refine aF fun K1 hK1 => ?_
 refine aB ?_
 refine dy ?_
 refine aH ?_
 try simp only [xt]
 refine hK1 _ _ ?_
 refine aF fun K2 hK2 => ?_
 refine aB ?_
 refine dy ?_
 refine aH ?_
 try simp only [xt]
 refine hK2 _ _ ?_
 refine aF fun K3 hK3 => ?_
 refine aF fun K4 hK4 => ?_
 refine aB ?_
 refine aC ?_
 refine aH ?_
 try simp only [xt]
 refine hK4 _ _ ?_
 refine aM ?_
 have S5 := St.addNil S 2 PrC PrC.mono 50 w.heap.size
 refine aW (fun mm aa w8 => ∃ (k : Nat) (v : Value) (F6 : Fz) (u7 : Nat → Value), mm = l.length - k ∧ aa = ⟨([(.slice a l.length c), undef, Zn, v, undef, (u7 5), (.slice a l.length c), (nI l.length), (nI k)] ++ (usF u7 9 9 [undef])).toArray, []⟩ ∧ St w F w8 F6 [] [bV 2 PrC PrC.mono 50 w.heap.size v (l.take k)] ∧ Le F F6 ∧ (k ≤ l.length)) _ ⟨0, Zn, F, (PC [(.slice a l.length c), undef, Zn, Zn, undef, undef, (.slice a l.length c), (nI l.length), (iI 0), undef, undef, undef, undef, undef, undef, undef, undef, undef, undef]), rfl, rfl, S5, Le.refl _, (by omega)⟩ ?_
 rintro m9 e4 e5 ⟨k, v, F6, u7, rfl, hfr, a5, a6, hk⟩ e6 b6
 simp only [uzF, Nat.reduceAdd] at hfr; subst hfr
 refine aF fun e7 a7 => ?_
 refine aB ?_
 by_cases hc9 : k < l.length
 refine fA ?_
 refine aH ?_
 try simp only [xt]
 refine a7 _ _ ?_
 refine aF fun e8 b7 => ?_
 refine aK ?_
 refine aI ?_
 try simp only [xt]
 refine b7 _ _ ?_
 refine aF fun e9 b9 => ?_
 refine aM ?_
 refine aF fun f0 c0 => ?_
 refine aB ?_
 obtain ⟨p, hp⟩ : ∃ p, l[k]? = some p := ⟨l[k], List.getElem?_eq_getElem hc9⟩
 have hpl := hL p (List.mem_of_getElem? hp)
 have htk : (l.take k).length = k := by rw [List.length_take]; omega
 obtain ⟨c6, c7, c1, a8, a9, b0, b1, d2, d3, d4, d5⟩ := Prs.get (hv.mono a6) hp
 refine dr (pP c6 (c7 + k * 2)) (bK (i := k) (sz := 2) Tryz.underlying47 (cK _) rfl c1 rfl (by omega) rfl) ?_
 refine dr _ (aE rfl (cU Tryz.underlying50 rfl (eE) (mR (St.fz a5 d2) (St.fz a5 d3)))) ?_
 simp only [pq]
 refine sA a5 (vZ _) fun d6 f1 d7 => ?_
 refine sW 0 d7 (eE) fun f2 c2 => ?_
 refine aH ?_
 try simp only [xt]
 refine c0 _ _ ?_
 refine aB ?_
 refine dx ?_
 refine dR c2 0 Tryz.underlying50 (eE) ?_
 simp only [pq]
 refine aY c2 rfl (fn1 (MY _ _)) (xQ _ _ _ p (c2).sat ⟨_, _, _, _, rfl, d4, d5⟩ (by omega) (by omega)) ?_
 intro f3 f4 d8 d9 c3 e0
 obtain ⟨a0, a1, a2, a3, rfl, c8, c9⟩ := e0
 refine aZ d9 (v := fun n => .slice (aA n 0) 1 1) rfl (bS (ps := #[(0, (.agg #[(.slice a0 p.1.length a1), (.slice a2 p.2.length a3)]))]) (cells := #[(.slice a0 p.1.length a1), (.slice a2 p.2.length a3)]) (E := 50) (cG rfl) (fun w => by kernel_rfl)) (fun e1 f5 d0 => ?_)
 simp only [pq]
 refine eK (i := 0) (r := 0) (p := p) (cs := [(.slice a0 p.1.length a1), (.slice a2 p.2.length a3)]) d0 rfl d1 (.agg #[Zn, Zn]) 48 Tryz.underlying47 b2 b3 b4 b5 rfl (by decide) rfl rfl rfl rfl rfl (PrC.oneCell ⟨_, _, rfl, c8, c9⟩) (⟨_, _, rfl, c8, c9⟩) (Nat.le_refl _) d0.gr.below.size (by unfold maxLen; omega) (by omega) ?_
 intro c4 f6 a4 e2
 simp only [pq]
 have a4 := St.drop a4 (.cons _ (List.Sublist.refl _))
 refine dy ?_
 refine aH ?_
 try simp only [xt]
 refine b9 _ _ ?_
 refine aB ?_
 refine cD (k + 1) ?_
 refine dx ?_
 simp only [pq]
 refine aH ?_
 try simp only [xt]
 have a4 := St.drop a4 (.cons _ (List.Sublist.refl _))
 rw [← fL hp] at a4
 exact b6 _ _ _ (by omega) ⟨(k + 1), c4, d8, (PC [(.slice a l.length c), undef, Zn, c4, undef, (pP d6 0), (.slice a l.length c), (nI l.length), (nI (k + 1)), bT, (pP c6 (c7 + k * 2)), (.agg #[(.slice a8 p.1.length a9), (.slice b0 p.2.length b1)]), v, (.agg #[(.slice a8 p.1.length a9), (.slice b0 p.2.length b1)]), (.agg #[(.slice a0 p.1.length a1), (.slice a2 p.2.length a3)]), (.slice (aA e1 0) 1 1), c4, (nI (k + 1)), undef]), rfl, rfl, a4, (a6.trans c3), (by omega)⟩
 refine eM ?_
 refine aH ?_
 try simp only [xt]
 refine a7 _ _ ?_
 refine aF fun f7 e3 => ?_
 refine aG ?_
 refine cS ?_
 try simp only [xt]
 refine hK3 _ _ ?_
 refine aF fun f8 c5 => ?_
 refine aB ?_
 refine aC ?_
 refine aH ?_
 try simp only [xt]
 refine c5 _ _ ?_
 refine aO ?_
 try simp only [xt]
 refine bR (bC rfl (gD rfl)) ?_
 obtain rfl : k = l.length := by omega
 exact ⟨_, _, rfl, a5.gr, by have h := St.own (i := 0) a5 rfl; rwa [List.take_length] at h⟩
theorem yI {P : Program} {w : World} {F : Fz} {v : Value} {l : List UInt8} (hs : Sat w F) (hv : Bs F v l) : (Extern.Bytes.bytesOf v).run P w = .ok ⟨l.toArray⟩ w := by
 obtain ⟨a, c, rfl, h1, h2⟩ := hv.shape
 cases a with
 | none =>
  obtain ⟨_, _, q1, _, _, q4, _⟩ := hv
  cases q1
  have : l = [] := List.eq_nil_of_length_eq_zero (q4 rfl).1
  subst this
  rfl
 | some a =>
  by_cases hl : l = []
  ·subst hl; rfl
  ·have hpos := List.length_pos_iff.2 hl
   obtain ⟨b, o, e, hc⟩ := hv.addr hpos
   cases e
   have key : ∀ (m : List UInt8) (j : Nat) (acc : ByteArray), (∀ (i : Nat) (h : i < m.length), w.cell? ⟨b, o + j + i, none⟩ = some (.int .u8 (m[i].toNat : Int))) → (Extern.Bytes.loadBytes ⟨b, o + j, none⟩ m.length acc).run P w = .ok ⟨acc.data ++ m.toArray⟩ w := by
    intro m
    induction m with
    | nil => intro j acc _; simp [Extern.Bytes.loadBytes]
    | cons x m ih =>
     intro j acc h
     have h0 := h 0 (by simp)
     simp only [Nat.add_zero, List.getElem_cons_zero] at h0
     have e : (⟨b, o + j, none⟩ : Addr).add 1 = ⟨b, o + (j + 1), none⟩ := by rw [Addr.add_mid]; rfl
     have ih' := ih (j + 1) (acc.push x) (fun i hi => by
      have := h (i + 1) (by simpa using hi)
      simp only [List.getElem_cons_succ] at this
      rw [show o + (j + 1) + i = o + j + (i + 1) from by omega]; exact this)
     simp only [List.length_cons, Extern.Bytes.loadBytes, Sem.run_bind, run_load, h0, Result.andThen]
     rw [e]
     simp only [Int.toNat_natCast]
     rw [show x.toNat.toUInt8 = x from by simp]
     rw [ih']
     congr 2
     simp [ByteArray.push]
   have := key l 0 .empty (fun i hi => hs.cell (hc i hi))
   simp only [Nat.add_zero] at this
   show (Extern.Bytes.loadBytes ⟨b, o, none⟩ l.length .empty).run P w = _
   rw [this]
   congr 2
   simp [ByteArray.empty, ByteArray.emptyWithCapacity]
   rfl
theorem rK : ∀ (a b : List UInt8), Lib.compareBytes a b = eQ a b
  | [], [] => by simp [Lib.compareBytes, eQ, Op.bytesLess]
  | [], _ :: _ => by simp [Lib.compareBytes, eQ, Op.bytesLess]
  | _ :: _, [] => by simp [Lib.compareBytes, eQ, Op.bytesLess]
  | x :: a, y :: b => by
    have ih := rK a b
    unfold Lib.compareBytes
    rw [ih]
    unfold eQ
    simp only [Op.bytesLess, Bool.or_eq_true, decide_eq_true_eq, Bool.and_eq_true, beq_iff_eq, List.cons.injEq]
    by_cases h1 : x < y
    · simp [h1]
    · by_cases h2 : y < x
      · have h3 : x ≠ y := by rintro rfl; exact h1 h2
        simp [h1, h2, h3]
      · have h3 : x = y := by
          apply UInt8.toNat_inj.1
          have e1 : ¬ x.toNat < y.toNat := fun q => h1 (UInt8.lt_iff_toNat_lt.2 q)
          have e2 : ¬ y.toNat < x.toNat := fun q => h2 (UInt8.lt_iff_toNat_lt.2 q)
          omega
        subst h3
        simp [h1]
theorem uS {w : World} {F : Fz} {v u : Value} {l m : List UInt8} (hs : Sat w F) (hv : Bs F v l) (hu : Bs F u m) : (callFunc 59 #[v, u]).run Tryz.prog w = .ok (.value (.int .i64 (eQ l m))) w := by
 rw [run_callFunc_extern Tryz.func59 (by kernel_rfl) (by kernel_rfl) (by kernel_rfl) (e := Extern.BytealgCompare.compare) (by kernel_rfl)]
 have e : (Extern.BytealgCompare.compare #[v, u]).run Tryz.prog w = .ok (goInt (Extern.BytealgCompare.cmp ⟨l.toArray⟩ ⟨m.toArray⟩)) w := by
  change Sem.run Tryz.prog (do pure (goInt (Extern.BytealgCompare.cmp (← Extern.Bytes.bytesOf v) (← Extern.Bytes.bytesOf u)))) w = _
  simp only [Sem.run_bind, yI hs hv, yI hs hu, Result.andThen_ok, Sem.run_pure]
 rw [e, Lib.cmp_eq, rK]
 rfl
theorem eS (F : Fz) (w : World) (v u : Value) (l m : List UInt8) (hs : Sat w F) (hv : Bs F v l) (hu : Bs F u m) :
    Calls Tryz.prog 44 #[v, u] w (cY w (.int .i64 (eQ l m))) := by
 obtain ⟨a, c, rfl, _⟩ := hv.shape
 obtain ⟨a2, c2, rfl, _⟩ := hu.shape
 have S := St.start hs
 go_enter Tryz.func44, Tryz.ntmps44
 refine sk fun K1 hK1 => ?_
 refine dy ?_
 refine wn hK1 ?_
 refine sk fun K2 hK2 => ?_
 iterate 2 refine dx ?_
 refine dr (.int .i64 (eQ l m)) (MS (vs := #[(.slice a l.length c), (.slice a2 m.length c2)]) (iX rfl rfl) rfl (uS (S).sat hv hu)) ?_
 simp only [pq]
 refine dy ?_
 refine wn hK2 ?_
 refine aO ?_
 try simp only [xt]
 refine bR (bC rfl (gD rfl)) ?_
 exact ⟨rfl, S.gr.below⟩
theorem nE (F : Fz) (w : World) (v u : Value) (p q : Pr) (hs : Sat w F) (hv : Pr2V F v p) (hu : Pr2V F u q) :
    Calls Tryz.prog 58 #[v, u] w (cY w (.int .i64 (eQ p.1 q.1))) := by
 obtain ⟨x0, y0, x1, y1, rfl, h0, h1⟩ := hv
 obtain ⟨x0q, y0q, x1q, y1q, rfl, k0, k1⟩ := hu
 have S := St.start hs
 go_enter Tryz.func58, Tryz.ntmps58
 refine sk fun K1 hK1 => ?_
 refine aZ S (v := fun n => .pointer (aA n 0)) rfl (bW (v := (.agg #[(.slice x0 p.1.length y0), (.slice x1 p.2.length y1)])) rfl) (fun n2 w3 S4 => ?_)
 refine aZ S4 (v := fun n => .pointer (aA n 0)) rfl (bW (v := (.agg #[(.slice x0q q.1.length y0q), (.slice x1q q.2.length y1q)])) rfl) (fun n5 w6 S7 => ?_)
 simp only [pq]
 refine dy ?_
 refine wn hK1 ?_
 refine sk fun K8 hK8 => ?_
 refine aC ?_
 refine aL (v := (.int .i64 (eQ p.1 q.1))) S7 rfl (fn2 (uP _ _)) (eS _ _ _ _ p.1 q.1 (S7).sat h0 k0) (fun w9 a0 => ?_)
 refine dy ?_
 refine wn hK8 ?_
 refine aO ?_
 try simp only [xt]
 refine bR (bC rfl (gD rfl)) ?_
 exact ⟨rfl, a0.gr.below⟩
def fM (p : Pr) : Int := if 32 < p.2.length then 1 else cF p.1.length
theorem EK (F : Fz) (w : World) (v : Value) (p : Pr) (hs : Sat w F) (hv : Pr2V F v p) :
    Calls Tryz.prog 57 #[v] w (cY w (.int .i64 (fM p))) := by
 obtain ⟨x0, y0, x1, y1, rfl, h0, h1⟩ := hv
 have S := St.start hs
 go_enter Tryz.func57, Tryz.ntmps57
 refine sk fun K1 hK1 => ?_
 refine aZ S (v := fun n => .pointer (aA n 0)) rfl (bW (v := (.agg #[(.slice x0 p.1.length y0), (.slice x1 p.2.length y1)])) rfl) (fun n2 w3 S4 => ?_)
 refine dy ?_
 refine wn hK1 ?_
 refine aF fun K5 hK5 => ?_
 refine sk fun K6 hK6 => ?_
 refine aC ?_
 by_cases hc6 : 32 < p.2.length
 refine pR ?_
 refine wn hK6 ?_
 refine aK ?_
 refine sk fun K7 hK7 => ?_
 refine dy ?_
 refine wn hK7 ?_
 refine aO ?_
 try simp only [xt]
 refine bR (bC rfl (gD rfl)) ?_
 refine ⟨?_, S4.gr.below⟩
 unfold fM
 first | rw [if_pos (by omega)] | rw [if_neg (by omega)]
 refine lF ?_
 simp only [pq]
 refine wn hK6 ?_
 refine aG ?_
 refine aI ?_
 refine hK5 _ _ ?_
 refine sk fun K8 hK8 => ?_
 refine aC ?_
 refine aL (v := (.int .i64 (cF p.1.length))) S4 rfl (fn1 (uQ _ _)) (fN (kF _ _ _ p.1 h0)) (fun w9 a0 => ?_)
 refine dy ?_
 simp only [pq]
 refine wn hK8 ?_
 refine aO ?_
 try simp only [xt]
 refine bR (bC rfl (gD rfl)) ?_
 refine ⟨?_, a0.gr.below⟩
 unfold fM
 first | rw [if_pos (by omega)] | rw [if_neg (by omega)]
def nY (l : List Pr) : Nat → Nat → Int
  | 0, _ => 0
  | n + 1, k => match l[k]? with
    | none => 0
    | some p => if fM p ≠ 0 then fM p else if 0 < k ∧ 0 ≤ eQ (l.getD (k - 1) ([], [])).1 p.1 then 3 else nY l n (k + 1)
def iT (l : List Pr) : Int := if 60 < l.length then 1 else nY l l.length 0
theorem tO {l : List Pr} {k : Nat} {p : Pr} (hp : l[k]? = some p) : nY l (l.length - k) k = if fM p ≠ 0 then fM p else if 0 < k ∧ 0 ≤ eQ (l.getD (k - 1) ([], [])).1 p.1 then 3 else nY l (l.length - (k + 1)) (k + 1) := by
 obtain ⟨hk, _⟩ := List.getElem?_eq_some_iff.1 hp
 rw [show l.length - k = (l.length - (k + 1)) + 1 from by omega]
 simp only [nY, hp]
theorem NB {l : List Pr} {k : Nat} (hk : l.length ≤ k) : nY l (l.length - k) k = 0 := by rw [show l.length - k = 0 from by omega]; rfl
theorem sH {p : Pr} : fM p = 0 ↔ AL p := by
 unfold fM AL cF
 split
 ·omega
 ·split <;> omega
theorem pX {l : List Pr} : iT l = 0 ↔ TreeOk 60 l := by
 unfold iT
 by_cases hl : 60 < l.length
 rw [if_pos hl]
 exact ⟨fun h => by omega, fun h => by have := h.len; omega⟩
 rw [if_neg hl]
 have key : ∀ n k, n + k = l.length → (nY l n k = 0 ↔ ∀ i (hi : i < l.length), k ≤ i → AL l[i] ∧ (0 < i → Lt (l.getD (i - 1) ([], [])).1 l[i].1)) := by
  intro n
  induction n with
  | zero => intro k hk; simp only [nY]; exact ⟨fun _ i hi h => by omega, fun _ => trivial⟩
  | succ n ih =>
   intro k hk
   have hk' : k < l.length := by omega
   simp only [nY, List.getElem?_eq_getElem hk']
   have ihk := ih (k + 1) (by omega)
   by_cases hp : fM l[k] = 0
   rw [if_neg (by simp [hp])]
   by_cases hc : 0 < k ∧ 0 ≤ eQ (l.getD (k - 1) ([], [])).1 l[k].1
   rw [if_pos hc]
   refine ⟨fun h => by omega, fun h => ?_⟩
   have := (h k hk' (Nat.le_refl _)).2 hc.1
   have := qK.2 this
   omega
   rw [if_neg hc, ihk]
   refine ⟨fun h i hi hki => ?_, fun h i hi hki => h i hi (by omega)⟩
   by_cases e : i = k
   subst e
   refine ⟨sH.1 hp, fun h0 => qK.1 ?_⟩
   have : ¬ 0 ≤ eQ (l.getD (i - 1) ([], [])).1 l[i].1 := fun h => hc ⟨h0, h⟩
   omega
   exact h i hi (by omega)
   rw [if_pos hp]
   exact ⟨fun h => absurd h hp, fun h => absurd (sH.2 (h k hk' (Nat.le_refl _)).1) hp⟩
 rw [key l.length 0 (by omega)]
 constructor
 intro h
 refine ⟨by omega, fun p hp => ?_, ?_⟩
 obtain ⟨i, hi, rfl⟩ := List.mem_iff_getElem.1 hp
 exact (h i hi (by omega)).1
 have step : ∀ j i (hi : i < l.length) (hj : j < l.length), i < j → Lt l[i].1 l[j].1 := by
  intro j
  induction j with
  | zero => intro i _ _ h; omega
  | succ j ih =>
   intro i hi hj hij
   have h1 := (h (j + 1) hj (by omega)).2 (by omega)
   simp only [Nat.add_sub_cancel, List.getD, List.getElem?_eq_getElem (show j < l.length by omega), Option.getD_some] at h1
   by_cases e : i = j
   subst e; exact h1
   exact lO _ _ _ (ih i hi (by omega) (by omega)) h1
 exact List.pairwise_iff_getElem.2 fun i j hi hj hij => step j i hi hj hij
 intro h i hi _
 refine ⟨h.ok _ (List.getElem_mem hi), fun h0 => ?_⟩
 simp only [List.getD, List.getElem?_eq_getElem (show i - 1 < l.length by omega), Option.getD_some]
 exact List.pairwise_iff_getElem.1 h.rise (i - 1) i (by omega) hi (by omega)
theorem jG (F : Fz) (w : World) (v : Value) (l : List Pr) (hs : Sat w F) (hv : Prs F v l) :
    Calls Tryz.prog 43 #[v] w (cY w (.int .i64 (iT l))) := by
 obtain ⟨a, c, rfl, hc1, hc2⟩ := Sl.shape hv
 unfold maxLen at hc2
 have S := St.start hs
 go_enter Tryz.func43, Tryz.ntmps43
 refine sk fun K1 hK1 => ?_
 refine dy ?_
 refine wn hK1 ?_
 refine aF fun K2 hK2 => ?_
 refine sk fun K3 hK3 => ?_
 refine aC ?_
 by_cases hc8 : 60 < l.length
 refine pR ?_
 refine wn hK3 ?_
 refine aK ?_
 refine sk fun K4 hK4 => ?_
 refine dy ?_
 refine wn hK4 ?_
 refine aO ?_
 try simp only [xt]
 refine bR (bC rfl (gD rfl)) ?_
 exact ⟨by unfold iT; rw [if_pos (by omega)], S.gr.below⟩
 refine lF ?_
 simp only [pq]
 refine wn hK3 ?_
 refine aG ?_
 refine aI ?_
 refine hK2 _ _ ?_
 refine aF fun K5 hK5 => ?_
 refine sk fun K6 hK6 => ?_
 refine aC ?_
 refine wn hK6 ?_
 refine aM ?_
 refine aW (fun mm aa w8 => ∃ (k : Nat) (u7 : Nat → Value), mm = l.length - k ∧ u7 = dY aa ∧ aa = ⟨([(.slice a l.length c), undef] ++ (usF u7 2 4 ([(.slice a l.length c), (nI l.length), bF, (.slice a l.length c), (nI l.length), (nI k)] ++ (usF u7 12 22 [])))).toArray, []⟩ ∧ St w F w8 F [] [] ∧ (k ≤ l.length) ∧ (nY l l.length 0 = nY l (l.length - k) k)) _ ⟨0, _, rfl, rfl, rfl, S, (by omega), rfl⟩ ?_
 rintro m9 f1 f2 ⟨k, u7, rfl, -, hfr, a7, hk, hT⟩ f3 a2
 simp only [uzF, Nat.reduceAdd] at hfr; subst hfr
 refine sk fun f4 a3 => ?_
 by_cases b0 : k < l.length
 refine fA ?_
 refine wn a3 ?_
 refine aF fun f5 b1 => ?_
 refine aK ?_
 refine aI ?_
 refine b1 _ _ ?_
 refine aF fun f6 a4 => ?_
 refine aM ?_
 refine sk fun f7 b2 => ?_
 refine dx ?_
 simp only [pq]
 obtain ⟨p, hp⟩ : ∃ p, l[k]? = some p := ⟨l[k], List.getElem?_eq_getElem b0⟩
 obtain ⟨d5, d6, b3, b4, b5, b6, b7, d7, d8, d2, d3⟩ := Prs.get hv hp
 refine dr (pP d5 (d6 + k * 2)) (bK (i := k) (sz := 2) Tryz.underlying47 (cK _) rfl b3 rfl (by omega) rfl) ?_
 refine dr _ (aE rfl (cU Tryz.underlying50 rfl (eE) (mR (St.fz a7 d7) (St.fz a7 d8)))) ?_
 refine sA a7 (vZ _) fun f8 f9 d9 => ?_
 simp only [pq]
 refine dy ?_
 refine sW 0 d9 (eE) fun g0 b9 => ?_
 refine wn b2 ?_
 refine aF fun g1 c0 => ?_
 refine sk fun g2 c1 => ?_
 refine dR b9 0 Tryz.underlying50 (eE) ?_
 simp only [pq]
 refine aL (v := (.int .i64 (fM p))) b9 rfl (fn1 (VA _ _)) (EK _ _ _ p (b9).sat ⟨_, _, _, _, rfl, d2, d3⟩) (fun g3 a1 => ?_)
 refine dy ?_
 refine wn c1 ?_
 refine sk fun g4 a5 => ?_
 refine dx ?_
 simp only [pq]
 by_cases c2 : (fM p) = (0 : Int)
 refine lQ ?_
 refine wn a5 ?_
 refine aG ?_
 refine aI ?_
 refine c0 _ _ ?_
 refine aF fun g5 a0 => ?_
 by_cases h0 : 0 < k
 obtain ⟨q, hq⟩ : ∃ q, l[k - 1]? = some q := ⟨l[k - 1], List.getElem?_eq_getElem (by omega)⟩
 have hqd : l.getD (k - 1) ([], []) = q := by rw [List.getD_eq_getElem?_getD, hq]; rfl
 obtain ⟨e0, e1, c3, e2, e3, e4, e5, e6, e7, e8, e9⟩ := Prs.get hv hq
 refine aQ F 9 [] (by kernel_rfl) (by kernel_rfl) ?_
 simp only [cV]
 refine gm ?_
 refine gv bT (fun _ _ => rW (m := ((k : Nat) : Int)) (n := (0 : Int)) (b := true) rfl rfl (decide_eq_true (by omega))) ?_
 simp only [pq]
 iterate 3 refine gm ?_
 simp only [pq]
 refine gv (nI (k - 1)) (fun _ _ => uM (m := ((k : Nat) : Int)) (n := (1 : Int)) (r := (((k - 1) : Nat) : Int)) rfl rfl (by omega) (by omega) (by omega)) ?_
 refine gv (pP e0 (e1 + (k - 1) * 2)) (fun _ _ => bK (i := (k - 1)) (sz := 2) Tryz.underlying47 (cK _) rfl c3 rfl (by omega) rfl) ?_
 refine gv _ (fun _ a8 => aE rfl (cU Tryz.underlying50 rfl (eE) (mR (St.fz (St.tells a1 a8) e6) (St.fz (St.tells a1 a8) e7)))) ?_
 simp only [pq]
 refine gv _ (fun _ a8 => aE rfl (cU Tryz.underlying50 rfl (eE) (St.range (St.tells a1 a8) (i := 0) rfl 0 [(.slice b4 p.1.length b5), (.slice b6 p.2.length b7)] (eF 0 rfl)))) ?_
 refine bN ?_
 intro g6 c4 c5
 clear c5
 have d4 := St.tells a1 c4
 simp only [cW]
 refine aL (v := (.int .i64 (eQ q.1 p.1))) d4 rfl (fn2 (GS _ _)) (nE _ _ _ _ q p (d4).sat ⟨_, _, _, _, rfl, e8, e9⟩ ⟨_, _, _, _, rfl, d2, d3⟩) (fun g7 a9 => ?_)
 simp only [pq]
 by_cases a6 : (0 : Int) ≤ (eQ q.1 p.1)
 refine UD ?_
 refine dp ?_
 refine wlK a0 ?_
 refine aK ?_
 refine sk fun g8 c6 => ?_
 refine dy ?_
 simp only [pq]
 refine wn c6 ?_
 refine aO ?_
 try simp only [xt]
 refine bR (bC rfl (gD rfl)) ?_
 exact ⟨by unfold iT; rw [if_neg (by omega), hT, tO hp, if_neg (by omega), if_pos ⟨h0, by rw [hqd]; exact a6⟩], a9.gr.below⟩
 refine UE ?_
 refine dp ?_
 refine wlK a0 ?_
 refine aG ?_
 refine aI ?_
 refine a4 _ _ ?_
 refine aB ?_
 refine cD (k + 1) ?_
 refine dx ?_
 simp only [pq]
 refine aH ?_
 have a9 := St.drop a9 (.cons _ (List.Sublist.refl _))
 exact a2 _ _ _ (by omega) ⟨(k + 1), _, rfl, rfl, rfl, a9, (by omega), (by rw [hT, tO hp, if_neg (by omega), if_neg (fun h => a6 (by have := h.2; rw [hqd] at this; exact this))])⟩
 refine aQ F 9 [] (by kernel_rfl) (by kernel_rfl) ?_
 simp only [cV]
 refine gm ?_
 refine gv bF (fun _ _ => rW (m := ((k : Nat) : Int)) (n := (0 : Int)) (b := false) rfl rfl (decide_eq_false (by omega))) ?_
 refine gm ?_
 simp only [pq]
 refine dN (bY rfl rfl rfl (c := false) rfl (by decide)) ?_
 simp only [pq]
 refine dN (bY rfl rfl rfl (c := false) rfl (by decide)) ?_
 simp only [pq]
 refine dN (bY rfl rfl rfl (c := false) rfl (by decide)) ?_
 simp only [pq]
 refine dN (bY rfl rfl rfl (c := false) rfl (by decide)) ?_
 simp only [pq]
 refine dN (bY rfl rfl rfl (c := false) rfl (by decide)) ?_
 simp only [pq]
 refine dN (bY rfl rfl rfl (c := false) rfl (by decide)) ?_
 refine bN ?_
 intro g9 c7 c8
 clear c8
 have c9 := St.tells a1 c7
 simp only [cW]
 refine aC ?_
 refine wlK a0 ?_
 refine aG ?_
 refine aI ?_
 refine a4 _ _ ?_
 refine aB ?_
 refine cD (k + 1) ?_
 refine dx ?_
 simp only [pq]
 refine aH ?_
 have c9 := St.drop c9 (.cons _ (List.Sublist.refl _))
 exact a2 _ _ _ (by omega) ⟨(k + 1), _, rfl, rfl, rfl, c9, (by omega), (by rw [hT, tO hp, if_neg (by omega), if_neg (fun h => h0 h.1)])⟩
 refine mS ?_
 refine wn a5 ?_
 refine aK ?_
 refine sk fun h1 d0 => ?_
 refine aC ?_
 refine wn d0 ?_
 refine aO ?_
 try simp only [xt]
 refine bR (bC rfl (gD rfl)) ?_
 exact ⟨by unfold iT; rw [if_neg (by omega), hT, tO hp, if_pos c2], a1.gr.below⟩
 refine eM ?_
 refine wn a3 ?_
 refine aF fun h2 f0 => ?_
 refine aG ?_
 refine cS ?_
 refine hK5 _ _ ?_
 refine sk fun h3 d1 => ?_
 refine dy ?_
 refine wn d1 ?_
 refine aO ?_
 try simp only [xt]
 refine bR (bC rfl (gD rfl)) ?_
 exact ⟨by unfold iT; rw [if_neg (by omega), hT, NB (by omega)], a7.gr.below⟩
theorem PW (z : Nat) (h : z < 9223372036854775808) (w : World) : (convert 3 132 (.int .i64 (z : Int))).run Tryz.prog w = .ok (.int .u64 (z : Int)) w := by
 have e : IntKind.u64.wrap (z : Int) = (z : Int) := by
  rw [show IntKind.u64.wrap (z : Int) = (z : Int) % 18446744073709551616 from rfl]; omega
 go_simp
theorem PX (z : Nat) (h : z < 9223372036854775808) (w : World) : (convert 132 3 (.int .u64 (z : Int))).run Tryz.prog w = .ok (.int .i64 (z : Int)) w := by
 have e : IntKind.i64.wrap (z : Int) = (z : Int) := jN (by omega) (by omega)
 go_simp
theorem VH (z : Nat) (w : World) (X : TypeId) : (binOp .shr X (.int .u64 (z : Int)) (.int .u64 1)).run Tryz.prog w = .ok (.int .u64 ((z / 2 : Nat) : Int)) w := by
 have e : ((z / 2 : Nat) : Int) = (z : Int) / 2 := by omega
 rw [e]
 go_simp
theorem NC {P : Program} {ρ : Operand → Value} {w : World} {d : Option Tmp} {t X Y : TypeId} {pos : String} {after : Array Edge} {guard : Option (Nat × Bool)} {x y : Operand} {k k' : IntKind} {m n : Int} {v : Value} {op : BinOp} (hop : op = .shr ∨ op = .shl) (hx : ρ x = .int k m) (hy : ρ y = .int k' n) (h : (binOp op X (.int k m) (.int k' n)).run P w = .ok v w) : (execOp ρ ⟨d, .binOp op X x y Y, t, pos, after, guard⟩).run P w = .ok (.value v) w := by
 have e : (eqGuard op X x y (.int k m) (.int k' n)).run P w = .ok () w := by
  unfold eqGuard
  rcases hop with rfl | rfl <;> rfl
 simp only [execOp, hx, hy, Sem.run_bind, e, Result.andThen_ok, h, Sem.run_pure]
theorem GY {α : Type} {l : List (By × α)} (hr : fO l) {h : Nat} {p : By × α} {k : By} (hp : l[h]? = some p) (hlt : eQ p.1 k < 0) : h + 1 ≤ aS l k := by
 obtain ⟨hh, rfl⟩ := List.getElem?_eq_some_iff.1 hp
 rcases Nat.lt_or_ge h (aS l k) with h1 | h1
 ·exact h1
 ·exact absurd (qK.1 hlt) (vL hr h1 hh)
theorem VI {α : Type} {l : List (By × α)} {h : Nat} {p : By × α} {k : By} (hp : l[h]? = some p) (hge : ¬ eQ p.1 k < 0) : aS l k ≤ h := by
 obtain ⟨hh, rfl⟩ := List.getElem?_eq_some_iff.1 hp
 rcases Nat.lt_or_ge h (aS l k) with h1 | h1
 ·exact absurd (qK.2 (vK (f := (·.1)) h1 hh)) hge
 ·exact h1
theorem PY {α : Type} {l : List (By × α)} (hr : fO l) {p : By × α} {k : By} (hp : l[aS l k]? = some p) (h : eQ p.1 k = 0) : eW l k = true := by
 obtain ⟨hh, rfl⟩ := List.getElem?_eq_some_iff.1 hp
 exact (iA hr).2 ⟨hh, OW.1 h⟩
theorem ND {α : Type} {l : List (By × α)} (hr : fO l) {p : By × α} {k : By} (hp : l[aS l k]? = some p) (h : ¬ eQ p.1 k = 0) : eW l k = false := by
 obtain ⟨hh, rfl⟩ := List.getElem?_eq_some_iff.1 hp
 cases e : eW l k with
 | false => rfl
 | true => obtain ⟨_, h2⟩ := (iA hr).1 e; exact absurd (OW.2 h2) h
theorem GZ {α : Type} {l : List (By × α)} (hr : fO l) {k : By} (h : ¬ aS l k < l.length) : eW l k = false := by
 cases e : eW l k with
 | false => rfl
 | true => obtain ⟨h1, _⟩ := (iA hr).1 e; exact absurd h1 h
theorem HB (F : Fz) (w : World) (v u : Value) (l : List Pr) (q : Pr) (hs : Sat w F) (hv : Prs F v l) (hu : Pr2V F u q) (hr : fO l) (hl : l.length ≤ 1000000) :
    Calls Tryz.prog 72 #[v, u, .func (.func 58) #[] #[]] w (cY w (.tuple #[.int .i64 (aS l q.1 : Nat), .bool (eW l q.1)])) := by
 obtain ⟨a, c, rfl, hc1, hc2⟩ := Sl.shape hv
 obtain ⟨x0q, y0q, x1q, y1q, rfl, k0, k1⟩ := hu
 unfold maxLen at hc2
 have S := St.start hs
 go_enter Tryz.func72, Tryz.ntmps72
 refine sk fun K1 hK1 => ?_
 refine aZ S (v := fun n => .pointer (aA n 0)) rfl (bW (v := (.agg #[(.slice x0q q.1.length y0q), (.slice x1q q.2.length y1q)])) rfl) (fun n2 w3 S4 => ?_)
 iterate 2 refine dy ?_
 refine wn hK1 ?_
 refine sk fun K5 hK5 => ?_
 refine aC ?_
 refine wn hK5 ?_
 refine sk fun K6 hK6 => ?_
 refine aC ?_
 refine wn hK6 ?_
 refine aF fun K7 hK7 => ?_
 refine aM ?_
 refine aW (fun mm aa w9 => ∃ (i : Nat) (j : Nat) (u8 : Nat → Value), mm = j - i ∧ u8 = dY aa ∧ aa = ⟨([(.slice a l.length c), (.agg #[(.slice x0q q.1.length y0q), (.slice x1q q.2.length y1q)]), (.func (.func 58) #[] #[]), undef, (pP n2 0), undef, (iI 0), bF, (nI l.length), (nI i), (nI j), (u8 11), (.slice a l.length c), (nI l.length), (nI l.length)] ++ (usF u8 15 20 (udF 14 []))).toArray, []⟩ ∧ St w F w9 F [⟨n2, [(.slice x0q q.1.length y0q), (.slice x1q q.2.length y1q)], 50⟩] [] ∧ (i ≤ j) ∧ (j ≤ l.length) ∧ (i ≤ aS l q.1) ∧ (aS l q.1 ≤ j)) _ ⟨0, l.length, _, rfl, rfl, rfl, S4, (by omega), (by omega), (by omega), (jU _ _ _)⟩ ?_
 rintro f1 f2 f3 ⟨i, j, u8, rfl, -, hfr, a0, hij, hj, hip, hjp⟩ f4 a9
 simp only [uzF, Nat.reduceAdd] at hfr; subst hfr
 refine aF fun f5 b9 => ?_
 refine sk fun f6 b0 => ?_
 refine aC ?_
 by_cases d9 : i < j
 ·refine fA ?_
  refine wn b0 ?_
  refine aK ?_
  refine aI ?_
  refine b9 _ _ ?_
  refine aM ?_
  refine sk fun f7 c0 => ?_
  iterate 2 refine dx ?_
  refine cD (i + j) ?_
  simp only [pq]
  refine dr (.int .u64 (((i + j) : Nat) : Int)) (aX (v := (nI (i + j))) rfl (PW (i + j) (by omega) _)) ?_
  refine dr (.int .u64 (((i + j) / 2 : Nat) : Int)) (NC (.inl rfl) rfl rfl (VH (i + j) _ _)) ?_
  refine dr (.int .i64 (((i + j) / 2 : Nat) : Int)) (aX (v := (.int .u64 (((i + j) / 2 : Nat) : Int))) rfl (PX ((i + j) / 2) (by omega) _)) ?_
  simp only [pq]
  refine dy ?_
  refine wn c0 ?_
  refine aF fun f8 b1 => ?_
  obtain ⟨p, hp⟩ : ∃ p, l[(i + j) / 2]? = some p := ⟨l[(i + j) / 2], List.getElem?_eq_getElem (by omega)⟩
  obtain ⟨e0, e3, c1, b2, b3, b4, b5, e4, e5, e6, e7⟩ := Prs.get hv hp
  refine aQ F 6 [] (by kernel_rfl) (by kernel_rfl) ?_
  simp only [cV]
  iterate 2 refine gm ?_
  simp only [pq]
  refine gm ?_
  refine gv (pP e0 (e3 + ((i + j) / 2) * 2)) (fun _ _ => bK (i := (i + j) / 2) (sz := 2) Tryz.underlying47 (cK _) rfl c1 rfl (by omega) rfl) ?_
  refine gv _ (fun _ b7 => aE rfl (cU Tryz.underlying50 rfl (eE) (mR (St.fz (St.tells a0 b7) e4) (St.fz (St.tells a0 b7) e5)))) ?_
  simp only [pq]
  refine gv _ (fun _ b7 => aE rfl (cU Tryz.underlying50 rfl (eE) (St.range (St.tells a0 b7) (i := 0) rfl 0 [(.slice x0q q.1.length y0q), (.slice x1q q.2.length y1q)] (eF 0 rfl)))) ?_
  refine bN ?_
  intro f9 c2 c3
  clear c3
  have d1 := St.tells a0 c2
  simp only [cW]
  refine aL (v := (.int .i64 (eQ p.1 q.1))) d1 rfl (uE (fs := #[]) (cs := #[]) (vs := #[(.agg #[(.slice b2 p.1.length b3), (.slice b4 p.2.length b5)]), (.agg #[(.slice x0q q.1.length y0q), (.slice x1q q.2.length y1q)])]) rfl (CY (fs := #[]) (cs := #[]) (xs := #[(.agg #[(.slice b2 p.1.length b3), (.slice b4 p.2.length b5)]), (.agg #[(.slice x0q q.1.length y0q), (.slice x1q q.2.length y1q)])]) (iX rfl rfl) (by simp)) (GS _ _)) (nE _ _ _ _ p q (d1).sat ⟨_, _, _, _, rfl, e6, e7⟩ ⟨_, _, _, _, rfl, k0, k1⟩) (fun g0 d2 => ?_)
  simp only [pq]
  by_cases a5 : (eQ p.1 q.1) < (0 : Int)
  ·refine fA ?_
   refine wlK b1 ?_
   refine aK ?_
   refine aB ?_
   refine dx ?_
   refine cD ((((i + j) / 2 + 1) : Nat) : Int) ?_
   refine dy ?_
   simp only [pq]
   refine aH ?_
   exact a9 _ _ _ (by omega) ⟨((i + j) / 2 + 1), j, _, rfl, rfl, rfl, d2, (by have := GY hr hp a5; omega), (by omega), (GY hr hp a5), (by omega)⟩
  ·refine eM ?_
   refine wlK b1 ?_
   refine aG ?_
   refine aB ?_
   refine aC ?_
   refine aH ?_
   exact a9 _ _ _ (by omega) ⟨i, (i + j) / 2, _, rfl, rfl, rfl, d2, (by omega), (by omega), (by omega), (VI hp a5)⟩
 ·refine eM ?_
  refine wn b0 ?_
  refine aG ?_
  refine cS ?_
  refine hK7 _ _ ?_
  refine aF fun g1 a6 => ?_
  by_cases h0 : i < l.length
  ·have hip2 : aS l q.1 = i := by omega
   obtain ⟨p, hp⟩ : ∃ p, l[i]? = some p := ⟨l[i], List.getElem?_eq_getElem h0⟩
   obtain ⟨d3, d4, b6, a1, a2, a3, a4, d5, d6, d7, d8⟩ := Prs.get hv hp
   by_cases c4 : eQ p.1 q.1 = 0
   ·refine aQ F 15 [(11, .is (.int .i64 (eQ p.1 q.1)))] (by kernel_rfl) (by kernel_rfl) ?_
    simp only [cV]
    iterate 2 refine gm ?_
    simp only [pq]
    refine gm ?_
    refine gv bT (fun _ _ => nS (m := ((i : Nat) : Int)) (n := ((l.length : Nat) : Int)) (b := true) rfl rfl (decide_eq_true (by omega))) ?_
    refine gm ?_
    simp only [pq]
    iterate 3 refine gm ?_
    simp only [pq]
    refine gv (pP d3 (d4 + i * 2)) (fun _ _ => bK (i := i) (sz := 2) Tryz.underlying47 (cK _) rfl b6 rfl (by omega) rfl) ?_
    refine gv _ (fun _ a7 => aE rfl (cU Tryz.underlying50 rfl (eE) (mR (St.fz (St.tells a0 a7) d5) (St.fz (St.tells a0 a7) d6)))) ?_
    refine gv _ (fun _ a7 => aE rfl (cU Tryz.underlying50 rfl (eE) (St.range (St.tells a0 a7) (i := 0) rfl 0 [(.slice x0q q.1.length y0q), (.slice x1q q.2.length y1q)] (eF 0 rfl)))) ?_
    simp only [pq]
    refine jC rfl rfl (v := (.int .i64 (eQ p.1 q.1))) (fun g2 a7 _ => bX (uE (fs := #[]) (cs := #[]) (vs := #[(.agg #[(.slice a1 p.1.length a2), (.slice a3 p.2.length a4)]), (.agg #[(.slice x0q q.1.length y0q), (.slice x1q q.2.length y1q)])]) rfl (CY (fs := #[]) (cs := #[]) (xs := #[(.agg #[(.slice a1 p.1.length a2), (.slice a3 p.2.length a4)]), (.agg #[(.slice x0q q.1.length y0q), (.slice x1q q.2.length y1q)])]) (iX rfl rfl) (by simp)) (GS _ _)) (lM (nE _ _ _ _ p q ((St.tells a0 a7)).sat ⟨_, _, _, _, rfl, d7, d8⟩ ⟨_, _, _, _, rfl, k0, k1⟩))) ?_
    refine gv bT (fun _ _ => cB (m := (eQ p.1 q.1)) (n := (0 : Int)) (b := true) rfl rfl (beq_iff_eq.2 (by omega))) ?_
    refine gv bT (fun _ _ => tG (b := true) rfl) ?_
    refine ga ?_
    simp only [pq]
    refine bN ?_
    intro g3 c5 c6
    clear c6
    have e8 := St.tells a0 c5
    simp only [cW]
    refine dy ?_
    refine wlK a6 ?_
    refine aO ?_
    try simp only [xt]
    refine bR (cI rfl (gD rfl) (gD rfl)) ?_
    ·have e2 := PY hr (by rw [hip2]; exact hp) c4
     exact ⟨by rw [e2, hip2], e8.gr.below⟩
   ·refine aQ F 15 [(11, .is (.int .i64 (eQ p.1 q.1)))] (by kernel_rfl) (by kernel_rfl) ?_
    simp only [cV]
    iterate 2 refine gm ?_
    simp only [pq]
    refine gm ?_
    refine gv bT (fun _ _ => nS (m := ((i : Nat) : Int)) (n := ((l.length : Nat) : Int)) (b := true) rfl rfl (decide_eq_true (by omega))) ?_
    refine gm ?_
    simp only [pq]
    iterate 3 refine gm ?_
    simp only [pq]
    refine gv (pP d3 (d4 + i * 2)) (fun _ _ => bK (i := i) (sz := 2) Tryz.underlying47 (cK _) rfl b6 rfl (by omega) rfl) ?_
    refine gv _ (fun _ a8 => aE rfl (cU Tryz.underlying50 rfl (eE) (mR (St.fz (St.tells a0 a8) d5) (St.fz (St.tells a0 a8) d6)))) ?_
    refine gv _ (fun _ a8 => aE rfl (cU Tryz.underlying50 rfl (eE) (St.range (St.tells a0 a8) (i := 0) rfl 0 [(.slice x0q q.1.length y0q), (.slice x1q q.2.length y1q)] (eF 0 rfl)))) ?_
    simp only [pq]
    refine jC rfl rfl (v := (.int .i64 (eQ p.1 q.1))) (fun g4 a8 _ => bX (uE (fs := #[]) (cs := #[]) (vs := #[(.agg #[(.slice a1 p.1.length a2), (.slice a3 p.2.length a4)]), (.agg #[(.slice x0q q.1.length y0q), (.slice x1q q.2.length y1q)])]) rfl (CY (fs := #[]) (cs := #[]) (xs := #[(.agg #[(.slice a1 p.1.length a2), (.slice a3 p.2.length a4)]), (.agg #[(.slice x0q q.1.length y0q), (.slice x1q q.2.length y1q)])]) (iX rfl rfl) (by simp)) (GS _ _)) (lM (nE _ _ _ _ p q ((St.tells a0 a8)).sat ⟨_, _, _, _, rfl, d7, d8⟩ ⟨_, _, _, _, rfl, k0, k1⟩))) ?_
    refine gv bF (fun _ _ => cB (m := (eQ p.1 q.1)) (n := (0 : Int)) (b := false) rfl rfl (beq_eq_false_iff_ne.2 (by omega))) ?_
    refine gv bF (fun _ _ => tG (b := true) rfl) ?_
    refine ga ?_
    simp only [pq]
    refine bN ?_
    intro g5 c7 c8
    clear c8
    have e9 := St.tells a0 c7
    simp only [cW]
    refine dy ?_
    refine wlK a6 ?_
    refine aO ?_
    try simp only [xt]
    refine bR (cI rfl (gD rfl) (gD rfl)) ?_
    ·have e1 : aS l q.1 = i := by omega
     have e2 : eW l q.1 = false := by first | exact ND hr (by rw [e1]; assumption) (by assumption) | exact GZ hr (by omega)
     exact ⟨by rw [e2, e1], e9.gr.below⟩
  ·refine aQ F 15 [] (by kernel_rfl) (by kernel_rfl) ?_
   simp only [cV]
   iterate 2 refine gm ?_
   simp only [pq]
   refine gm ?_
   refine gv bF (fun _ _ => nS (m := ((i : Nat) : Int)) (n := ((l.length : Nat) : Int)) (b := false) rfl rfl (decide_eq_false (by omega))) ?_
   refine gm ?_
   simp only [pq]
   refine dN (bY rfl rfl rfl (c := false) rfl (by decide)) ?_
   simp only [pq]
   refine dN (bY rfl rfl rfl (c := false) rfl (by decide)) ?_
   simp only [pq]
   refine dN (bY rfl rfl rfl (c := false) rfl (by decide)) ?_
   simp only [pq]
   refine dN (bY rfl rfl rfl (c := false) rfl (by decide)) ?_
   simp only [pq]
   refine dN (bY rfl rfl rfl (c := false) rfl (by decide)) ?_
   simp only [pq]
   refine dN (bY rfl rfl rfl (c := false) rfl (by decide)) ?_
   simp only [pq]
   refine dN (bY rfl rfl rfl (c := false) rfl (by decide)) ?_
   simp only [pq]
   refine dN (bY rfl rfl rfl (c := false) rfl (by decide)) ?_
   refine gv bF (fun _ _ => tG (b := false) rfl) ?_
   refine ga ?_
   refine bN ?_
   intro g6 c9 d0
   clear d0
   have f0 := St.tells a0 c9
   simp only [cW]
   refine dy ?_
   simp only [pq]
   refine wlK a6 ?_
   refine aO ?_
   try simp only [xt]
   refine bR (cI rfl (gD rfl) (gD rfl)) ?_
   ·have e1 : aS l q.1 = i := by omega
    have e2 : eW l q.1 = false := by first | exact ND hr (by rw [e1]; assumption) (by assumption) | exact GZ hr (by omega)
    exact ⟨by rw [e2, e1], f0.gr.below⟩
theorem pY (F : Fz) (w : World) (v u : Value) (l : List Pr) (k : By) (hs : Sat w F) (hv : Prs F v l) (hu : Bs F u k) (hr : fO l) (hl : l.length ≤ 1000000) :
    Calls Tryz.prog 56 #[v, u] w (cY w (.tuple #[.int .i64 (aS l k : Nat), .bool (eW l k)])) := by
 obtain ⟨a, c, rfl, hc1, hc2⟩ := Sl.shape hv
 obtain ⟨a2, c2, rfl, _⟩ := hu.shape
 have S := St.start hs
 go_enter Tryz.func56, Tryz.ntmps56
 refine sk fun K1 hK1 => ?_
 iterate 2 refine dy ?_
 refine wn hK1 ?_
 refine sk fun K2 hK2 => ?_
 iterate 2 refine dx ?_
 refine dr (.agg #[(.slice a2 k.length c2), Zn]) (aJ (cG rfl) (by kernel_rfl)) ?_
 simp only [pq]
 refine aL (v := (.tuple #[(nI (aS l k)), (.bool (eW l k))])) S rfl (fn3 (Dl _ _)) (HB _ _ _ _ l (k, []) (S).sat hv ⟨_, _, _, _, rfl, hu, Bs.nil _⟩ hr (by omega)) (fun w3 S4 => ?_)
 refine aC ?_
 refine wn hK2 ?_
 refine aO ?_
 try simp only [xt]
 refine bR (cI rfl (gD rfl) (gD rfl)) ?_
 exact ⟨rfl, S4.gr.below⟩
def FndV (F : Fz) (u : Value) (o : Option By) : Prop := ∃ a c, u = .agg #[.bool o.isSome, .slice a (o.getD []).length c] ∧ Bs F (.slice a (o.getD []).length c) (o.getD [])
theorem FndV.mono {F F' : Fz} {u : Value} {o : Option By} (h : FndV F u o) (hl : Le F F') : FndV F' u o := by
 obtain ⟨a, c, rfl, h1⟩ := h; exact ⟨a, c, rfl, h1.mono hl⟩
def Dv (o : Option By) (e : Int) (F : Fz) (u : Value) : Prop := ∃ x, u = .tuple #[x, .int .i64 e] ∧ FndV F x o
theorem Aq {l : List Pr} (hr : fO l) {k : By} {p : Pr} (h : eW l k = true) (hp : l[aS l k]? = some p) : jM l k = some p.2 := by
 obtain ⟨hh, rfl⟩ := List.getElem?_eq_some_iff.1 hp
 obtain ⟨_, h2⟩ := (iA hr).1 h
 have := AM hr (List.getElem_mem hh)
 rw [show l[aS l k].1 = k from h2] at this
 exact this
theorem PZ {α : Type} {l : List (By × α)} {k : By} (h : ¬ eW l k = true) : jM l k = none := by
 rw [DY] at h
 cases e : jM l k with
 | none => rfl
 | some _ => rw [e] at h; exact absurd rfl h
theorem VJ (F : Fz) (w : World) (v u : Value) (l : List Pr) (k : By) (hs : Sat w F) (hv : Prs F v l) (hu : Bs F u k) (ok1 : TreeOk 60 l) (hk1 : 1 ≤ k.length) (hk2 : k.length ≤ 16) :
    Calls Tryz.prog 39 #[v, u] w (dO w F (Dv (jM l k) 0)) := by
 have ok := pX.2 ok1
 have okk := jL hk1 hk2
 obtain ⟨a, c, rfl, hc1, hc2⟩ := Sl.shape hv
 obtain ⟨a2, c2, rfl, _⟩ := hu.shape
 have S := St.start hs
 go_enter Tryz.func39, Tryz.ntmps39
 refine sk fun K1 hK1 => ?_
 refine sA S (oU _) fun n2 w3 S4 => ?_
 refine dy ?_
 refine wn hK1 ?_
 refine aF fun K5 hK5 => ?_
 refine sk fun K6 hK6 => ?_
 refine dx ?_
 simp only [pq]
 refine aL (v := (.int .i64 (iT l))) S4 rfl (fn1 (BF _ _)) (jG _ _ _ l (S4).sat hv) (fun w7 S8 => ?_)
 refine dy ?_
 refine wn hK6 ?_
 refine sk fun K9 hK9 => ?_
 refine dx ?_
 refine dr bF (cC (m := (iT l)) (n := (0 : Int)) (b := false) rfl rfl (bne_eq_false_iff_eq.2 (ok))) ?_
 simp only [pq]
 refine wn hK9 ?_
 refine aG ?_
 refine aI ?_
 refine hK5 _ _ ?_
 refine aF fun d0 a3 => ?_
 refine sk fun d1 a4 => ?_
 refine dx ?_
 refine aL (v := (.int .i64 (cF k.length))) S8 rfl (fn1 (uQ _ _)) (fN (kF _ _ _ k hu)) (fun d2 b4 => ?_)
 refine dy ?_
 refine wn a4 ?_
 refine sk fun d3 a5 => ?_
 refine dx ?_
 refine dr bF (cC (m := (cF k.length)) (n := (0 : Int)) (b := false) rfl rfl (bne_eq_false_iff_eq.2 (okk))) ?_
 simp only [pq]
 refine wn a5 ?_
 refine aG ?_
 refine aI ?_
 refine a3 _ _ ?_
 refine aF fun d4 a6 => ?_
 refine sk fun d5 a7 => ?_
 iterate 2 refine dx ?_
 refine aL (v := (.tuple #[(nI (aS l k)), (.bool (eW l k))])) b4 rfl (fn2 (BH _ _)) (pY _ _ _ _ l k (b4).sat hv hu ok1.rise (by have := ok1.len; omega)) (fun d6 a1 => ?_)
 refine aC ?_
 refine wn a7 ?_
 refine sk fun d7 a8 => ?_
 refine dx ?_
 simp only [pq]
 refine wn a8 ?_
 refine wp_cond_split rfl (fun a0 => ?_) (fun a0 => ?_)
 refine sk fun d8 a9 => ?_
 refine aC ?_
 obtain ⟨hp0, _⟩ := (iA ok1.rise).1 a0
 obtain ⟨p, hp⟩ : ∃ p, l[aS l k]? = some p := ⟨l[aS l k], List.getElem?_eq_getElem hp0⟩
 have hpo := ok1.ok p (List.mem_of_getElem? hp)
 have hpl := hpo.2.2
 obtain ⟨b9, c0, b0, c1, c3, c4, c5, d9, c6, e0, c7⟩ := Prs.get hv hp
 refine dr (pP b9 (c0 + (aS l k) * 2)) (bK (i := (aS l k)) (sz := 2) Tryz.underlying47 (cK _) rfl b0 rfl (hp0) rfl) ?_
 refine df (zK _ _) ?_
 refine dr _ (aE rfl (aT (bD _) (St.fz a1 c6))) ?_
 simp only [pq]
 refine aY a1 rfl (fn1 (gV _ _)) (dC _ _ _ p.2 (a1).sat c7 (by omega)) ?_
 intro e1 e2 e3 c8 c9 b5
 obtain ⟨b1, b2, rfl, _⟩ := b5.shape
 refine dr (.agg #[bT, (.slice b1 p.2.length b2)]) (aJ (eZ rfl rfl) (by kernel_rfl)) ?_
 refine sW 0 c8 (hJ) fun e4 b6 => ?_
 refine dy ?_
 simp only [pq]
 refine wn a9 ?_
 refine aO ?_
 try simp only [xt]
 refine bR (cZ rfl ⟨_, rfl, lR b6 0 Tryz.underlying72 (hJ)⟩ (gD rfl)) ?_
 rw [Aq ok1.rise a0 hp]
 exact ⟨_, _, rfl, b6.gr, _, rfl, _, _, rfl, b5⟩
 refine aI ?_
 refine a6 _ _ ?_
 refine sk fun e5 b3 => ?_
 refine dr (.agg #[bF, Zn]) (aJ (gP) (by kernel_rfl)) ?_
 refine sW 0 a1 (hJ) fun e6 b7 => ?_
 refine dy ?_
 simp only [pq]
 refine wn b3 ?_
 refine aO ?_
 try simp only [xt]
 refine bR (cZ rfl ⟨_, rfl, lR b7 0 Tryz.underlying72 (hJ)⟩ (gD rfl)) ?_
 rw [PZ (by rw [a0]; simp)]
 exact ⟨_, _, rfl, b7.gr, _, rfl, _, _, rfl, Bs.nil _⟩
theorem nH {W w' : World} {a : Addr} {v : Value} (h : Below W.heap.size W w') (hc : W.cell? a = some v) : w'.cell? a = some v := by
 have hlt : a.block < W.heap.size := by
  rcases Nat.lt_or_ge a.block W.heap.size with h' | h'
  ·exact h'
  ·simp [World.cell?, Array.getElem?_eq_none h'] at hc
 rw [← hc]
 unfold World.cell?
 rw [h.block a.block hlt]
section
variable {α : Type} {k E base : Nat} {R : Fz → List Value → α → Prop} {w : World} {F : Fz} {l : List α}
theorem Own.addr0 {a : Option Addr} {n c : Nat} (h : Own k R E base w F (.slice a n c) l) (hl : 0 < l.length) : ∃ g, a = some ⟨g, 0, none⟩ := by
 obtain ⟨g, cap, e, _⟩ := h.form hl
 injection e with e
 exact ⟨g, e⟩
theorem Own.at {a : Option Addr} {n c : Nat} (h : Own k R E base w F (.slice a n c) l) {i : Nat} {p : α} (hp : l[i]? = some p) : ∃ g cs, a = some ⟨g, 0, none⟩ ∧ cs.length = k ∧ R F cs p ∧ w.rangeAt g (i * k) cs := by
 obtain ⟨hi, rfl⟩ := List.getElem?_eq_some_iff.1 hp
 obtain ⟨el, ⟨e1, e2⟩, h2, h3⟩ := h.ex
 have hll := h2.len
 rcases e2 with ⟨e2, h0⟩ | ⟨g, cap, cur, e2, q0, hg, q1, q2, q3, q4⟩
 omega
 injection e2 with e2
 refine ⟨g, el[i]'(by omega), e2, h3 _ (List.getElem_mem _), h2.get i (by omega) hi, fun j u hu => ?_⟩
 have hj : j < k := by
  have := (List.getElem?_eq_some_iff.1 hu).1
  rwa [h3 _ (List.getElem_mem _)] at this
 have hf := lK h3 i (by omega) j hj
 rw [← q4, List.getElem?_take] at hf
 rw [← hf] at hu
 split at hu
 simp only [World.cell?, hg]; simpa using hu
 cases hu
theorem Own.len {a : Option Addr} {n c : Nat} (h : Own k R E base w F (.slice a n c) l) : n = l.length := by
 obtain ⟨a', c', e, _⟩ := h.shape
 injection e
end
theorem Ex {E base : Nat} {w : World} {F : Fz} {l : List (By × List Pr)} {a : Option Addr} {n c : Nat} (h : Own 2 TnC E base w F (.slice a n c) l) {i : Nat} {p : By × List Pr} (hp : l[i]? = some p) :
    ∃ g, a = some ⟨g, 0, none⟩ ∧ ∃ xa xc ya yc, w.cell? ⟨g, 0 + i * 2, none⟩ = some (.slice xa p.1.length xc) ∧ w.cell? ⟨g, 0 + i * 2 + 1, none⟩ = some (.slice ya p.2.length yc) ∧ Bs F (.slice xa p.1.length xc) p.1 ∧ Prs F (.slice ya p.2.length yc) p.2 := by
 obtain ⟨g, cs, e, _, ⟨x, y, rfl, r1, r2⟩, hr⟩ := h.at hp
 obtain ⟨xa, xc, rfl, _⟩ := r1.shape
 obtain ⟨ya, yc, rfl, _⟩ := Sl.shape r2
 refine ⟨g, e, xa, xc, ya, yc, ?_, ?_, r1, r2⟩
 have := hr 0 _ rfl; rw [Nat.zero_add]; simpa using this
 have := hr 1 _ rfl; rw [Nat.zero_add]; simpa using this
theorem EL {P : Program} {w0 w : World} {F0 F : Fz} {L : List Blk} {M : List RowP} {α : Type} {k base E : Nat} {R : Fz → List Value → α → Prop} {hR : ∀ F F' x p, Le F F' → R F x p → R F' x p} {l : List α} {ops : Array Oper} {Q : Exit → Act → World → Prop} {a : Act} {rest : List Oper} {d : Option Tmp} {t T : TypeId} {x y : Operand} {pos : String} {after : Array Edge} {guard : Option (Nat × Bool)} {r g cap i j o n : Nat} {u : Value} {p : α} (S : St w0 F0 w F L M)
    (hw : Region.wanted ⟨d, .store T x y, t, pos, after, guard⟩ (yielded ops a.tmps) = true) (hx : a.eval x = .pointer (some ⟨g, o, none⟩)) (ho : o = i * k + j) (hjk : j < k) (hy : a.eval y = u) (hM : M[r]? = some (bV k R hR E base (.slice (some ⟨g, 0, none⟩) n cap) l)) (hil : i < l.length)
    (hi : (P.info? T).map (·.size) = some 1) (h1 : u.oneCell' = true) (hu : u.cells = #[u]) (hp : ∀ cs (q : α), l[i]? = some q → R F cs q → R F (cs.set j u) p) (hb : w0.heap.size ≤ base)
    (h : ∀ w', St w0 F0 w' F L (M.set r (bV k R hR E base (.slice (some ⟨g, 0, none⟩) n cap) (l.set i p))) → WL P ops Q rest (a.put d undef) w') : WL P ops Q (⟨d, .store T x y, t, pos, after, guard⟩ :: rest) a w := by
 obtain ⟨el, ⟨e1, e2⟩, h2, h3⟩ := (S.own hM).ex
 have hll := h2.len
 subst ho
 rcases e2 with ⟨e2, _⟩ | ⟨g', cap', cur, e2, q0, hg, q1, q2, q3, q4⟩
 cases e2
 injection e2 with e2 e2n e2c
 injection e2 with e2
 injection e2 with e2
 subst e2; subst e2n; subst e2c
 have hcl : cur.toList.length = cap * k := by simpa using q3
 have hkl : (i + 1) * k ≤ l.length * k := Nat.mul_le_mul_right k (by omega)
 have hlc : l.length * k ≤ cap * k := Nat.mul_le_mul_right k q1
 rw [Nat.add_mul, Nat.one_mul] at hkl
 have hle : i * k + j + 1 ≤ cur.toList.length := by rw [hcl]; omega
 have ht : w.there g (i * k + j) u.cells.size := by
  intro m hm
  rw [hu] at hm
  simp at hm
  subst hm
  have : i * k + j < cur.size := by simp at hle; omega
  exact ⟨by simp [World.cell?, hg, this], by simp [World.frozen?, hg]⟩
 have hst := FX (P := P) (T := T) (v := u) (by rw [hu]; exact hi) ht (by rw [hu]; simp [h1])
 have hgrown : w.grownBy (w.setCells g (i * k + j) u.cells.toList) (Value.slice (some ⟨g, 0, none⟩) l.length cap).ownBlock := by
  have hb' := kV (B := 0) (Nat.zero_le g) u.cells.toList (i * k + j) w w (Below.refl 0 w)
  exact ⟨hb'.os, hb'.tape, hb'.output, hb'.size, fun b hb1 hb2 => fV _ _ _ (fun e => hb2 (by rw [e]; rfl))⟩
 have hheap := mA (n := g) (T := E) (fr := (0, 0)) u.cells.toList (i * k + j) w cur.toList (by simpa using hg) (by rw [hu]; simpa using hle)
 have hxl : el[i]'(by omega) ∈ el := List.getElem_mem _
 have hel := h3 _ hxl
 have hown : Own k R E base (w.setCells g (i * k + j) u.cells.toList) F (.slice (some ⟨g, 0, none⟩) l.length cap) (l.set i p) := by
  refine ⟨⟨el.set i ((el[i]'(by omega)).set j u), ⟨?_, .inr ⟨g, cap, _, by rw [List.length_set], q0, hheap, by rw [List.length_set]; exact q1, q2, ?_, ?_⟩⟩, IV h2 (hp _ _ (List.getElem?_eq_getElem hil) (h2.get i (by omega) hil)), fun y hy => ?_⟩, (S.own hM).out⟩
  rw [eY (fun y hy => ?_), List.length_set, List.length_set, hll]
  rcases List.mem_or_eq_of_mem_set hy with hy | rfl
  exact h3 y hy
  rw [List.length_set]; exact hel
  rw [List.size_toArray, bZ (by rw [hu]; simpa using hle), hcl]
  rw [List.length_set, yG h3 (by omega) (by rw [List.length_set]; exact hel), ← q4]
  have hei : el[i]'(by omega) = (cur.toList.drop (i * k)).take k := by
   have hf : ∀ m, m < k → (el[i]'(by omega))[m]? = cur.toList[i * k + m]? := fun m hm => by
    have := lK h3 i (by omega) m hm
    rw [← this, ← q4, List.getElem?_take, if_pos (by omega)]
   apply List.ext_getElem?
   intro m
   rcases Nat.lt_or_ge m k with hm | hm
   rw [hf m hm, List.getElem?_take, if_pos hm, List.getElem?_drop]
   rw [List.getElem?_eq_none (by omega), List.getElem?_take, if_neg (by omega)]
  rw [hei, hu]
  unfold bQ
  have hcl2 : cap * k ≤ cur.toList.length := by omega
  apply List.ext_getElem?
  intro m
  simp only [List.getElem?_append, List.getElem?_take, List.getElem?_drop, List.length_take, List.length_append, List.getElem?_set, List.length_set, List.length_drop, List.length_singleton]
  grind
  rcases List.mem_or_eq_of_mem_set hy with hy | rfl
  exact h3 y hy
  rw [List.length_set]; exact hel
 refine doS hw (vU hx (by rw [hy]; exact hst)) (h _ (S.grown hM hb hgrown hown (fun g' hg' => .inl hg')))
theorem sI {P : Program} {o : Oper} {a : Act} {W w : World} {F F1 : Fz} {α : Type} {k : Nat} {R : Fz → List Value → α → Prop} {hR : ∀ F F' x p, Le F F' → R F x p → R F' x p} {cs : List Value} {p : α} {E : TypeId} (g : Gr W F w F1) (hp : R F1 cs p) (hk : cs.length = k)
    (hr : (execOp a.eval o).run P w = .ok (.value (.slice (some ⟨w.heap.size, 0, none⟩) 1 1)) (w.alloc (.cells cs.toArray E))) : kU P o a w (jZ (Made W F fun F' u => Sl k R F' u [p]) w) := by
 unfold kU
 rw [hr]
 have g2 := g.new (.cells cs.toArray E)
 have g3 := g2.add (g := w.heap.size) g.below.size
 have hle : Le F1 (addF F1 (w.alloc (.cells cs.toArray E)) w.heap.size) := fun b o hb => qG _ _ _ _ _ hb
 refine ⟨⟨_, g3, fS (R := R) (l := [p]) (c := cs) (el := [cs]) (fun j v hj => ?_) (by simp) ⟨hR _ _ _ _ hle hp, trivial⟩ (by simpa using hk) (show [p].length ≤ maxLen by simp [maxLen])⟩, (Below.refl _ _).alloc (Nat.le_refl _) _⟩
 unfold bH addF
 rw [g.sat.out (Nat.le_refl _)]
 simp only [if_true, heap_alloc_new]
 simpa using hj
def NewAt (W : World) (cs : List Value) (T : TypeId) (v : Value) (w : World) : Prop := ∃ n, v = .pointer (some ⟨n, 0, none⟩) ∧ W.heap.size ≤ n ∧ w.heap[n]? = some (.cells cs.toArray T (0, 0))
theorem NewAt.stable (W : World) (cs : List Value) (T : TypeId) : ∀ v w w', NewAt W cs T v w → Below w.heap.size w w' → NewAt W cs T v w' := by
 rintro v w w' ⟨n, h1, h2, h3⟩ hb
 exact ⟨n, h1, h2, QT hb h3⟩
theorem kI {P : Program} {d : Option Tmp} {t T : TypeId} {pos : String} {after : Array Edge} {guard : Option (Nat × Bool)} {a : Act} {w W : World} {z : Value} {cs : List Value} (hz : (zeroValue T).run P w = .ok z w) (hc : z.cells = cs.toArray) (hC : Below W.heap.size W w) : kU P ⟨d, .alloc T, t, pos, after, guard⟩ a w (jZ (NewAt W cs T) w) := by
 unfold kU
 rw [AS hz]
 refine ⟨⟨w.heap.size, rfl, hC.size, ?_⟩, (Below.refl _ _).alloc (Nat.le_refl _) _⟩
 rw [hc]
 exact heap_alloc_new w _
theorem Facts.getR {W : World} {F : Fz} {L : List (Nat × Mark)} {Vs : eP} {w : World} (h : Facts (fU W F L) Vs w) (i : Nat) {v : Value} {R : Value → World → Prop} (hv : Vs i = some v) (hL : fU W F L i = .rel R) : R v w := by
 have := h i v hv
 rw [hL] at this
 exact this
def dropF (F : Fz) (n : Nat) : Fz := fun b => if b = n then none else F b
theorem qA (F : Fz) (n : Nat) : dropF F n n = none := by simp [dropF]
theorem Gr.dropF {W w : World} {F F' : Fz} (g : Gr W F w F') (hs : Sat W F) {n : Nat} (hn : W.heap.size ≤ n) : Gr W F w (dropF F' n) :=
  ⟨g.below, fun b hb => by unfold Proofs.YtilgpdpooildcaaGreatDoor.dropF; rw [if_neg (by omega)]; exact g.old b hb, fun b o hb => by
    unfold Proofs.YtilgpdpooildcaaGreatDoor.dropF at hb
    split at hb
    · cases hb
    · exact g.sat b o hb⟩
theorem Bs.dropF {w : World} {F : Fz} {n : Nat} {cs : List Value} {T : TypeId} (hs : Sat w F) (hb : w.heap[n]? = some (.cells cs.toArray T (0, 0))) (hc : ∀ u ∈ cs, ∀ x, u ≠ bv x) {v : Value} {l : List UInt8} (h : Bs F v l) : Bs (dropF F n) v l := by
 obtain ⟨a, c, h1, h2, h3, h4, h5⟩ := h
 refine ⟨a, c, h1, h2, h3, h4, ?_⟩
 rcases h5 with h5 | ⟨b, o, e, h6⟩
 exact .inl h5
 by_cases hbn : b = n
 cases l with
 | nil => exact .inl rfl
 | cons x l =>
  exfalso
  have h0 := h6 0 (bv x) rfl
  subst hbn
  unfold bH at h0
  split at h0
  rename_i c0 t0 fr0 hF
  have := hs _ _ hF
  rw [hb] at this
  cases this
  have hm : bv x ∈ cs := by
   have : cs[o + 0]? = some (bv x) := by simpa using h0
   exact List.mem_of_getElem? this
  exact hc _ hm x rfl
  cases h0
 refine .inr ⟨b, o, e, fun j u hu => ?_⟩
 have := h6 j u hu
 unfold bH Proofs.YtilgpdpooildcaaGreatDoor.dropF at *
 rw [if_neg hbn]
 exact this
theorem Pr2V.dropF {w : World} {F : Fz} {n : Nat} {cs : List Value} {T : TypeId} (hs : Sat w F) (hb : w.heap[n]? = some (.cells cs.toArray T (0, 0))) (hc : ∀ u ∈ cs, ∀ x, u ≠ bv x) {v : Value} {p : Pr} (h : Pr2V F v p) : Pr2V (Proofs.YtilgpdpooildcaaGreatDoor.dropF F n) v p := by
 obtain ⟨x0, y0, x1, y1, rfl, h0, h1⟩ := h
 exact ⟨x0, y0, x1, y1, rfl, h0.dropF hs hb hc, h1.dropF hs hb hc⟩
theorem WrV.dropF {w : World} {F : Fz} {n : Nat} {cs : List Value} {T : TypeId} (hs : Sat w F) (hb : w.heap[n]? = some (.cells cs.toArray T (0, 0))) (hc : ∀ u ∈ cs, ∀ x, u ≠ bv x) {v : Value} {p : Wr} (h : WrV F v p) : WrV (Proofs.YtilgpdpooildcaaGreatDoor.dropF F n) v p := by
 obtain ⟨x0, y0, x1, y1, x3, y3, rfl, h0, h1, h3⟩ := h
 exact ⟨x0, y0, x1, y1, x3, y3, rfl, h0.dropF hs hb hc, h1.dropF hs hb hc, h3.dropF hs hb hc⟩
theorem RdV.dropF {w : World} {F : Fz} {n : Nat} {cs : List Value} {T : TypeId} (hs : Sat w F) (hb : w.heap[n]? = some (.cells cs.toArray T (0, 0))) (hc : ∀ u ∈ cs, ∀ x, u ≠ bv x) {v : Value} {p : Rd} (h : RdV F v p) : RdV (Proofs.YtilgpdpooildcaaGreatDoor.dropF F n) v p := by
 obtain ⟨x0, y0, x1, y1, x3, y3, rfl, h0, h1, h3⟩ := h
 exact ⟨x0, y0, x1, y1, x3, y3, rfl, h0.dropF hs hb hc, h1.dropF hs hb hc, h3.dropF hs hb hc⟩
theorem fY {P : Program} {o : Oper} {a : Act} {w : World} {v : Value} {R : Value → World → Prop} (h : (execOp a.eval o).run P w = .ok (.value v) w) (hR : R v w) (hb : Below w.heap.size w w) : kU P o a w (jZ R w) := by
 unfold kU
 rw [h]
 exact ⟨hR, hb⟩
theorem St.addBlk {w0 W w : World} {F0 F F' : Fz} {L : List Blk} {M : List RowP} (S : St w0 F0 W F L M) (g : Gr W F w F') {n : Nat} {cs : List Value} {T : TypeId} (hn : W.heap.size ≤ n) (hF : F' n = none) (hb : w.heap[n]? = some (.cells cs.toArray T (0, 0))) : St w0 F0 w F' (⟨n, cs, T⟩ :: L) M := by
 have S' := S.gives g
 refine ⟨S'.gr, fun x hx => ?_, S'.row, ?_, fun r hr x hx => ?_, S'.rr⟩
 rcases List.mem_cons.1 hx with rfl | hx
 exact ⟨hb, hF, Nat.le_trans S.gr.below.size hn⟩
 exact S'.blk x hx
 refine List.pairwise_cons.2 ⟨fun y hy => ?_, S'.bb⟩
 have := S.blk_lt hy
 simp only
 omega
 rcases List.mem_cons.1 hx with rfl | hx
 intro e
 have := ((S.row r hr).2 _ e).1
 simp at this
 omega
 exact S'.rb r hr x hx
end Go.Proofs.YtilgpdpooildcaaGreatDoor
