/- Rules, plain laws and walks: S4 S5 S6 TY R2 N1 P10 P11 T1a T1b T2 T3 S7 -/
import Derived.Test.YtilgpdpooildcaaGreatDoorBV2
import Derived.Laws.IdiomCopy
import Derived.ArgAppend
import Derived.Lib.AppendZerosOnto
import Derived.Lib.Overlaps
import Derived.Laws.MakeOwn
import Derived.Test.YtilgpdpooildcaaGreatDoorBV1
import Derived.Lib.SmallJoins
import Derived.Lib.Bytealg
namespace Go.Proofs.YtilgpdpooildcaaGreatDoor
set_option maxHeartbeats 8000000
open Go.RowKit
set_option linter.unusedVariables false
section
variable {P : Program} {w0 w w' : World} {F0 F : Fz} {L : List Blk} {M : List RowP} {α : Type} {k base E : Nat} {R : Fz → List Value → α → Prop} {hR : ∀ F F' x p, Le F F' → R F x p → R F' x p} {v : Value} {l : List α}
theorem St.other (S : St w0 F0 w F L M) {r : Nat} {p : RowP} (hM : M[r]? = some p) : ∀ s ∈ M.eraseIdx r, ∀ g, p.ob = some g → s.ob ≠ some g := by
 obtain ⟨hi, he⟩ := List.getElem?_eq_some_iff.1 hM
 intro s hs g hg hc
 obtain ⟨k', hk, rfl⟩ := List.mem_iff_getElem.1 hs
 have hp := List.pairwise_iff_getElem.1 S.rr
 rw [List.length_eraseIdx, if_pos hi] at hk
 rw [List.getElem_eraseIdx] at hc
 split at hc
 ·rename_i hlt
  have := hp k' r (by omega) hi hlt g hc; rw [he] at this; exact this hg
 ·rename_i hge
  have := hp r (k' + 1) hi (by omega) (by omega) g (by rw [he]; exact hg); exact this hc
theorem St.rowBlk {r g n cap : Nat} (S : St w0 F0 w F L M) (hM : M[r]? = some (ownP k R hR E base (.slice (some ⟨g, 0, none⟩) n cap) l)) :
    ∃ c el, St w0 F0 w F (⟨g, c, E⟩ :: L) (M.eraseIdx r) ∧ n = l.length ∧ n ≤ cap ∧ cap ≤ maxLen ∧ c.length = cap * k ∧ c.take (n * k) = el.flatten ∧ AllR (R F) el l ∧ (∀ x ∈ el, x.length = k) ∧ base ≤ g := by
 have hown := S.own hM
 obtain ⟨hi, he⟩ := List.getElem?_eq_some_iff.1 hM
 have hm : ownP k R hR E base (.slice (some ⟨g, 0, none⟩) n cap) l ∈ M := by rw [← he]; exact List.getElem_mem hi
 obtain ⟨el, ⟨e1, e2⟩, h2, h3⟩ := hown.ex
 have hsub := List.eraseIdx_sublist M r
 have hr0 := (S.row _ hm).2 g rfl
 rcases e2 with ⟨e2, _⟩ | ⟨g', cap', cur, e2, q0, hg, q1, q2, q3, q4⟩
 cases e2
 injection e2 with e2 e2n e2c
 injection e2 with e2
 injection e2 with e2
 subst e2; subst e2n; subst e2c
 refine ⟨cur.toList, el, ⟨S.gr, fun x hx => ?_, fun s hs => S.row s (hsub.subset hs), ?_, fun s hs x hx => ?_, S.rr.sublist hsub⟩, rfl, q1, q2, by simpa using q3, q4, h2, h3, q0⟩
 rcases List.mem_cons.1 hx with rfl | hx
 exact ⟨by simpa using hg, hr0.2.1, hr0.2.2⟩
 exact S.blk x hx
 exact List.pairwise_cons.2 ⟨fun x hx e => S.rb _ hm x hx (congrArg some e), S.bb⟩
 rcases List.mem_cons.1 hx with rfl | hx
 exact S.other hM s hs g rfl
 exact S.rb s (hsub.subset hs) x hx
theorem St.blkRow {g cap : Nat} {c : List Value} (S : St w0 F0 w F (⟨g, c, E⟩ :: L) M) {el : List (List Value)} (hc : c.take (l.length * k) = el.flatten) (h2 : AllR (R F) el l) (h3 : ∀ x ∈ el, x.length = k) (h4 : c.length = cap * k) (h5 : l.length ≤ cap) (h6 : cap ≤ maxLen) (hb : base ≤ g) : St w0 F0 w F L (ownP k R hR E base (.slice (some ⟨g, 0, none⟩) l.length cap) l :: M) := by
 have hb0 := S.blk ⟨g, c, E⟩ (by simp)
 have hbb := List.pairwise_cons.1 S.bb
 refine ⟨S.gr, fun x hx => S.blk x (by simp [hx]), fun r hr => ?_, hbb.2, fun r hr x hx => ?_, List.pairwise_cons.2 ⟨fun s hs b hb' hc' => ?_, S.rr⟩⟩
 rcases List.mem_cons.1 hr with rfl | hr
 refine ⟨⟨⟨el, ⟨?_, .inr ⟨g, cap, c.toArray, rfl, hb, hb0.1, h5, h6, by simpa using h4, by simpa using hc⟩⟩, h2, h3⟩, fun b e => ?_⟩, fun b e => ?_⟩
 rw [flatten_len h3, h2.len]
 cases e; exact hb0.2.1
 cases e; exact ⟨S.blk_lt (x := ⟨g, c, E⟩) (by simp), hb0.2⟩
 exact S.row r hr
 rcases List.mem_cons.1 hr with rfl | hr
 intro e; cases e; exact hbb.1 x hx rfl
 exact S.rb r hr x (by simp [hx])
 cases hb'; exact S.rb s hs ⟨g, c, E⟩ (by simp) hc'
theorem run_copyN (w : World) (dT sT ty elem : TypeId) (b o dLen dCap k : Nat) (a : Addr) (sLen sCap m : Nat) (cs : List Value)
    (hu : P.underlying dT = some (.slice elem)) (hs : (P.info? elem).map (·.size) = some k) (hn : Nat.min sLen dLen = m) (hl : cs.length = m * k)
    (hsrc : ∀ j v, cs[j]? = some v → w.cell? (a.add j) = some v) (ht : w.there b o cs.length) (h1 : ∀ v ∈ cs, v.oneCell' = true) :
    (Builtin.copy_ #[dT, sT] ty #[.slice (some ⟨b, o, none⟩) dLen dCap, .slice (some a) sLen sCap]).run P w = .ok (.int .i64 (m : Int)) (w.setCells b o cs) := by
 have hf := run_firstCells_some (P := P) w k m a sLen sCap cs hl hsrc
 have hst := run_storeCells_cells (P := P) b o cs 0 w (fun j hj => by simpa using (ht j hj).1) (fun j hj => by simpa using (ht j hj).2) h1
 cases hq : P.info? elem with
 | none => simp [hq] at hs
 | some i =>
  have hi : i.size = k := by simpa [hq] using hs
  simp [Builtin.copy_, run_underlying hu, Builtin.lenOf, sizeOf, typeInfo, hq, hi, hn, hf, hst]
  rfl
theorem stCopy {ops : Array Oper} {Q : Exit → Act → World → Prop} {a : Act} {rest : List Oper} {d : Option Tmp} {t dT sT elem : TypeId} {x y : Operand} {pos : String} {after : Array Edge} {guard : Option (Nat × Bool)} {i g j dl dc sl sc : Nat} {T : TypeId} {c : List Value} {ad : Addr} (m : Nat) (cs : List Value) (S : St w0 F0 w F L M)
    (hw : Region.wanted ⟨d, .call ⟨.builtin .copy, #[x, y], #[dT, sT]⟩, t, pos, after, guard⟩ (yielded ops a.tmps) = true) (hu : P.underlying dT = some (.slice elem)) (hz : (P.info? elem).map (·.size) = some k)
    (hx : a.eval x = .slice (some ⟨g, j, none⟩) dl dc) (hy : a.eval y = .slice (some ad) sl sc) (hL : L[i]? = some ⟨g, c, T⟩) (hm : Nat.min sl dl = m) (hl : cs.length = m * k) (hfit : j + cs.length ≤ c.length)
    (hsrc : ∀ q u, cs[q]? = some u → w.cell? (ad.add q) = some u) (h1 : ∀ u ∈ cs, u.oneCell' = true)
    (h : ∀ w', St w0 F0 w' F (L.set i ⟨g, splice c j cs, T⟩) M → WL P ops Q rest (a.put d (.int .i64 (m : Int))) w') : WL P ops Q (⟨d, .call ⟨.builtin .copy, #[x, y], #[dT, sT]⟩, t, pos, after, guard⟩ :: rest) a w := by
 have hrun := run_copyN (P := P) w dT sT t elem g j dl dc k ad sl sc m cs hu hz hm hl hsrc (S.there hL j cs.length hfit) h1
 refine do_ hw _ ?_ (h _ (S.store hL j cs hfit))
 simp only [execOp, resolve, invoke, builtin, Sem.run_bind, Sem.run_pure, Result.andThen_ok, List.map_toArray, List.map_cons, List.map_nil, hx, hy, hrun]
theorem run_clearN (w : World) (t e ty : TypeId) (z : Value) (ht : P.underlying t = some (.slice e)) (hv : ∀ w, (zeroValue e).run P w = .ok z w) (b o n c : Nat) (zs : List Value) (hz : (Builtin.zeroCells z.cells n).toList = zs) (hn : 0 < n)
    (hth : w.there b o zs.length) (h1 : ∀ v ∈ zs, v.oneCell' = true) :
    (Builtin.clear_ #[t] ty #[.slice (some ⟨b, o, none⟩) n c]).run P w = .ok (.tuple #[]) (w.setCells b o zs) := by
 have hst := run_storeCells_cells (P := P) b o zs 0 w (fun j hj => by simpa using (hth j hj).1) (fun j hj => by simpa using (hth j hj).2) h1
 simp only [Nat.add_zero] at hst
 obtain ⟨m, rfl⟩ : ∃ m, n = m + 1 := ⟨n - 1, by omega⟩
 simp [Builtin.clear_, run_underlying ht, hv, hz, hst]
theorem stClear {ops : Array Oper} {Q : Exit → Act → World → Prop} {a : Act} {rest : List Oper} {d : Option Tmp} {t sT elem : TypeId} {x : Operand} {pos : String} {after : Array Edge} {guard : Option (Nat × Bool)} {i g j n cp : Nat} {T : TypeId} {c : List Value} (z : Value) (zs : List Value) (S : St w0 F0 w F L M)
    (hw : Region.wanted ⟨d, .call ⟨.builtin .clear, #[x], #[sT]⟩, t, pos, after, guard⟩ (yielded ops a.tmps) = true) (hu : P.underlying sT = some (.slice elem)) (hv : ∀ w, (zeroValue elem).run P w = .ok z w) (hz : (Builtin.zeroCells z.cells n).toList = zs)
    (hx : a.eval x = .slice (some ⟨g, j, none⟩) n cp) (hn : 0 < n) (hL : L[i]? = some ⟨g, c, T⟩) (hfit : j + zs.length ≤ c.length) (h1 : ∀ u ∈ zs, u.oneCell' = true)
    (h : ∀ w', St w0 F0 w' F (L.set i ⟨g, splice c j zs, T⟩) M → WL P ops Q rest (a.put d (.tuple #[])) w') : WL P ops Q (⟨d, .call ⟨.builtin .clear, #[x], #[sT]⟩, t, pos, after, guard⟩ :: rest) a w := by
 have hrun := run_clearN (P := P) w sT elem t z hu hv g j n cp zs hz hn (S.there hL j zs.length hfit) h1
 refine do_ hw _ ?_ (h _ (S.store hL j zs hfit))
 simp only [execOp, resolve, invoke, builtin, Sem.run_bind, Sem.run_pure, Result.andThen_ok, List.map_toArray, List.map_cons, List.map_nil, hx, hrun]
theorem stMake {ops : Array Oper} {Q : Exit → Act → World → Prop} {a : Act} {rest : List Oper} {d : Option Tmp} {t T E : TypeId} {x y : Operand} {pos : String} {after : Array Edge} {guard : Option (Nat × Bool)} {n m : Nat} (S : St w0 F0 w F L M)
    (hw : Region.wanted ⟨d, .makeSlice T x y, t, pos, after, guard⟩ (yielded ops a.tmps) = true) (inf : TypeInfo) (z : Value) (bytes : Nat) (ht : P.underlying T = some (.slice E)) (hi : P.info? E = some inf) (hz : inf.zero = some z) (hsize : inf.size = k) (hby : inf.bytes = bytes)
    (hx : a.eval x = .int .i64 (n : Int)) (hy : a.eval y = .int .i64 (m : Int)) (hnm : n ≤ m) (hb : bytes * m ≤ 281474976710656) (h63 : m ≤ 9223372036854775807)
    (h : ∀ g w', St w0 F0 w' F (⟨g, (madeCells z.cells (m * k)).toList, E⟩ :: L) M → WL P ops Q rest (a.put d (.slice (some ⟨g, 0, none⟩) n m)) w') : WL P ops Q (⟨d, .makeSlice T x y, t, pos, after, guard⟩ :: rest) a w := by
 subst hsize
 subst hby
 have hb' : (inf.bytes : Int) * (m : Int) ≤ 281474976710656 := by
  have h : ((inf.bytes * m : Nat) : Int) ≤ 281474976710656 := by omega
  rwa [Int.natCast_mul] at h
 have hrun := run_make (P := P) w T E inf z ht hi hz .i64 .i64 (n : Int) (m : Int) (by omega) (by omega) hb' (by omega)
 simp only [Int.toNat_natCast] at hrun
 refine do_ hw _ ?_ (h _ _ (S.alloc _ _))
 simp only [execOp, hx, hy, Sem.run_bind, hrun, Result.andThen_ok, Sem.run_pure]
theorem stGrow {ops : Array Oper} {Q : Exit → Act → World → Prop} {a : Act} {rest : List Oper} {d : Option Tmp} {t T I E : TypeId} {x s : Operand} {pos : String} {after : Array Edge} {guard : Option (Nat × Bool)} {n m cap : Nat} {b : Addr} (nm : Nat) (olds : List Value) (S : St w0 F0 w F L M)
    (hw : Region.wanted ⟨d, .call ⟨.builtin .append, #[s, x], #[T, I]⟩, t, pos, after, guard⟩ (yielded ops a.tmps) = true)
    (inf : TypeInfo) (z : Value) (bytes : Nat) (ht : P.underlying T = some (.slice E)) (htI : P.underlying I = some (.int .i64)) (hi : P.info? E = some inf) (hz : inf.zero = some z) (hsize : inf.size = k) (hby : inf.bytes = bytes) (hzs : z.cells.size = k) (hk : 0 < k)
    (hs : a.eval s = .slice (some b) n cap) (hx : a.eval x = .int .i64 (m : Int)) (hm : 0 < m) (hlo : olds.length = n * k) (ho : ∀ q u, olds[q]? = some u → w.cell? (b.add q) = some u)
    (hnm : n + m = nm) (hgrow : cap < nm) (h63 : nm ≤ maxLen) (hbytes : nm * bytes ≤ 140737488355328)
    (h : ∀ g cap' news more w', nm ≤ cap' → cap' ≤ maxLen → news.length = m * k → (olds ++ news ++ more).length = cap' * k → St w0 F0 w' F (⟨g, olds ++ news ++ more, E⟩ :: L) M → WL P ops Q rest (a.put d (.slice (some ⟨g, 0, none⟩) nm cap')) w') : WL P ops Q (⟨d, .call ⟨.builtin .append, #[s, x], #[T, I]⟩, t, pos, after, guard⟩ :: rest) a w := by
 subst hnm
 subst hsize
 subst hby
 have hsmall : n + m ≤ 9223372036854775807 := by simp only [maxLen] at h63; omega
 have hold := run_firstCells_some (P := P) w.drew inf.size n b n cap olds hlo ho
 have hmb : m * inf.bytes ≤ 281474976710656 := by
  have := Nat.mul_le_mul_right inf.bytes (show m ≤ n + m by omega)
  omega
 have hrun := Lib.run_append_grow_zeros (P := P) w T I t E inf z .i64 .i64 ht htI hi hz (some b) n cap olds hold m hm hk hgrow (by omega) hmb (growslice_fits hgrow hbytes)
 have hge := grownCap_ge w (n + m) cap E
 have hcm : grownCap w (n + m) cap E ≤ maxLen := grownCap_le_maxLen w (n + m) cap E h63
 have S2 := (S.tells (show Below w.heap.size w w.drew from (Below.refl _ _).drew)).alloc (olds.toArray ++ Builtin.zeroCells z.cells m ++ Builtin.zeroCells z.cells (grownCap w (n + m) cap E - (n + m))) E
 have e : (olds.toArray ++ Builtin.zeroCells z.cells m ++ Builtin.zeroCells z.cells (grownCap w (n + m) cap E - (n + m))).toList = olds ++ (Builtin.zeroCells z.cells m).toList ++ (Builtin.zeroCells z.cells (grownCap w (n + m) cap E - (n + m))).toList := by simp
 rw [e] at S2
 have hnl : (Builtin.zeroCells z.cells m).toList.length = m * inf.size := by rw [Array.length_toList, size_zeroCells, hzs]
 refine do_ hw _ ?_ (h _ _ _ _ _ hge hcm hnl ?_ S2)
 simp only [execOp, resolve, invoke, builtin, Sem.run_bind, Sem.run_pure, Result.andThen_ok, List.map_toArray, List.map_cons, List.map_nil, hs, hx, hrun]
 rfl
 have hzl : (Builtin.zeroCells z.cells (grownCap w (n + m) cap E - (n + m))).toList.length = (grownCap w (n + m) cap E - (n + m)) * inf.size := by rw [Array.length_toList, size_zeroCells, hzs]
 rw [List.length_append, List.length_append, hlo, hnl, hzl, ← Nat.add_mul, ← Nat.add_mul]
 congr 1
 omega
theorem stRoom {ops : Array Oper} {Q : Exit → Act → World → Prop} {a : Act} {rest : List Oper} {d : Option Tmp} {t T E : TypeId} {x s : Operand} {pos : String} {after : Array Edge} {guard : Option (Nat × Bool)} {i g n m cap cp : Nat} {ad : Addr} {c : List Value} {T' : TypeId} (nm : Nat) (news : List Value) (S : St w0 F0 w F L M)
    (hw : Region.wanted ⟨d, .call ⟨.builtin .append, #[s, x], #[T, T]⟩, t, pos, after, guard⟩ (yielded ops a.tmps) = true)
    (inf : TypeInfo) (ht : P.underlying T = some (.slice E)) (hi : P.info? E = some inf) (hsize : inf.size = k)
    (hs : a.eval s = .slice (some ⟨g, 0, none⟩) n cap) (hx : a.eval x = .slice (some ad) m cp) (hL : L[i]? = some ⟨g, c, T'⟩) (hln : news.length = m * k) (hn : ∀ q u, news[q]? = some u → w.cell? (ad.add q) = some u) (h1 : ∀ u ∈ news, u.oneCell' = true)
    (hnm : n + m = nm) (hroom : nm ≤ cap) (hfit : n * k + news.length ≤ c.length)
    (h : ∀ w', St w0 F0 w' F (L.set i ⟨g, splice c (n * k) news, T'⟩) M → WL P ops Q rest (a.put d (.slice (some ⟨g, 0, none⟩) nm cap)) w') : WL P ops Q (⟨d, .call ⟨.builtin .append, #[s, x], #[T, T]⟩, t, pos, after, guard⟩ :: rest) a w := by
 subst hnm
 subst hsize
 have ht0 := S.there hL (n * inf.size) news.length hfit
 have hrun := run_append_room_cells (P := P) w T t E inf ht hi g 0 n cap ad m cp news hln hn h1 hroom (fun j hj => by simpa using (ht0 j hj).1) (fun j hj => by simpa using (ht0 j hj).2)
 rw [Nat.zero_add] at hrun
 refine do_ hw _ ?_ (h _ (S.store hL (n * inf.size) news hfit))
 simp only [execOp, resolve, invoke, builtin, Sem.run_bind, Sem.run_pure, Result.andThen_ok, List.map_toArray, List.map_cons, List.map_nil, hs, hx, hrun]
end
theorem stOwn {P : Program} {w0 w : World} {F0 F : Fz} {ops : Array Oper} {Q : Exit → Act → World → Prop} {a : Act} {rest : List Oper} {o : Oper} {k : FuncId} {vs : Array Value} {L : List Blk} {M : Value → List RowP} (hw : Region.wanted o (yielded ops a.tmps) = true)
    (hr : (execOp a.eval o).run P w = .ok (.enter k vs) w) (hc : Calls P k vs w fun e w' => ∃ v, e = .returned v ∧ St w0 F0 w' F L (M v))
    (h : ∀ v w', St w0 F0 w' F L (M v) → WL P ops Q rest (a.put o.dst v) w') : WL P ops Q (o :: rest) a w :=
  doC hw hr hc fun e w' ⟨v, he, hS⟩ => ⟨v, he, h v w' hS⟩
section
variable {k i n : Nat} {c zs vs : List Value} {el : List (List Value)}
theorem cut_ins (A B K : Nat) (hA : A ≤ B) (hc : B + K ≤ c.length) (hv : vs.length = K) :
    (splice (splice c (A + K) ((c.drop A).take (B - A))) A vs).take (B + K) = (c.take B).take A ++ (vs ++ (c.take B).drop A) := by
 unfold splice
 apply List.ext_getElem?
 intro j
 simp only [List.getElem?_append, List.getElem?_take, List.getElem?_drop, List.length_take, List.length_drop, List.length_append, hv]
 grind
theorem cut_grow (A B K : Nat) (hA : A ≤ B) {x : List Value} (hB : B ≤ c.length) (hx : x.length = B + K - A) {more : List Value} (hv : vs.length = K) :
    (splice (splice (c.take A ++ x ++ more) A vs) (A + K) ((c.drop A).take (B - A))).take (B + K) = (c.take B).take A ++ (vs ++ (c.take B).drop A) := by
 unfold splice
 apply List.ext_getElem?
 intro j
 simp only [List.getElem?_append, List.getElem?_take, List.getElem?_drop, List.length_take, List.length_drop, List.length_append, hv, hx]
 grind
theorem cut_del (A B K : Nat) (hA : A + K ≤ B) (hc : B ≤ c.length) (hz : zs.length = K) :
    (splice (splice c A ((c.drop (A + K)).take (B - (A + K)))) (B - K) zs).take (B - K) = (c.take B).take A ++ (c.take B).drop (A + K) := by
 unfold splice
 apply List.ext_getElem?
 intro j
 simp only [List.getElem?_append, List.getElem?_take, List.getElem?_drop, List.length_take, List.length_drop, List.length_append, hz]
 grind
variable (h3 : ∀ x ∈ el, x.length = k) (hc : c.take (n * k) = el.flatten)
include h3 hc
theorem cells_ins (hi : i ≤ n) (hl : (n + 1) * k ≤ c.length) (hv : vs.length = k) :
    (splice (splice c ((i + 1) * k) ((c.drop (i * k)).take ((n - i) * k))) (i * k) vs).take ((n + 1) * k) = (el.take i ++ vs :: el.drop i).flatten := by
 have hA : i * k ≤ n * k := Nat.mul_le_mul_right k hi
 have := cut_ins (c := c) (vs := vs) (i * k) (n * k) k hA (by rw [Nat.add_mul, Nat.one_mul] at hl; exact hl) hv
 rw [Nat.add_mul, Nat.one_mul, Nat.sub_mul, Nat.add_mul, Nat.one_mul, this, hc, List.flatten_append, List.flatten_cons, flatten_take h3, flatten_drop h3]
theorem cells_grow (hi : i ≤ n) (hl : n * k ≤ c.length) {x more : List Value} (hx : x.length = (n + 1 - i) * k) (hv : vs.length = k) :
    (splice (splice (c.take (i * k) ++ x ++ more) (i * k) vs) ((i + 1) * k) ((c.drop (i * k)).take ((n - i) * k))).take ((n + 1) * k) = (el.take i ++ vs :: el.drop i).flatten := by
 have hA : i * k ≤ n * k := Nat.mul_le_mul_right k hi
 have := cut_grow (c := c) (vs := vs) (x := x) (more := more) (i * k) (n * k) k hA hl (by rw [hx, Nat.sub_mul, Nat.add_mul, Nat.one_mul]) hv
 rw [Nat.add_mul, Nat.one_mul, Nat.sub_mul, Nat.add_mul, Nat.one_mul, this, hc, List.flatten_append, List.flatten_cons, flatten_take h3, flatten_drop h3]
theorem cells_del (hi : i < n) (hl : n * k ≤ c.length) (hz : zs.length = k) :
    (splice (splice c (i * k) ((c.drop ((i + 1) * k)).take ((n - (i + 1)) * k))) ((n - 1) * k) zs).take ((n - 1) * k) = (el.take i ++ el.drop (i + 1)).flatten := by
 have hA : (i + 1) * k ≤ n * k := Nat.mul_le_mul_right k hi
 rw [Nat.add_mul, Nat.one_mul] at hA
 have := cut_del (c := c) (zs := zs) (i * k) (n * k) k hA hl hz
 rw [Nat.add_mul, Nat.one_mul, Nat.sub_mul, Nat.sub_mul, Nat.add_mul, Nat.one_mul, this, hc, List.flatten_append, flatten_take h3, flatten_drop h3, Nat.add_mul, Nat.one_mul]
end
theorem St.src {w0 w : World} {F0 F : Fz} {L : List Blk} {M : List RowP} (S : St w0 F0 w F L M) {i n : Nat} {c : List Value} {T : TypeId} (hL : L[i]? = some ⟨n, c, T⟩) (j m : Nat) : ∀ q u, ((c.drop j).take m)[q]? = some u → w.cell? ((⟨n, j, none⟩ : Addr).add q) = some u := by
 intro q u hu
 rw [Addr.add_mid]
 rw [List.getElem?_take] at hu
 split at hu
 ·rw [List.getElem?_drop] at hu
  exact S.cell hL hu
 ·cases hu
theorem St.src0 {w0 w : World} {F0 F : Fz} {L : List Blk} {M : List RowP} (S : St w0 F0 w F L M) {i n : Nat} {c : List Value} {T : TypeId} (hL : L[i]? = some ⟨n, c, T⟩) : ∀ q u, c[q]? = some u → w.cell? ((⟨n, 0, none⟩ : Addr).add q) = some u := by
 intro q u hu
 rw [Addr.add_mid, Nat.zero_add]
 exact S.cell hL hu
theorem St.srcT {w0 w : World} {F0 F : Fz} {L : List Blk} {M : List RowP} (S : St w0 F0 w F L M) {i n : Nat} {c : List Value} {T : TypeId} (hL : L[i]? = some ⟨n, c, T⟩) (m : Nat) : ∀ q u, (c.take m)[q]? = some u → w.cell? ((⟨n, 0, none⟩ : Addr).add q) = some u := by
 intro q u hu
 rw [Addr.add_mid, Nat.zero_add]
 rw [List.getElem?_take] at hu
 split at hu
 ·exact S.cell hL hu
 ·cases hu
theorem one_mid {α : Type} {R : Fz → List Value → α → Prop} {F : Fz} {k : Nat} {c : List Value} {el : List (List Value)} {l : List α} (hone : ∀ F cs p, R F cs p → ∀ u ∈ cs, u.oneCell' = true) (hall : AllR (R F) el l) (hc : c.take (l.length * k) = el.flatten) (i : Nat) : ∀ u ∈ (c.drop (i * k)).take ((l.length - i) * k), u.oneCell' = true := by
 intro u hu
 have e : (c.drop (i * k)).take ((l.length - i) * k) = el.flatten.drop (i * k) := by
  rw [← hc, List.drop_take, Nat.sub_mul]
 rw [e] at hu
 obtain ⟨y, hy, huy⟩ := List.mem_flatten.1 (List.mem_of_mem_drop hu)
 obtain ⟨j, hj, rfl⟩ := List.mem_iff_getElem.1 hy
 exact hone _ _ _ (hall.get j hj (by rw [← hall.len]; exact hj)) u huy
theorem allR_insert {α : Type} {R : List Value → α → Prop} {xs : List (List Value)} {ps : List α} (h : AllR R xs ps) (i : Nat) {x : List Value} {p : α} (hx : R x p) : AllR R (xs.take i ++ x :: xs.drop i) (ps.take i ++ p :: ps.drop i) := (h.take i).append ⟨hx, h.drop i⟩
theorem allR_delete {α : Type} {R : List Value → α → Prop} {xs : List (List Value)} {ps : List α} (h : AllR R xs ps) (i : Nat) : AllR R (xs.take i ++ xs.drop (i + 1)) (ps.take i ++ ps.drop (i + 1)) := (h.take i).append (h.drop (i + 1))
theorem len_insert {el : List (List Value)} {k : Nat} (h : ∀ x ∈ el, x.length = k) (i : Nat) {x : List Value} (hx : x.length = k) : ∀ y ∈ el.take i ++ x :: el.drop i, y.length = k := by
 intro y hy
 rcases List.mem_append.1 hy with hy | hy
 ·exact h y (List.mem_of_mem_take hy)
 ·rcases List.mem_cons.1 hy with rfl | hy
  ·exact hx
  ·exact h y (List.mem_of_mem_drop hy)
theorem len_delete {el : List (List Value)} {k : Nat} (h : ∀ x ∈ el, x.length = k) (i : Nat) : ∀ y ∈ el.take i ++ el.drop (i + 1), y.length = k := by
 intro y hy
 rcases List.mem_append.1 hy with hy | hy
 ·exact h y (List.mem_of_mem_take hy)
 ·exact h y (List.mem_of_mem_drop hy)
section
variable {P : Program} {ρ : Operand → Value} {w : World} {d : Option Tmp} {t X Y : TypeId} {pos : String} {after : Array Edge} {guard : Option (Nat × Bool)} {x y : Operand} {l m : List UInt8}
def strB (op : BinOp) (l m : List UInt8) : Bool := match op with | .lss => Op.bytesLess l m | .leq => Op.bytesLess l m || l == m | .gtr => !(Op.bytesLess l m || l == m) | .geq => !Op.bytesLess l m | .eql => l == m | _ => !(l == m)
theorem ex_strop {op : BinOp} {b : Bool} (hop : op = .lss ∨ op = .leq ∨ op = .gtr ∨ op = .geq ∨ op = .eql ∨ op = .neq) (hx : ρ x = .string ⟨l.toArray⟩) (hy : ρ y = .string ⟨m.toArray⟩)
    (h : strB op l m = b) :
    (execOp ρ ⟨d, .binOp op X x y Y, t, pos, after, guard⟩).run P w = .ok (.value (.bool b)) w := by
 subst h
 have e : (eqGuard op X x y (.string ⟨l.toArray⟩) (.string ⟨m.toArray⟩)).run P w = .ok () w := by
  unfold eqGuard
  rcases hop with rfl | rfl | rfl | rfl | rfl | rfl <;> rfl
 have e2 : (binOp op X (.string ⟨l.toArray⟩) (.string ⟨m.toArray⟩)).run P w = .ok (.bool (strB op l m)) w := by
  rcases hop with rfl | rfl | rfl | rfl | rfl | rfl <;> simp [binOp, Op.stringOp, strB]
 simp only [execOp, hx, hy, Sem.run_bind, e, Result.andThen_ok, e2, Sem.run_pure]
theorem ex_convert {v r : Value} (hx : ρ x = v) (h : (convert X Y v).run P w = .ok r w) : (execOp ρ ⟨d, .convert X Y x, t, pos, after, guard⟩).run P w = .ok (.value r) w := by
 subst hx
 simp only [execOp, Sem.run_bind, h, Result.andThen_ok, Sem.run_pure]
end
section
variable {P : Program} {ρ : Operand → Value} {w : World} {d : Option Tmp} {t X T : TypeId} {pos : String} {after : Array Edge} {guard : Option (Nat × Bool)} {x y : Operand} {k : IntKind} {m n r : Int}
theorem ex_cap {E : TypeId} {A : Option Addr} {l c : Nat} (hT : P.underlying T = some (.slice E)) (h : ρ x = .slice A l c) : (execOp ρ ⟨d, .call ⟨.builtin .cap, #[x], #[T]⟩, t, pos, after, guard⟩).run P w = .ok (.value (.int .i64 c)) w := by
 simp [execOp, resolve, invoke, builtin, Builtin.cap_, h, run_underlying hT w]; rfl
theorem ex_max {U : TypeId} (hx : ρ x = .int k m) (hy : ρ y = .int k n) (e : (if m < n then n else m) = r) : (execOp ρ ⟨d, .call ⟨.builtin .max, #[x, y], #[T, U]⟩, t, pos, after, guard⟩).run P w = .ok (.value (.int k r)) w := by
 subst e
 simp [execOp, resolve, invoke, builtin, Builtin.max_, Builtin.max2, hx, hy]
theorem ex_slice3 {E : TypeId} {A : Option Addr} {n c : Nat} {lo hi mx : Operand} {l h m : Nat} {sz : Nat} {v : Value} (hX : P.underlying X = some (.slice E)) (hx : ρ x = .slice A n c) (hsz : (sizeOf E).run P w = .ok sz w)
    (hl : ρ lo = .int .i64 l) (hh : ρ hi = .int .i64 h) (hm : ρ mx = .int .i64 m) (h1 : l ≤ h) (h2 : h ≤ m) (h3 : m ≤ c)
    (hv : v = .slice (if m = l then A else A.map (·.add (l * sz))) (h - l) (m - l)) : (execOp ρ ⟨d, .slice X x (some lo) (some hi) (some mx), t, pos, after, guard⟩).run P w = .ok (.value v) w := by
 subst hv
 have b1 : ∀ (z y : Nat) (code : BoundsCode), z ≤ y → (Instr.sliceBound (.int .i64 z) y code).run P w = .ok z w := by
  intro z y code hzy
  have : (0 : Int) ≤ (z : Int) ∧ (z : Int) ≤ (y : Int) := by omega
  simp [Instr.sliceBound, asIntOf, this]
 have hb : (Instr.sliceBounds true n c (some (ρ lo)) (some (ρ hi)) (some (ρ mx))).run P w = .ok (l, h, m) w := by
  simp [Instr.sliceBounds, hl, hh, hm, b1 _ _ _ h1, b1 _ _ _ h2, b1 _ _ _ h3]
 have hs : (Instr.sliceAt X (.slice A n c) (some (ρ lo)) (some (ρ hi)) (some (ρ mx))).run P w = .ok (.slice (if m = l then A else A.map (·.add (l * sz))) (h - l) (m - l)) w := by
  simp [Instr.sliceAt, Sem.run_bind, run_underlying hX w, Instr.slice, hb, hsz]
 simp [execOp, hx, hs]
end
theorem bs_of_block {F : Fz} {n : Nat} {c : List Value} {l : List UInt8} (h : ∀ j v, c[j]? = some v → cellF F n j = some v) (e : c = l.map bv) (hl : l.length ≤ maxLen) : Bs F (.slice (some ⟨n, 0, none⟩) l.length l.length) l := by
 subst e
 exact Rw.of_cells (Nat.le_refl _) hl fun j u hu => by rw [Nat.zero_add]; exact h j u hu
theorem sl_of_block {α : Type} {k : Nat} {R : Fz → List Value → α → Prop} {F : Fz} {n : Nat} {c : List Value} {el : List (List Value)} {l : List α} (h : ∀ j v, c[j]? = some v → cellF F n j = some v) (e : c = el.flatten) (hR : AllR (R F) el l) (hk : ∀ x ∈ el, x.length = k) (hl : l.length ≤ maxLen) : Sl k R F (.slice (some ⟨n, 0, none⟩) l.length l.length) l := by
 subst e
 exact ⟨el, Rw.of_cells (Nat.le_refl _) hl fun j u hu => by rw [Nat.zero_add]; exact h j u hu, hR, hk⟩
set_option maxRecDepth 100000
theorem nagg_3 (w : World) : (isAgg 3).run Tryz.prog w = .ok false w := by kernel_rfl
theorem size_3 : (Tryz.prog.info? 3).map (·.size) = some 1 := by kernel_rfl
theorem sizeof_3 (w : World) : (sizeOf 3).run Tryz.prog w = .ok 1 w := by kernel_rfl
theorem nagg_4 (w : World) : (isAgg 4).run Tryz.prog w = .ok false w := by kernel_rfl
theorem size_4 : (Tryz.prog.info? 4).map (·.size) = some 1 := by kernel_rfl
theorem nagg_5 (w : World) : (isAgg 5).run Tryz.prog w = .ok false w := by kernel_rfl
theorem size_5 : (Tryz.prog.info? 5).map (·.size) = some 1 := by kernel_rfl
theorem sizeof_5 (w : World) : (sizeOf 5).run Tryz.prog w = .ok 1 w := by kernel_rfl
theorem nagg_24 (w : World) : (isAgg 24).run Tryz.prog w = .ok false w := by kernel_rfl
theorem sizeof_24 (w : World) : (sizeOf 24).run Tryz.prog w = .ok 1 w := by kernel_rfl
theorem nagg_25 (w : World) : (isAgg 25).run Tryz.prog w = .ok false w := by kernel_rfl
theorem size_25 : (Tryz.prog.info? 25).map (·.size) = some 1 := by kernel_rfl
theorem sizeof_25 (w : World) : (sizeOf 25).run Tryz.prog w = .ok 1 w := by kernel_rfl
theorem nagg_40 (w : World) : (isAgg 40).run Tryz.prog w = .ok false w := by kernel_rfl
theorem size_40 : (Tryz.prog.info? 40).map (·.size) = some 1 := by kernel_rfl
theorem nagg_41 (w : World) : (isAgg 41).run Tryz.prog w = .ok false w := by kernel_rfl
theorem size_41 : (Tryz.prog.info? 41).map (·.size) = some 1 := by kernel_rfl
theorem nagg_47 (w : World) : (isAgg 47).run Tryz.prog w = .ok false w := by kernel_rfl
theorem size_47 : (Tryz.prog.info? 47).map (·.size) = some 1 := by kernel_rfl
theorem nagg_60 (w : World) : (isAgg 60).run Tryz.prog w = .ok false w := by kernel_rfl
theorem size_60 : (Tryz.prog.info? 60).map (·.size) = some 1 := by kernel_rfl
theorem nagg_106 (w : World) : (isAgg 106).run Tryz.prog w = .ok false w := by kernel_rfl
theorem size_106 : (Tryz.prog.info? 106).map (·.size) = some 1 := by kernel_rfl
theorem nagg_109 (w : World) : (isAgg 109).run Tryz.prog w = .ok false w := by kernel_rfl
theorem size_109 : (Tryz.prog.info? 109).map (·.size) = some 1 := by kernel_rfl
theorem nagg_110 (w : World) : (isAgg 110).run Tryz.prog w = .ok false w := by kernel_rfl
theorem size_110 : (Tryz.prog.info? 110).map (·.size) = some 1 := by kernel_rfl
theorem nagg_139 (w : World) : (isAgg 139).run Tryz.prog w = .ok false w := by kernel_rfl
theorem size_139 : (Tryz.prog.info? 139).map (·.size) = some 1 := by kernel_rfl
theorem size_50 : (Tryz.prog.info? 50).map (·.size) = some 2 := by kernel_rfl
theorem zero_50 (w : World) : (zeroValue 50).run Tryz.prog w = .ok (.agg #[.slice none 0 0, .slice none 0 0]) w := by kernel_rfl
theorem sizeof_50 (w : World) : (sizeOf 50).run Tryz.prog w = .ok 2 w := by kernel_rfl
theorem info_50 : (Tryz.prog.info? 50).map (fun i => (i.zero, i.size, i.bytes)) = some (some (.agg #[.slice none 0 0, .slice none 0 0]), 2, 48) := by kernel_rfl
theorem fa_50_0 (b o : Nat) (w : World) : (Instr.fieldAt 50 (.pointer (some ⟨b, o, none⟩)) 0).run Tryz.prog w = .ok (.pointer (some ⟨b, o, none⟩)) w := by go_simp
theorem fa_50_1 (b o : Nat) (w : World) : (Instr.fieldAt 50 (.pointer (some ⟨b, o, none⟩)) 1).run Tryz.prog w = .ok (.pointer (some ⟨b, o + 1, none⟩)) w := by go_simp
theorem size_66 : (Tryz.prog.info? 66).map (·.size) = some 2 := by kernel_rfl
theorem zero_66 (w : World) : (zeroValue 66).run Tryz.prog w = .ok (.agg #[.slice none 0 0, .slice none 0 0]) w := by kernel_rfl
theorem sizeof_66 (w : World) : (sizeOf 66).run Tryz.prog w = .ok 2 w := by kernel_rfl
theorem info_66 : (Tryz.prog.info? 66).map (fun i => (i.zero, i.size, i.bytes)) = some (some (.agg #[.slice none 0 0, .slice none 0 0]), 2, 48) := by kernel_rfl
theorem fa_66_0 (b o : Nat) (w : World) : (Instr.fieldAt 66 (.pointer (some ⟨b, o, none⟩)) 0).run Tryz.prog w = .ok (.pointer (some ⟨b, o, none⟩)) w := by go_simp
theorem fa_66_1 (b o : Nat) (w : World) : (Instr.fieldAt 66 (.pointer (some ⟨b, o, none⟩)) 1).run Tryz.prog w = .ok (.pointer (some ⟨b, o + 1, none⟩)) w := by go_simp
theorem size_72 : (Tryz.prog.info? 72).map (·.size) = some 2 := by kernel_rfl
theorem zero_72 (w : World) : (zeroValue 72).run Tryz.prog w = .ok (.agg #[.bool false, .slice none 0 0]) w := by kernel_rfl
theorem fa_72_0 (b o : Nat) (w : World) : (Instr.fieldAt 72 (.pointer (some ⟨b, o, none⟩)) 0).run Tryz.prog w = .ok (.pointer (some ⟨b, o, none⟩)) w := by go_simp
theorem fa_72_1 (b o : Nat) (w : World) : (Instr.fieldAt 72 (.pointer (some ⟨b, o, none⟩)) 1).run Tryz.prog w = .ok (.pointer (some ⟨b, o + 1, none⟩)) w := by go_simp
theorem size_39 : (Tryz.prog.info? 39).map (·.size) = some 4 := by kernel_rfl
theorem zero_39 (w : World) : (zeroValue 39).run Tryz.prog w = .ok (.agg #[.slice none 0 0, .slice none 0 0, .bool false, .slice none 0 0]) w := by kernel_rfl
theorem sizeof_39 (w : World) : (sizeOf 39).run Tryz.prog w = .ok 4 w := by kernel_rfl
theorem info_39 : (Tryz.prog.info? 39).map (fun i => (i.zero, i.size, i.bytes)) = some (some (.agg #[.slice none 0 0, .slice none 0 0, .bool false, .slice none 0 0]), 4, 80) := by kernel_rfl
theorem fa_39_0 (b o : Nat) (w : World) : (Instr.fieldAt 39 (.pointer (some ⟨b, o, none⟩)) 0).run Tryz.prog w = .ok (.pointer (some ⟨b, o, none⟩)) w := by go_simp
theorem fa_39_1 (b o : Nat) (w : World) : (Instr.fieldAt 39 (.pointer (some ⟨b, o, none⟩)) 1).run Tryz.prog w = .ok (.pointer (some ⟨b, o + 1, none⟩)) w := by go_simp
theorem fa_39_2 (b o : Nat) (w : World) : (Instr.fieldAt 39 (.pointer (some ⟨b, o, none⟩)) 2).run Tryz.prog w = .ok (.pointer (some ⟨b, o + 2, none⟩)) w := by go_simp
theorem fa_39_3 (b o : Nat) (w : World) : (Instr.fieldAt 39 (.pointer (some ⟨b, o, none⟩)) 3).run Tryz.prog w = .ok (.pointer (some ⟨b, o + 3, none⟩)) w := by go_simp
theorem size_179 : (Tryz.prog.info? 179).map (·.size) = some 4 := by kernel_rfl
theorem zero_179 (w : World) : (zeroValue 179).run Tryz.prog w = .ok (.agg #[.slice none 0 0, .slice none 0 0, .bool false, .slice none 0 0]) w := by kernel_rfl
theorem sizeof_179 (w : World) : (sizeOf 179).run Tryz.prog w = .ok 4 w := by kernel_rfl
theorem info_179 : (Tryz.prog.info? 179).map (fun i => (i.zero, i.size, i.bytes)) = some (some (.agg #[.slice none 0 0, .slice none 0 0, .bool false, .slice none 0 0]), 4, 80) := by kernel_rfl
theorem fa_179_0 (b o : Nat) (w : World) : (Instr.fieldAt 179 (.pointer (some ⟨b, o, none⟩)) 0).run Tryz.prog w = .ok (.pointer (some ⟨b, o, none⟩)) w := by go_simp
theorem fa_179_1 (b o : Nat) (w : World) : (Instr.fieldAt 179 (.pointer (some ⟨b, o, none⟩)) 1).run Tryz.prog w = .ok (.pointer (some ⟨b, o + 1, none⟩)) w := by go_simp
theorem fa_179_2 (b o : Nat) (w : World) : (Instr.fieldAt 179 (.pointer (some ⟨b, o, none⟩)) 2).run Tryz.prog w = .ok (.pointer (some ⟨b, o + 2, none⟩)) w := by go_simp
theorem fa_179_3 (b o : Nat) (w : World) : (Instr.fieldAt 179 (.pointer (some ⟨b, o, none⟩)) 3).run Tryz.prog w = .ok (.pointer (some ⟨b, o + 3, none⟩)) w := by go_simp
theorem size_168 : (Tryz.prog.info? 168).map (·.size) = some 2 := by kernel_rfl
theorem zero_168 (w : World) : (zeroValue 168).run Tryz.prog w = .ok (.agg #[.int .i64 0, .slice none 0 0]) w := by kernel_rfl
theorem sizeof_168 (w : World) : (sizeOf 168).run Tryz.prog w = .ok 2 w := by kernel_rfl
theorem info_168 : (Tryz.prog.info? 168).map (fun i => (i.zero, i.size, i.bytes)) = some (some (.agg #[.int .i64 0, .slice none 0 0]), 2, 32) := by kernel_rfl
theorem fa_168_0 (b o : Nat) (w : World) : (Instr.fieldAt 168 (.pointer (some ⟨b, o, none⟩)) 0).run Tryz.prog w = .ok (.pointer (some ⟨b, o, none⟩)) w := by go_simp
theorem fa_168_1 (b o : Nat) (w : World) : (Instr.fieldAt 168 (.pointer (some ⟨b, o, none⟩)) 1).run Tryz.prog w = .ok (.pointer (some ⟨b, o + 1, none⟩)) w := by go_simp
theorem size_141 : (Tryz.prog.info? 141).map (·.size) = some 3 := by kernel_rfl
theorem zero_141 (w : World) : (zeroValue 141).run Tryz.prog w = .ok (.agg #[.int .i64 0, .slice none 0 0, .slice none 0 0]) w := by kernel_rfl
theorem fa_141_0 (b o : Nat) (w : World) : (Instr.fieldAt 141 (.pointer (some ⟨b, o, none⟩)) 0).run Tryz.prog w = .ok (.pointer (some ⟨b, o, none⟩)) w := by go_simp
theorem fa_141_1 (b o : Nat) (w : World) : (Instr.fieldAt 141 (.pointer (some ⟨b, o, none⟩)) 1).run Tryz.prog w = .ok (.pointer (some ⟨b, o + 1, none⟩)) w := by go_simp
theorem fa_141_2 (b o : Nat) (w : World) : (Instr.fieldAt 141 (.pointer (some ⟨b, o, none⟩)) 2).run Tryz.prog w = .ok (.pointer (some ⟨b, o + 2, none⟩)) w := by go_simp
theorem size_108 : (Tryz.prog.info? 108).map (·.size) = some 2 := by kernel_rfl
theorem zero_108 (w : World) : (zeroValue 108).run Tryz.prog w = .ok (.agg #[.slice none 0 0, .int .i64 0]) w := by kernel_rfl
theorem fa_108_0 (b o : Nat) (w : World) : (Instr.fieldAt 108 (.pointer (some ⟨b, o, none⟩)) 0).run Tryz.prog w = .ok (.pointer (some ⟨b, o, none⟩)) w := by go_simp
theorem fa_108_1 (b o : Nat) (w : World) : (Instr.fieldAt 108 (.pointer (some ⟨b, o, none⟩)) 1).run Tryz.prog w = .ok (.pointer (some ⟨b, o + 1, none⟩)) w := by go_simp
theorem size_33 : (Tryz.prog.info? 33).map (·.size) = some 4 := by kernel_rfl
theorem zero_33 (w : World) : (zeroValue 33).run Tryz.prog w = .ok (.agg #[.int .i64 0, .int .i64 0, .int .i64 0, .slice none 0 0]) w := by kernel_rfl
theorem sizeof_33 (w : World) : (sizeOf 33).run Tryz.prog w = .ok 4 w := by kernel_rfl
theorem info_33 : (Tryz.prog.info? 33).map (fun i => (i.zero, i.size, i.bytes)) = some (some (.agg #[.int .i64 0, .int .i64 0, .int .i64 0, .slice none 0 0]), 4, 48) := by kernel_rfl
theorem fa_33_0 (b o : Nat) (w : World) : (Instr.fieldAt 33 (.pointer (some ⟨b, o, none⟩)) 0).run Tryz.prog w = .ok (.pointer (some ⟨b, o, none⟩)) w := by go_simp
theorem fa_33_1 (b o : Nat) (w : World) : (Instr.fieldAt 33 (.pointer (some ⟨b, o, none⟩)) 1).run Tryz.prog w = .ok (.pointer (some ⟨b, o + 1, none⟩)) w := by go_simp
theorem fa_33_2 (b o : Nat) (w : World) : (Instr.fieldAt 33 (.pointer (some ⟨b, o, none⟩)) 2).run Tryz.prog w = .ok (.pointer (some ⟨b, o + 2, none⟩)) w := by go_simp
theorem fa_33_3 (b o : Nat) (w : World) : (Instr.fieldAt 33 (.pointer (some ⟨b, o, none⟩)) 3).run Tryz.prog w = .ok (.pointer (some ⟨b, o + 3, none⟩)) w := by go_simp
theorem size_27 : (Tryz.prog.info? 27).map (·.size) = some 5 := by kernel_rfl
theorem zero_27 (w : World) : (zeroValue 27).run Tryz.prog w = .ok (.agg #[.int .i64 0, .slice none 0 0, .slice none 0 0, .slice none 0 0, .slice none 0 0]) w := by kernel_rfl
theorem fa_27_0 (b o : Nat) (w : World) : (Instr.fieldAt 27 (.pointer (some ⟨b, o, none⟩)) 0).run Tryz.prog w = .ok (.pointer (some ⟨b, o, none⟩)) w := by go_simp
theorem fa_27_1 (b o : Nat) (w : World) : (Instr.fieldAt 27 (.pointer (some ⟨b, o, none⟩)) 1).run Tryz.prog w = .ok (.pointer (some ⟨b, o + 1, none⟩)) w := by go_simp
theorem fa_27_2 (b o : Nat) (w : World) : (Instr.fieldAt 27 (.pointer (some ⟨b, o, none⟩)) 2).run Tryz.prog w = .ok (.pointer (some ⟨b, o + 2, none⟩)) w := by go_simp
theorem fa_27_3 (b o : Nat) (w : World) : (Instr.fieldAt 27 (.pointer (some ⟨b, o, none⟩)) 3).run Tryz.prog w = .ok (.pointer (some ⟨b, o + 3, none⟩)) w := by go_simp
theorem fa_27_4 (b o : Nat) (w : World) : (Instr.fieldAt 27 (.pointer (some ⟨b, o, none⟩)) 4).run Tryz.prog w = .ok (.pointer (some ⟨b, o + 4, none⟩)) w := by go_simp
theorem size_54 : (Tryz.prog.info? 54).map (·.size) = some 15 := by kernel_rfl
theorem sizeof_54 (w : World) : (sizeOf 54).run Tryz.prog w = .ok 15 w := by kernel_rfl
theorem info_54 : (Tryz.prog.info? 54).map (fun i => (i.zero, i.size, i.bytes)) = some (some (.agg #[.int .i64 0, .int .i64 0, .int .i64 0, .bool false, .slice none 0 0, .slice none 0 0, .slice none 0 0, .bool false, .slice none 0 0, .slice none 0 0, .slice none 0 0, .bool false, .slice none 0 0, .slice none 0 0, .slice none 0 0]), 15, 264) := by kernel_rfl
theorem fa_54_2 (b o : Nat) (w : World) : (Instr.fieldAt 54 (.pointer (some ⟨b, o, none⟩)) 2).run Tryz.prog w = .ok (.pointer (some ⟨b, o + 2, none⟩)) w := by go_simp
theorem sizeof_112 (w : World) : (sizeOf 112).run Tryz.prog w = .ok 2 w := by kernel_rfl
theorem fa_112_0 (b o : Nat) (w : World) : (Instr.fieldAt 112 (.pointer (some ⟨b, o, none⟩)) 0).run Tryz.prog w = .ok (.pointer (some ⟨b, o, none⟩)) w := by go_simp
theorem fa_112_1 (b o : Nat) (w : World) : (Instr.fieldAt 112 (.pointer (some ⟨b, o, none⟩)) 1).run Tryz.prog w = .ok (.pointer (some ⟨b, o + 1, none⟩)) w := by go_simp
theorem fa_115_0 (b o : Nat) (w : World) : (Instr.fieldAt 115 (.pointer (some ⟨b, o, none⟩)) 0).run Tryz.prog w = .ok (.pointer (some ⟨b, o, none⟩)) w := by go_simp
theorem fa_115_1 (b o : Nat) (w : World) : (Instr.fieldAt 115 (.pointer (some ⟨b, o, none⟩)) 1).run Tryz.prog w = .ok (.pointer (some ⟨b, o + 1, none⟩)) w := by go_simp
theorem fa_115_2 (b o : Nat) (w : World) : (Instr.fieldAt 115 (.pointer (some ⟨b, o, none⟩)) 2).run Tryz.prog w = .ok (.pointer (some ⟨b, o + 3, none⟩)) w := by go_simp
theorem fa_115_3 (b o : Nat) (w : World) : (Instr.fieldAt 115 (.pointer (some ⟨b, o, none⟩)) 3).run Tryz.prog w = .ok (.pointer (some ⟨b, o + 4, none⟩)) w := by go_simp
theorem fa_115_4 (b o : Nat) (w : World) : (Instr.fieldAt 115 (.pointer (some ⟨b, o, none⟩)) 4).run Tryz.prog w = .ok (.pointer (some ⟨b, o + 5, none⟩)) w := by go_simp
theorem fa_115_5 (b o : Nat) (w : World) : (Instr.fieldAt 115 (.pointer (some ⟨b, o, none⟩)) 5).run Tryz.prog w = .ok (.pointer (some ⟨b, o + 6, none⟩)) w := by go_simp
theorem fa_115_6 (b o : Nat) (w : World) : (Instr.fieldAt 115 (.pointer (some ⟨b, o, none⟩)) 6).run Tryz.prog w = .ok (.pointer (some ⟨b, o + 22, none⟩)) w := by go_simp
theorem fa_115_7 (b o : Nat) (w : World) : (Instr.fieldAt 115 (.pointer (some ⟨b, o, none⟩)) 7).run Tryz.prog w = .ok (.pointer (some ⟨b, o + 23, none⟩)) w := by go_simp
theorem size_43 : (Tryz.prog.info? 43).map (·.size) = some 5 := by kernel_rfl
theorem zero_43 (w : World) : (zeroValue 43).run Tryz.prog w = .ok (.agg #[.bool false, .int .i64 0, .int .i64 0, .slice none 0 0, .slice none 0 0]) w := by kernel_rfl
theorem fa_43_0 (b o : Nat) (w : World) : (Instr.fieldAt 43 (.pointer (some ⟨b, o, none⟩)) 0).run Tryz.prog w = .ok (.pointer (some ⟨b, o, none⟩)) w := by go_simp
theorem fa_43_1 (b o : Nat) (w : World) : (Instr.fieldAt 43 (.pointer (some ⟨b, o, none⟩)) 1).run Tryz.prog w = .ok (.pointer (some ⟨b, o + 1, none⟩)) w := by go_simp
theorem fa_43_3 (b o : Nat) (w : World) : (Instr.fieldAt 43 (.pointer (some ⟨b, o, none⟩)) 3).run Tryz.prog w = .ok (.pointer (some ⟨b, o + 3, none⟩)) w := by go_simp
theorem fa_43_4 (b o : Nat) (w : World) : (Instr.fieldAt 43 (.pointer (some ⟨b, o, none⟩)) 4).run Tryz.prog w = .ok (.pointer (some ⟨b, o + 4, none⟩)) w := by go_simp
theorem sizeof_31 (w : World) : (sizeOf 31).run Tryz.prog w = .ok 5 w := by kernel_rfl
theorem fa_31_0 (b o : Nat) (w : World) : (Instr.fieldAt 31 (.pointer (some ⟨b, o, none⟩)) 0).run Tryz.prog w = .ok (.pointer (some ⟨b, o, none⟩)) w := by go_simp
theorem fa_31_2 (b o : Nat) (w : World) : (Instr.fieldAt 31 (.pointer (some ⟨b, o, none⟩)) 2).run Tryz.prog w = .ok (.pointer (some ⟨b, o + 2, none⟩)) w := by go_simp
theorem fa_31_3 (b o : Nat) (w : World) : (Instr.fieldAt 31 (.pointer (some ⟨b, o, none⟩)) 3).run Tryz.prog w = .ok (.pointer (some ⟨b, o + 3, none⟩)) w := by go_simp
theorem fa_31_4 (b o : Nat) (w : World) : (Instr.fieldAt 31 (.pointer (some ⟨b, o, none⟩)) 4).run Tryz.prog w = .ok (.pointer (some ⟨b, o + 4, none⟩)) w := by go_simp
theorem ent_103 (vs : Array Value) (w : World) : (callFunc 103 vs).run Tryz.prog w = .ok (.enter 103 vs) w := by kernel_rfl
theorem ent_104 (vs : Array Value) (w : World) : (callFunc 104 vs).run Tryz.prog w = .ok (.enter 104 vs) w := by kernel_rfl
theorem ent_105 (vs : Array Value) (w : World) : (callFunc 105 vs).run Tryz.prog w = .ok (.enter 105 vs) w := by kernel_rfl
theorem ent_106 (vs : Array Value) (w : World) : (callFunc 106 vs).run Tryz.prog w = .ok (.enter 106 vs) w := by kernel_rfl
theorem ent_107 (vs : Array Value) (w : World) : (callFunc 107 vs).run Tryz.prog w = .ok (.enter 107 vs) w := by kernel_rfl
theorem ent_108 (vs : Array Value) (w : World) : (callFunc 108 vs).run Tryz.prog w = .ok (.enter 108 vs) w := by kernel_rfl
theorem ent_109 (vs : Array Value) (w : World) : (callFunc 109 vs).run Tryz.prog w = .ok (.enter 109 vs) w := by kernel_rfl
theorem ent_110 (vs : Array Value) (w : World) : (callFunc 110 vs).run Tryz.prog w = .ok (.enter 110 vs) w := by kernel_rfl
theorem ent_111 (vs : Array Value) (w : World) : (callFunc 111 vs).run Tryz.prog w = .ok (.enter 111 vs) w := by kernel_rfl
theorem ent_112 (vs : Array Value) (w : World) : (callFunc 112 vs).run Tryz.prog w = .ok (.enter 112 vs) w := by kernel_rfl
theorem ent_113 (vs : Array Value) (w : World) : (callFunc 113 vs).run Tryz.prog w = .ok (.enter 113 vs) w := by kernel_rfl
theorem ent_114 (vs : Array Value) (w : World) : (callFunc 114 vs).run Tryz.prog w = .ok (.enter 114 vs) w := by kernel_rfl
theorem ent_115 (vs : Array Value) (w : World) : (callFunc 115 vs).run Tryz.prog w = .ok (.enter 115 vs) w := by kernel_rfl
theorem ent_116 (vs : Array Value) (w : World) : (callFunc 116 vs).run Tryz.prog w = .ok (.enter 116 vs) w := by kernel_rfl
theorem ent_117 (vs : Array Value) (w : World) : (callFunc 117 vs).run Tryz.prog w = .ok (.enter 117 vs) w := by kernel_rfl
theorem ent_120 (vs : Array Value) (w : World) : (callFunc 120 vs).run Tryz.prog w = .ok (.enter 120 vs) w := by kernel_rfl
theorem ent_126 (vs : Array Value) (w : World) : (callFunc 126 vs).run Tryz.prog w = .ok (.enter 126 vs) w := by kernel_rfl
theorem ent_127 (vs : Array Value) (w : World) : (callFunc 127 vs).run Tryz.prog w = .ok (.enter 127 vs) w := by kernel_rfl
theorem ent_128 (vs : Array Value) (w : World) : (callFunc 128 vs).run Tryz.prog w = .ok (.enter 128 vs) w := by kernel_rfl
theorem ent_129 (vs : Array Value) (w : World) : (callFunc 129 vs).run Tryz.prog w = .ok (.enter 129 vs) w := by kernel_rfl
theorem ent_130 (vs : Array Value) (w : World) : (callFunc 130 vs).run Tryz.prog w = .ok (.enter 130 vs) w := by kernel_rfl
theorem ent_131 (vs : Array Value) (w : World) : (callFunc 131 vs).run Tryz.prog w = .ok (.enter 131 vs) w := by kernel_rfl
theorem ent_132 (vs : Array Value) (w : World) : (callFunc 132 vs).run Tryz.prog w = .ok (.enter 132 vs) w := by kernel_rfl
theorem ent_133 (vs : Array Value) (w : World) : (callFunc 133 vs).run Tryz.prog w = .ok (.enter 133 vs) w := by kernel_rfl
theorem ent_134 (vs : Array Value) (w : World) : (callFunc 134 vs).run Tryz.prog w = .ok (.enter 134 vs) w := by kernel_rfl
theorem ent_135 (vs : Array Value) (w : World) : (callFunc 135 vs).run Tryz.prog w = .ok (.enter 135 vs) w := by kernel_rfl
theorem ent_136 (vs : Array Value) (w : World) : (callFunc 136 vs).run Tryz.prog w = .ok (.enter 136 vs) w := by kernel_rfl
theorem ent_137 (vs : Array Value) (w : World) : (callFunc 137 vs).run Tryz.prog w = .ok (.enter 137 vs) w := by kernel_rfl
theorem ent_138 (vs : Array Value) (w : World) : (callFunc 138 vs).run Tryz.prog w = .ok (.enter 138 vs) w := by kernel_rfl
theorem ent_146 (vs : Array Value) (w : World) : (callFunc 146 vs).run Tryz.prog w = .ok (.enter 146 vs) w := by kernel_rfl
theorem ent_147 (vs : Array Value) (w : World) : (callFunc 147 vs).run Tryz.prog w = .ok (.enter 147 vs) w := by kernel_rfl
theorem ent_148 (vs : Array Value) (w : World) : (callFunc 148 vs).run Tryz.prog w = .ok (.enter 148 vs) w := by kernel_rfl
theorem ent_19 (vs : Array Value) (w : World) : (callFunc 19 vs).run Tryz.prog w = .ok (.enter 19 vs) w := by kernel_rfl
theorem ent_20 (vs : Array Value) (w : World) : (callFunc 20 vs).run Tryz.prog w = .ok (.enter 20 vs) w := by kernel_rfl
theorem ent_21 (vs : Array Value) (w : World) : (callFunc 21 vs).run Tryz.prog w = .ok (.enter 21 vs) w := by kernel_rfl
theorem ent_22 (vs : Array Value) (w : World) : (callFunc 22 vs).run Tryz.prog w = .ok (.enter 22 vs) w := by kernel_rfl
theorem ent_23 (vs : Array Value) (w : World) : (callFunc 23 vs).run Tryz.prog w = .ok (.enter 23 vs) w := by kernel_rfl
theorem ent_24 (vs : Array Value) (w : World) : (callFunc 24 vs).run Tryz.prog w = .ok (.enter 24 vs) w := by kernel_rfl
theorem ent_29 (vs : Array Value) (w : World) : (callFunc 29 vs).run Tryz.prog w = .ok (.enter 29 vs) w := by kernel_rfl
theorem ent_30 (vs : Array Value) (w : World) : (callFunc 30 vs).run Tryz.prog w = .ok (.enter 30 vs) w := by kernel_rfl
theorem ent_31 (vs : Array Value) (w : World) : (callFunc 31 vs).run Tryz.prog w = .ok (.enter 31 vs) w := by kernel_rfl
theorem ent_32 (vs : Array Value) (w : World) : (callFunc 32 vs).run Tryz.prog w = .ok (.enter 32 vs) w := by kernel_rfl
theorem ent_33 (vs : Array Value) (w : World) : (callFunc 33 vs).run Tryz.prog w = .ok (.enter 33 vs) w := by kernel_rfl
theorem ent_34 (vs : Array Value) (w : World) : (callFunc 34 vs).run Tryz.prog w = .ok (.enter 34 vs) w := by kernel_rfl
theorem ent_35 (vs : Array Value) (w : World) : (callFunc 35 vs).run Tryz.prog w = .ok (.enter 35 vs) w := by kernel_rfl
theorem ent_36 (vs : Array Value) (w : World) : (callFunc 36 vs).run Tryz.prog w = .ok (.enter 36 vs) w := by kernel_rfl
theorem ent_38 (vs : Array Value) (w : World) : (callFunc 38 vs).run Tryz.prog w = .ok (.enter 38 vs) w := by kernel_rfl
theorem ent_39 (vs : Array Value) (w : World) : (callFunc 39 vs).run Tryz.prog w = .ok (.enter 39 vs) w := by kernel_rfl
theorem ent_40 (vs : Array Value) (w : World) : (callFunc 40 vs).run Tryz.prog w = .ok (.enter 40 vs) w := by kernel_rfl
theorem ent_41 (vs : Array Value) (w : World) : (callFunc 41 vs).run Tryz.prog w = .ok (.enter 41 vs) w := by kernel_rfl
theorem ent_42 (vs : Array Value) (w : World) : (callFunc 42 vs).run Tryz.prog w = .ok (.enter 42 vs) w := by kernel_rfl
theorem ent_43 (vs : Array Value) (w : World) : (callFunc 43 vs).run Tryz.prog w = .ok (.enter 43 vs) w := by kernel_rfl
theorem ent_44 (vs : Array Value) (w : World) : (callFunc 44 vs).run Tryz.prog w = .ok (.enter 44 vs) w := by kernel_rfl
theorem ent_45 (vs : Array Value) (w : World) : (callFunc 45 vs).run Tryz.prog w = .ok (.enter 45 vs) w := by kernel_rfl
theorem ent_46 (vs : Array Value) (w : World) : (callFunc 46 vs).run Tryz.prog w = .ok (.enter 46 vs) w := by kernel_rfl
theorem ent_47 (vs : Array Value) (w : World) : (callFunc 47 vs).run Tryz.prog w = .ok (.enter 47 vs) w := by kernel_rfl
theorem ent_48 (vs : Array Value) (w : World) : (callFunc 48 vs).run Tryz.prog w = .ok (.enter 48 vs) w := by kernel_rfl
theorem ent_49 (vs : Array Value) (w : World) : (callFunc 49 vs).run Tryz.prog w = .ok (.enter 49 vs) w := by kernel_rfl
theorem ent_50 (vs : Array Value) (w : World) : (callFunc 50 vs).run Tryz.prog w = .ok (.enter 50 vs) w := by kernel_rfl
theorem ent_51 (vs : Array Value) (w : World) : (callFunc 51 vs).run Tryz.prog w = .ok (.enter 51 vs) w := by kernel_rfl
theorem ent_52 (vs : Array Value) (w : World) : (callFunc 52 vs).run Tryz.prog w = .ok (.enter 52 vs) w := by kernel_rfl
theorem ent_53 (vs : Array Value) (w : World) : (callFunc 53 vs).run Tryz.prog w = .ok (.enter 53 vs) w := by kernel_rfl
theorem ent_54 (vs : Array Value) (w : World) : (callFunc 54 vs).run Tryz.prog w = .ok (.enter 54 vs) w := by kernel_rfl
theorem ent_55 (vs : Array Value) (w : World) : (callFunc 55 vs).run Tryz.prog w = .ok (.enter 55 vs) w := by kernel_rfl
theorem ent_56 (vs : Array Value) (w : World) : (callFunc 56 vs).run Tryz.prog w = .ok (.enter 56 vs) w := by kernel_rfl
theorem ent_57 (vs : Array Value) (w : World) : (callFunc 57 vs).run Tryz.prog w = .ok (.enter 57 vs) w := by kernel_rfl
theorem ent_58 (vs : Array Value) (w : World) : (callFunc 58 vs).run Tryz.prog w = .ok (.enter 58 vs) w := by kernel_rfl
theorem ent_60 (vs : Array Value) (w : World) : (callFunc 60 vs).run Tryz.prog w = .ok (.enter 60 vs) w := by kernel_rfl
theorem ent_61 (vs : Array Value) (w : World) : (callFunc 61 vs).run Tryz.prog w = .ok (.enter 61 vs) w := by kernel_rfl
theorem ent_62 (vs : Array Value) (w : World) : (callFunc 62 vs).run Tryz.prog w = .ok (.enter 62 vs) w := by kernel_rfl
theorem ent_63 (vs : Array Value) (w : World) : (callFunc 63 vs).run Tryz.prog w = .ok (.enter 63 vs) w := by kernel_rfl
theorem ent_64 (vs : Array Value) (w : World) : (callFunc 64 vs).run Tryz.prog w = .ok (.enter 64 vs) w := by kernel_rfl
theorem ent_65 (vs : Array Value) (w : World) : (callFunc 65 vs).run Tryz.prog w = .ok (.enter 65 vs) w := by kernel_rfl
theorem ent_68 (vs : Array Value) (w : World) : (callFunc 68 vs).run Tryz.prog w = .ok (.enter 68 vs) w := by kernel_rfl
theorem ent_69 (vs : Array Value) (w : World) : (callFunc 69 vs).run Tryz.prog w = .ok (.enter 69 vs) w := by kernel_rfl
theorem ent_70 (vs : Array Value) (w : World) : (callFunc 70 vs).run Tryz.prog w = .ok (.enter 70 vs) w := by kernel_rfl
theorem ent_71 (vs : Array Value) (w : World) : (callFunc 71 vs).run Tryz.prog w = .ok (.enter 71 vs) w := by kernel_rfl
theorem ent_72 (vs : Array Value) (w : World) : (callFunc 72 vs).run Tryz.prog w = .ok (.enter 72 vs) w := by kernel_rfl
theorem ent_76 (vs : Array Value) (w : World) : (callFunc 76 vs).run Tryz.prog w = .ok (.enter 76 vs) w := by kernel_rfl
theorem ent_77 (vs : Array Value) (w : World) : (callFunc 77 vs).run Tryz.prog w = .ok (.enter 77 vs) w := by kernel_rfl
theorem ent_78 (vs : Array Value) (w : World) : (callFunc 78 vs).run Tryz.prog w = .ok (.enter 78 vs) w := by kernel_rfl
theorem ent_79 (vs : Array Value) (w : World) : (callFunc 79 vs).run Tryz.prog w = .ok (.enter 79 vs) w := by kernel_rfl
theorem ent_80 (vs : Array Value) (w : World) : (callFunc 80 vs).run Tryz.prog w = .ok (.enter 80 vs) w := by kernel_rfl
theorem ent_81 (vs : Array Value) (w : World) : (callFunc 81 vs).run Tryz.prog w = .ok (.enter 81 vs) w := by kernel_rfl
theorem ent_82 (vs : Array Value) (w : World) : (callFunc 82 vs).run Tryz.prog w = .ok (.enter 82 vs) w := by kernel_rfl
theorem ent_89 (vs : Array Value) (w : World) : (callFunc 89 vs).run Tryz.prog w = .ok (.enter 89 vs) w := by kernel_rfl
theorem ent_90 (vs : Array Value) (w : World) : (callFunc 90 vs).run Tryz.prog w = .ok (.enter 90 vs) w := by kernel_rfl
theorem ent_91 (vs : Array Value) (w : World) : (callFunc 91 vs).run Tryz.prog w = .ok (.enter 91 vs) w := by kernel_rfl
theorem ent_92 (vs : Array Value) (w : World) : (callFunc 92 vs).run Tryz.prog w = .ok (.enter 92 vs) w := by kernel_rfl
theorem ent_93 (vs : Array Value) (w : World) : (callFunc 93 vs).run Tryz.prog w = .ok (.enter 93 vs) w := by kernel_rfl
theorem ent_94 (vs : Array Value) (w : World) : (callFunc 94 vs).run Tryz.prog w = .ok (.enter 94 vs) w := by kernel_rfl
theorem ent_95 (vs : Array Value) (w : World) : (callFunc 95 vs).run Tryz.prog w = .ok (.enter 95 vs) w := by kernel_rfl
theorem ent_96 (vs : Array Value) (w : World) : (callFunc 96 vs).run Tryz.prog w = .ok (.enter 96 vs) w := by kernel_rfl
open Go.ChangeShapes Go.WideShapes Go.ChangeAt Go.RowKit Go.Deep
section
variable {H : Type} {enc : TypeId × Value → H} {P : Program} {w : World}
end
theorem retInt {k : IntKind} {a b : Int} (h : a = b) : Ending.returned (.int k a) = .returned (.int k b) := by rw [h]
def nameN (n : Nat) : Int := if 1 ≤ n ∧ n ≤ 8 then 0 else 1
theorem nameN_ok {n : Nat} (h1 : 1 ≤ n) (h2 : n ≤ 8) : nameN n = 0 := by unfold nameN; rw [if_pos ⟨h1, h2⟩]
theorem nameN_bad {n : Nat} (h : ¬ (1 ≤ n ∧ n ≤ 8)) : nameN n = 1 := by unfold nameN; rw [if_neg h]
theorem name_len (w : World) (a : Option Addr) (n c : Nat) :
    Calls Tryz.prog 42 #[.slice a n c] w fun e w' => e = .returned (.int .i64 (nameN n)) ∧ w' = w := by
 by_cases h : 1 ≤ n ∧ n ≤ 8
 ·rw [nameN_ok h.1 h.2]
  obtain ⟨h1, h2⟩ := h
  go_enter Tryz.func42, Tryz.ntmps42
  go_wp2
  go_ret
  exact ⟨rfl, rfl⟩
 ·rw [nameN_bad h]
  by_cases h1 : n < 1
  ·clear h
   go_enter Tryz.func42, Tryz.ntmps42
   go_wp2
   go_ret
   exact ⟨rfl, rfl⟩
  ·have h2 : 8 < n := by omega
   clear h
   go_enter Tryz.func42, Tryz.ntmps42
   go_wp2
   go_ret
   exact ⟨rfl, rfl⟩
theorem TreeOk.small {n : Nat} {l : List Pr} (h : TreeOk n l) {p : Pr} (hp : p ∈ l) : p.1.length ≤ 100000 ∧ p.2.length ≤ 100000 := by
 obtain ⟨_, h2, h3⟩ := h.ok p hp; omega
theorem putT_have {l : List Pr} {k v : By} (h : hasT l k = true) : putT l k v = l.set (posT l k) (k, v) := by unfold putT; rw [if_pos h]
theorem putT_new {l : List Pr} {k v : By} (h : ¬ hasT l k = true) : putT l k v = l.take (posT l k) ++ (k, v) :: l.drop (posT l k) := by unfold putT; rw [if_neg h]
def forestW (ws : List Wr) : Forest := ws.foldl (fun f w => (applyF f [w]).getD f) []
theorem forestW_snoc (ws : List Wr) (w : Wr) : forestW (ws ++ [w]) = (applyF (forestW ws) [w]).getD (forestW ws) := by unfold forestW; rw [List.foldl_append]; rfl
theorem applyF_one (f : Forest) (w : Wr) : applyF f [w] = writeF f w := by
 simp only [applyF]
 cases writeF f w <;> rfl
set_option linter.unusedSimpArgs false
theorem take_snoc {α : Type} {l : List α} {k : Nat} {p : α} (h : l[k]? = some p) : l.take (k + 1) = l.take k ++ [p] := by
 obtain ⟨hk, rfl⟩ := List.getElem?_eq_some_iff.1 h
 exact List.take_succ_eq_append_getElem hk
theorem own2_spec (F : Fz) (w : World) (v : Value) (p : Pr) (hs : Sat w F) (hv : Pr2V F v p) (hk : p.1.length ≤ 100000) (hx : p.2.length ≤ 100000) :
    Calls Tryz.prog 64 #[v] w (Gives w F fun F' u => Pr2V F' u p) := by
 obtain ⟨x0, y0, x1, y1, rfl, h0, h1⟩ := hv
 have S := St.start hs
 go_enter Tryz.func64, Tryz.ntmps64
 refine wp_seq_k (fun K1 hK1 => ?_)
 refine region_wl ?_
 refine stNew S (v := fun n => .pointer (aA n 0)) rfl (ex_box (v := (.agg #[(.slice x0 p.1.length y0), (.slice x1 p.2.length y1)])) rfl) (fun n2 w3 S4 => ?_)
 refine sA S4 (zero_50 _) fun n5 w6 S7 => ?_
 refine wl_nil ?_
 refine hK1 _ _ ?_
 refine wp_seq_k (fun K8 hK8 => ?_)
 refine region_gw F 5 [(2, .made (fun F' u => Bs F' u p.1))] (by kernel_rfl) (by kernel_rfl) ?_
 simp only [List.take_succ_cons, List.take_zero]
 refine gf (fa_50_0 _ _) ?_
 refine gl nagg_25 S7 1 ?_
 simp only [pq]
 refine gw_rel rfl rfl (fun w9 C9 hF => does_call (ex_fn (vs := #[(.slice x0 p.1.length y0)]) (map1 rfl) rfl (ent_45 _ _)) (call_made S7.sat C9 (clone_spec _ _ _ p.1 ((St.tells S7 C9)).sat h0 (by omega)))) (fun v10 => ?_)
 refine gf (fa_50_1 _ _) ?_
 refine gl nagg_25 S7 1 ?_
 refine gw_nil ?_
 intro w11 hC13 hF14
 obtain ⟨F15, g16, R17⟩ := hF14.get 2 rfl rfl
 have S12 := St.gives S7 g16
 have le19 : Le _ _ := g16.le S7.sat
 have R20 := R17
 generalize F15 = F18 at *
 obtain ⟨xa21, xc22, rfl, _⟩ := R20.shape
 clear hF14
 simp only [List.drop_succ_cons, List.drop_zero]
 refine stGives S12 rfl (fn1 (ent_45 _ _)) (clone_spec _ _ _ p.2 (S12).sat (h1.mono le19) (by omega)) ?_
 intro v28 w23 F25 S24 le26 R27
 obtain ⟨xa29, xc30, rfl, _⟩ := R27.shape
 simp only [pq]
 refine dr (.agg #[(.slice xa21 p.1.length xc22), (.slice xa29 p.2.length xc30)]) (ex_build (bmap2 rfl rfl) (by kernel_rfl)) ?_
 refine sW 0 S24 (size_50) fun w31 S32 => ?_
 refine wl_nil ?_
 refine hK8 _ _ ?_
 refine wp_ret ?_
 try simp only [xt]
 refine bR (res_c rfl ⟨_, rfl, lR S32 0 Tryz.underlying50 (size_50)⟩) ?_
 exact ⟨_, _, rfl, S32.gr, ⟨_, _, _, _, rfl, (R20.mono le26), R27⟩⟩
theorem all_spec (F : Fz) (w : World) (v : Value) (l : List Pr) (hs : Sat w F) (hv : Prs F v l) (hl : l.length ≤ 100000) (hL : ∀ p ∈ l, p.1.length ≤ 100000 ∧ p.2.length ≤ 100000) :
    Calls Tryz.prog 62 #[v] w (GivesO w F 2 PrC 50 l) := by
 obtain ⟨a, c, rfl, hc1, hc2⟩ := Sl.shape hv
 unfold maxLen at hc2
 obtain ⟨i50, hi50, hz50, hs50, hb50⟩ := info_parts info_50
 have S := St.start hs
 go_enter Tryz.func62, Tryz.ntmps62
 refine wp_seq_k (fun K1 hK1 => ?_)
 refine region_wl ?_
 refine dy ?_
 refine wl_nil ?_
 (try simp only [Exit.then, Exit.inBlock, ↓reduceIte, Nat.reduceEqDiff])
 refine hK1 _ _ ?_
 refine wp_seq_k (fun K2 hK2 => ?_)
 refine region_wl ?_
 refine dy ?_
 refine wl_nil ?_
 (try simp only [Exit.then, Exit.inBlock, ↓reduceIte, Nat.reduceEqDiff])
 refine hK2 _ _ ?_
 refine wp_seq_k (fun K3 hK3 => ?_)
 refine wp_seq_k (fun K4 hK4 => ?_)
 refine region_wl ?_
 refine dx ?_
 refine dn Tryz.underlying47 ?_
 refine dx ?_
 simp only [pq]
 refine wl_nil ?_
 (try simp only [Exit.then, Exit.inBlock, ↓reduceIte, Nat.reduceEqDiff])
 refine hK4 _ _ ?_
 refine wp_block ?_
 have S5 := St.addNil S 2 PrC PrC.mono 50 w.heap.size
 refine wp_loop_g (fun mm aa w8 => ∃ (k : Nat) (v : Value) (F6 : Fz) (u7 : Nat → Value), mm = l.length - k ∧ aa = ⟨#[(.slice a l.length c), undef, Zn, v, undef, (u7 5), (.slice a l.length c), (nI l.length), (nI k), (u7 9), (u7 10), (u7 11), (u7 12), (u7 13), (u7 14), (u7 15), (u7 16), (u7 17), undef], []⟩ ∧ St w F w8 F6 [] [ownP 2 PrC PrC.mono 50 w.heap.size v (l.take k)] ∧ Le F F6 ∧ (k ≤ l.length)) _ ⟨0, Zn, F, (slotF [(.slice a l.length c), undef, Zn, Zn, undef, undef, (.slice a l.length c), (nI l.length), (iI 0), undef, undef, undef, undef, undef, undef, undef, undef, undef, undef]), rfl, rfl, S5, Le.refl _, (by omega)⟩ ?_
 rintro m9 a10 w11 ⟨k, v, F6, u7, rfl, rfl, S12, le13, hk⟩ K14 hK14
 refine wp_seq_k (fun K15 hK15 => ?_)
 refine region_wl ?_
 by_cases hc9 : k < l.length
 refine lssT ?_
 refine wl_nil ?_
 (try simp only [Exit.then, Exit.inBlock, ↓reduceIte, Nat.reduceEqDiff])
 refine hK15 _ _ ?_
 refine wp_seq_k (fun K16 hK16 => ?_)
 refine wp_cond_true rfl ?_
 refine wp_skip ?_
 (try simp only [Exit.then, Exit.inBlock, ↓reduceIte, Nat.reduceEqDiff])
 refine hK16 _ _ ?_
 refine wp_seq_k (fun K17 hK17 => ?_)
 refine wp_block ?_
 refine wp_seq_k (fun K18 hK18 => ?_)
 refine region_wl ?_
 obtain ⟨p, hp⟩ : ∃ p, l[k]? = some p := ⟨l[k], List.getElem?_eq_getElem hc9⟩
 have hpl := hL p (List.mem_of_getElem? hp)
 have htk : (l.take k).length = k := by rw [List.length_take]; omega
 obtain ⟨b19, o20, ha21, xa23, xc24, xa27, xc28, c22, c26, r25, r29⟩ := Prs.get (hv.mono le13) hp
 refine dr (pP b19 (o20 + k * 2)) (ex_at (i := k) (sz := 2) Tryz.underlying47 (sizeof_50 _) rfl ha21 rfl (by omega) rfl) ?_
 refine dr _ (ex_load rfl (loadM Tryz.underlying50 rfl (size_50) (range2 (St.fz S12 c22) (St.fz S12 c26)))) ?_
 simp only [pq]
 refine sA S12 (zero_50 _) fun n30 w31 S32 => ?_
 refine sW 0 S32 (size_50) fun w33 S34 => ?_
 refine wl_nil ?_
 (try simp only [Exit.then, Exit.inBlock, ↓reduceIte, Nat.reduceEqDiff])
 refine hK18 _ _ ?_
 refine region_wl ?_
 refine dx ?_
 refine dR S34 0 Tryz.underlying50 (size_50) ?_
 simp only [pq]
 refine stGives S34 rfl (fn1 (ent_64 _ _)) (own2_spec _ _ _ p (S34).sat ⟨_, _, _, _, rfl, r25, r29⟩ (by omega) (by omega)) ?_
 intro v40 w35 F37 S36 le38 R39
 obtain ⟨xa41, xc42, xa43, xc44, rfl, r45, r46⟩ := R39
 refine stNew S36 (v := fun n => .slice (aA n 0) 1 1) rfl (ex_lit (ps := #[(0, (.agg #[(.slice xa41 p.1.length xc42), (.slice xa43 p.2.length xc44)]))]) (cells := #[(.slice xa41 p.1.length xc42), (.slice xa43 p.2.length xc44)]) (E := 50) (bmap1 rfl) (fun w => by kernel_rfl)) (fun n47 w48 S49 => ?_)
 simp only [pq]
 refine stPush (i := 0) (r := 0) (p := p) (cs := [(.slice xa41 p.1.length xc42), (.slice xa43 p.2.length xc44)]) S49 rfl i50 (.agg #[Zn, Zn]) 48 Tryz.underlying47 hi50 hz50 hs50 hb50 rfl (by decide) rfl rfl rfl rfl rfl (PrC.oneCell ⟨_, _, rfl, r45, r46⟩) (⟨_, _, rfl, r45, r46⟩) (Nat.le_refl _) S49.gr.below.size (by unfold maxLen; omega) (by omega) ?_
 intro v50 w51 S52 hn53
 simp only [pq]
 have S52 := St.drop S52 (.cons _ (List.Sublist.refl _))
 refine dy ?_
 refine wl_nil ?_
 (try simp only [Exit.then, Exit.inBlock, ↓reduceIte, Nat.reduceEqDiff])
 refine hK17 _ _ ?_
 refine region_wl ?_
 refine dAdd (k + 1) ?_
 refine dx ?_
 simp only [pq]
 refine wl_nil ?_
 (try simp only [Exit.then, Exit.inBlock, ↓reduceIte, Nat.reduceEqDiff])
 have S52 := St.drop S52 (.cons _ (List.Sublist.refl _))
 rw [← take_snoc hp] at S52
 exact hK14 _ _ _ (by omega) ⟨(k + 1), v50, F37, (slotF [(.slice a l.length c), undef, Zn, v50, undef, (pP n30 0), (.slice a l.length c), (nI l.length), (nI (k + 1)), bT, (pP b19 (o20 + k * 2)), (.agg #[(.slice xa23 p.1.length xc24), (.slice xa27 p.2.length xc28)]), v, (.agg #[(.slice xa23 p.1.length xc24), (.slice xa27 p.2.length xc28)]), (.agg #[(.slice xa41 p.1.length xc42), (.slice xa43 p.2.length xc44)]), (.slice (aA n47 0) 1 1), v50, (nI (k + 1)), undef]), rfl, rfl, S52, (le13.trans le38), (by omega)⟩
 refine lssF ?_
 refine wl_nil ?_
 (try simp only [Exit.then, Exit.inBlock, ↓reduceIte, Nat.reduceEqDiff])
 refine hK15 _ _ ?_
 refine wp_seq_k (fun K55 hK55 => ?_)
 refine wp_cond_false rfl ?_
 refine wp_exit ?_
 (try simp only [Exit.then, Exit.inBlock, ↓reduceIte, Nat.reduceEqDiff])
 refine hK3 _ _ ?_
 refine wp_seq_k (fun K56 hK56 => ?_)
 refine region_wl ?_
 refine dx ?_
 refine dy ?_
 simp only [pq]
 refine wl_nil ?_
 (try simp only [Exit.then, Exit.inBlock, ↓reduceIte, Nat.reduceEqDiff])
 refine hK56 _ _ ?_
 refine wp_ret ?_
 (try simp only [Exit.then, Exit.inBlock, ↓reduceIte, Nat.reduceEqDiff])
 refine bR (res_t rfl (gD rfl)) ?_
 obtain rfl : k = l.length := by omega
 exact ⟨_, _, rfl, S12.gr, by have h := St.own (i := 0) S12 rfl; rwa [List.take_length] at h⟩
theorem bytesOf_run {P : Program} {w : World} {F : Fz} {v : Value} {l : List UInt8} (hs : Sat w F) (hv : Bs F v l) : (Extern.Bytes.bytesOf v).run P w = .ok ⟨l.toArray⟩ w := by
 obtain ⟨a, c, rfl, h1, h2⟩ := hv.shape
 cases a with
 | none =>
  obtain ⟨_, _, q1, _, _, q4, _⟩ := hv
  cases q1
  have : l = [] := List.eq_nil_of_length_eq_zero (q4 rfl).1
  subst this
  rfl
 | some a =>
  by_cases hl : l = []
  ·subst hl; rfl
  ·have hpos := List.length_pos_iff.2 hl
   obtain ⟨b, o, e, hc⟩ := hv.addr hpos
   cases e
   have key : ∀ (m : List UInt8) (j : Nat) (acc : ByteArray), (∀ (i : Nat) (h : i < m.length), w.cell? ⟨b, o + j + i, none⟩ = some (.int .u8 (m[i].toNat : Int))) → (Extern.Bytes.loadBytes ⟨b, o + j, none⟩ m.length acc).run P w = .ok ⟨acc.data ++ m.toArray⟩ w := by
    intro m
    induction m with
    | nil => intro j acc _; simp [Extern.Bytes.loadBytes]
    | cons x m ih =>
     intro j acc h
     have h0 := h 0 (by simp)
     simp only [Nat.add_zero, List.getElem_cons_zero] at h0
     have e : (⟨b, o + j, none⟩ : Addr).add 1 = ⟨b, o + (j + 1), none⟩ := by rw [Addr.add_mid]; rfl
     have ih' := ih (j + 1) (acc.push x) (fun i hi => by
      have := h (i + 1) (by simpa using hi)
      simp only [List.getElem_cons_succ] at this
      rw [show o + (j + 1) + i = o + j + (i + 1) from by omega]; exact this)
     simp only [List.length_cons, Extern.Bytes.loadBytes, Sem.run_bind, run_load, h0, Result.andThen]
     rw [e]
     simp only [Int.toNat_natCast]
     rw [show x.toNat.toUInt8 = x from by simp]
     rw [ih']
     congr 2
     simp [ByteArray.push]
   have := key l 0 .empty (fun i hi => hs.cell (hc i hi))
   simp only [Nat.add_zero] at this
   show (Extern.Bytes.loadBytes ⟨b, o, none⟩ l.length .empty).run P w = _
   rw [this]
   congr 2
   simp [ByteArray.empty, ByteArray.emptyWithCapacity]
   rfl
theorem compareBytes_eq : ∀ (a b : List UInt8), Lib.compareBytes a b = cmpL a b
  | [], [] => by simp [Lib.compareBytes, cmpL, Op.bytesLess]
  | [], _ :: _ => by simp [Lib.compareBytes, cmpL, Op.bytesLess]
  | _ :: _, [] => by simp [Lib.compareBytes, cmpL, Op.bytesLess]
  | x :: a, y :: b => by
    have ih := compareBytes_eq a b
    unfold Lib.compareBytes
    rw [ih]
    unfold cmpL
    simp only [Op.bytesLess, Bool.or_eq_true, decide_eq_true_eq, Bool.and_eq_true, beq_iff_eq, List.cons.injEq]
    by_cases h1 : x < y
    · simp [h1]
    · by_cases h2 : y < x
      · have h3 : x ≠ y := by rintro rfl; exact h1 h2
        simp [h1, h2, h3]
      · have h3 : x = y := by
          apply UInt8.toNat_inj.1
          have e1 : ¬ x.toNat < y.toNat := fun q => h1 (UInt8.lt_iff_toNat_lt.2 q)
          have e2 : ¬ y.toNat < x.toNat := fun q => h2 (UInt8.lt_iff_toNat_lt.2 q)
          omega
        subst h3
        simp [h1]
theorem bytealgCompare_run {w : World} {F : Fz} {v u : Value} {l m : List UInt8} (hs : Sat w F) (hv : Bs F v l) (hu : Bs F u m) : (callFunc 59 #[v, u]).run Tryz.prog w = .ok (.value (.int .i64 (cmpL l m))) w := by
 rw [run_callFunc_extern Tryz.func59 (by kernel_rfl) (by kernel_rfl) (by kernel_rfl) (e := Extern.BytealgCompare.compare) (by kernel_rfl)]
 have e : (Extern.BytealgCompare.compare #[v, u]).run Tryz.prog w = .ok (goInt (Extern.BytealgCompare.cmp ⟨l.toArray⟩ ⟨m.toArray⟩)) w := by
  change Sem.run Tryz.prog (do pure (goInt (Extern.BytealgCompare.cmp (← Extern.Bytes.bytesOf v) (← Extern.Bytes.bytesOf u)))) w = _
  simp only [Sem.run_bind, bytesOf_run hs hv, bytesOf_run hs hu, Result.andThen_ok, Sem.run_pure]
 rw [e, Lib.cmp_eq, compareBytes_eq]
 rfl
theorem bytesCompare_spec (F : Fz) (w : World) (v u : Value) (l m : List UInt8) (hs : Sat w F) (hv : Bs F v l) (hu : Bs F u m) :
    Calls Tryz.prog 44 #[v, u] w (Tells w (.int .i64 (cmpL l m))) := by
 obtain ⟨a, c, rfl, _⟩ := hv.shape
 obtain ⟨a2, c2, rfl, _⟩ := hu.shape
 have S := St.start hs
 go_enter Tryz.func44, Tryz.ntmps44
 refine sk fun K1 hK1 => ?_
 refine dy ?_
 refine wn hK1 ?_
 refine sk fun K2 hK2 => ?_
 iterate 2 refine dx ?_
 refine dr (.int .i64 (cmpL l m)) (ex_fnv (vs := #[(.slice a l.length c), (.slice a2 m.length c2)]) (map2 rfl rfl) rfl (bytealgCompare_run (S).sat hv hu)) ?_
 simp only [pq]
 refine dy ?_
 refine wn hK2 ?_
 refine wp_ret ?_
 try simp only [xt]
 refine bR (res_t rfl (gD rfl)) ?_
 exact ⟨rfl, S.gr.below⟩
theorem compare_spec (F : Fz) (w : World) (v u : Value) (p q : Pr) (hs : Sat w F) (hv : Pr2V F v p) (hu : Pr2V F u q) :
    Calls Tryz.prog 58 #[v, u] w (Tells w (.int .i64 (cmpL p.1 q.1))) := by
 obtain ⟨x0, y0, x1, y1, rfl, h0, h1⟩ := hv
 obtain ⟨x0q, y0q, x1q, y1q, rfl, k0, k1⟩ := hu
 have S := St.start hs
 go_enter Tryz.func58, Tryz.ntmps58
 refine sk fun K1 hK1 => ?_
 refine stNew S (v := fun n => .pointer (aA n 0)) rfl (ex_box (v := (.agg #[(.slice x0 p.1.length y0), (.slice x1 p.2.length y1)])) rfl) (fun n2 w3 S4 => ?_)
 refine stNew S4 (v := fun n => .pointer (aA n 0)) rfl (ex_box (v := (.agg #[(.slice x0q q.1.length y0q), (.slice x1q q.2.length y1q)])) rfl) (fun n5 w6 S7 => ?_)
 simp only [pq]
 refine dy ?_
 refine wn hK1 ?_
 refine sk fun K8 hK8 => ?_
 refine df (fa_50_0 _ _) ?_
 refine dl (nagg_25 _) S7 1 ?_
 refine df (fa_50_0 _ _) ?_
 simp only [pq]
 refine dl (nagg_25 _) S7 0 ?_
 refine stTells (v := (.int .i64 (cmpL p.1 q.1))) S7 rfl (fn2 (ent_44 _ _)) (bytesCompare_spec _ _ _ _ p.1 q.1 (S7).sat h0 k0) (fun w9 S10 => ?_)
 refine dy ?_
 refine wn hK8 ?_
 refine wp_ret ?_
 try simp only [xt]
 refine bR (res_t rfl (gD rfl)) ?_
 exact ⟨rfl, S10.gr.below⟩
def pairE (p : Pr) : Int := if 32 < p.2.length then 1 else checkN p.1.length
theorem pair_spec (F : Fz) (w : World) (v : Value) (p : Pr) (hs : Sat w F) (hv : Pr2V F v p) :
    Calls Tryz.prog 57 #[v] w (Tells w (.int .i64 (pairE p))) := by
 obtain ⟨x0, y0, x1, y1, rfl, h0, h1⟩ := hv
 have S := St.start hs
 go_enter Tryz.func57, Tryz.ntmps57
 refine sk fun K1 hK1 => ?_
 refine stNew S (v := fun n => .pointer (aA n 0)) rfl (ex_box (v := (.agg #[(.slice x0 p.1.length y0), (.slice x1 p.2.length y1)])) rfl) (fun n2 w3 S4 => ?_)
 refine dy ?_
 refine wn hK1 ?_
 refine wp_seq_k (fun K5 hK5 => ?_)
 refine sk fun K6 hK6 => ?_
 refine df (fa_50_1 _ _) ?_
 refine dl (nagg_25 _) S4 0 ?_
 refine dn Tryz.underlying25 ?_
 simp only [pq]
 by_cases hc6 : 32 < p.2.length
 refine gtrT ?_
 refine wn hK6 ?_
 refine wp_cond_true rfl ?_
 refine sk fun K7 hK7 => ?_
 refine dy ?_
 refine wn hK7 ?_
 refine wp_ret ?_
 try simp only [xt]
 refine bR (res_t rfl (gD rfl)) ?_
 refine ⟨?_, S4.gr.below⟩
 unfold pairE
 first | rw [if_pos (by omega)] | rw [if_neg (by omega)]
 refine gtrF ?_
 simp only [pq]
 refine wn hK6 ?_
 refine wp_cond_false rfl ?_
 refine wp_skip ?_
 refine hK5 _ _ ?_
 refine sk fun K8 hK8 => ?_
 refine df (fa_50_0 _ _) ?_
 refine dl (nagg_25 _) S4 0 ?_
 refine stTells (v := (.int .i64 (checkN p.1.length))) S4 rfl (fn1 (ent_55 _ _)) (tells_same (check_spec _ _ _ p.1 h0)) (fun w9 S10 => ?_)
 refine dy ?_
 simp only [pq]
 refine wn hK8 ?_
 refine wp_ret ?_
 try simp only [xt]
 refine bR (res_t rfl (gD rfl)) ?_
 refine ⟨?_, S10.gr.below⟩
 unfold pairE
 first | rw [if_pos (by omega)] | rw [if_neg (by omega)]
/-- What Check tells of pairs from place k on. -/
def treeAt (l : List Pr) : Nat → Nat → Int
  | 0, _ => 0
  | n + 1, k => match l[k]? with
    | none => 0
    | some p => if pairE p ≠ 0 then pairE p else if 0 < k ∧ 0 ≤ cmpL (l.getD (k - 1) ([], [])).1 p.1 then 3 else treeAt l n (k + 1)
def treeE (l : List Pr) : Int := if 60 < l.length then 1 else treeAt l l.length 0
theorem treeAt_at {l : List Pr} {k : Nat} {p : Pr} (hp : l[k]? = some p) : treeAt l (l.length - k) k = if pairE p ≠ 0 then pairE p else if 0 < k ∧ 0 ≤ cmpL (l.getD (k - 1) ([], [])).1 p.1 then 3 else treeAt l (l.length - (k + 1)) (k + 1) := by
 obtain ⟨hk, _⟩ := List.getElem?_eq_some_iff.1 hp
 rw [show l.length - k = (l.length - (k + 1)) + 1 from by omega]
 simp only [treeAt, hp]
theorem treeAt_end {l : List Pr} {k : Nat} (hk : l.length ≤ k) : treeAt l (l.length - k) k = 0 := by rw [show l.length - k = 0 from by omega]; rfl
theorem pairE_ok {p : Pr} : pairE p = 0 ↔ PairOk p := by
 unfold pairE PairOk checkN
 split
 ·omega
 ·split <;> omega
theorem treeE_ok {l : List Pr} : treeE l = 0 ↔ TreeOk 60 l := by
 unfold treeE
 by_cases hl : 60 < l.length
 rw [if_pos hl]
 exact ⟨fun h => by omega, fun h => by have := h.len; omega⟩
 rw [if_neg hl]
 have key : ∀ n k, n + k = l.length → (treeAt l n k = 0 ↔ ∀ i (hi : i < l.length), k ≤ i → PairOk l[i] ∧ (0 < i → Lt (l.getD (i - 1) ([], [])).1 l[i].1)) := by
  intro n
  induction n with
  | zero => intro k hk; simp only [treeAt]; exact ⟨fun _ i hi h => by omega, fun _ => trivial⟩
  | succ n ih =>
   intro k hk
   have hk' : k < l.length := by omega
   simp only [treeAt, List.getElem?_eq_getElem hk']
   have ihk := ih (k + 1) (by omega)
   by_cases hp : pairE l[k] = 0
   rw [if_neg (by simp [hp])]
   by_cases hc : 0 < k ∧ 0 ≤ cmpL (l.getD (k - 1) ([], [])).1 l[k].1
   rw [if_pos hc]
   refine ⟨fun h => by omega, fun h => ?_⟩
   have := (h k hk' (Nat.le_refl _)).2 hc.1
   have := cmpL_lt.2 this
   omega
   rw [if_neg hc, ihk]
   refine ⟨fun h i hi hki => ?_, fun h i hi hki => h i hi (by omega)⟩
   by_cases e : i = k
   subst e
   refine ⟨pairE_ok.1 hp, fun h0 => cmpL_lt.1 ?_⟩
   have : ¬ 0 ≤ cmpL (l.getD (i - 1) ([], [])).1 l[i].1 := fun h => hc ⟨h0, h⟩
   omega
   exact h i hi (by omega)
   rw [if_pos hp]
   exact ⟨fun h => absurd h hp, fun h => absurd (pairE_ok.2 (h k hk' (Nat.le_refl _)).1) hp⟩
 rw [key l.length 0 (by omega)]
 constructor
 intro h
 refine ⟨by omega, fun p hp => ?_, ?_⟩
 obtain ⟨i, hi, rfl⟩ := List.mem_iff_getElem.1 hp
 exact (h i hi (by omega)).1
 have step : ∀ j i (hi : i < l.length) (hj : j < l.length), i < j → Lt l[i].1 l[j].1 := by
  intro j
  induction j with
  | zero => intro i _ _ h; omega
  | succ j ih =>
   intro i hi hj hij
   have h1 := (h (j + 1) hj (by omega)).2 (by omega)
   simp only [Nat.add_sub_cancel, List.getD, List.getElem?_eq_getElem (show j < l.length by omega), Option.getD_some] at h1
   by_cases e : i = j
   subst e; exact h1
   exact less_trans _ _ _ (ih i hi (by omega) (by omega)) h1
 exact List.pairwise_iff_getElem.2 fun i j hi hj hij => step j i hi hj hij
 intro h i hi _
 refine ⟨h.ok _ (List.getElem_mem hi), fun h0 => ?_⟩
 simp only [List.getD, List.getElem?_eq_getElem (show i - 1 < l.length by omega), Option.getD_some]
 exact List.pairwise_iff_getElem.1 h.rise (i - 1) i (by omega) hi (by omega)
theorem treeCheck_spec (F : Fz) (w : World) (v : Value) (l : List Pr) (hs : Sat w F) (hv : Prs F v l) :
    Calls Tryz.prog 43 #[v] w (Tells w (.int .i64 (treeE l))) := by
 obtain ⟨a, c, rfl, hc1, hc2⟩ := Sl.shape hv
 unfold maxLen at hc2
 have S := St.start hs
 go_enter Tryz.func43, Tryz.ntmps43
 refine sk fun K1 hK1 => ?_
 refine dy ?_
 refine wn hK1 ?_
 refine wp_seq_k (fun K2 hK2 => ?_)
 refine sk fun K3 hK3 => ?_
 refine dx ?_
 refine dn Tryz.underlying47 ?_
 simp only [pq]
 by_cases hc8 : 60 < l.length
 refine gtrT ?_
 refine wn hK3 ?_
 refine wp_cond_true rfl ?_
 refine sk fun K4 hK4 => ?_
 refine dy ?_
 refine wn hK4 ?_
 refine wp_ret ?_
 (try simp only [Exit.then, Exit.inBlock, ↓reduceIte, Nat.reduceEqDiff])
 refine bR (res_t rfl (gD rfl)) ?_
 exact ⟨by unfold treeE; rw [if_pos (by omega)], S.gr.below⟩
 refine gtrF ?_
 simp only [pq]
 refine wn hK3 ?_
 refine wp_cond_false rfl ?_
 refine wp_skip ?_
 refine hK2 _ _ ?_
 refine wp_seq_k (fun K5 hK5 => ?_)
 refine sk fun K6 hK6 => ?_
 refine dx ?_
 refine dn Tryz.underlying47 ?_
 refine dx ?_
 simp only [pq]
 refine wn hK6 ?_
 refine wp_block ?_
 refine wp_loop_g (fun mm aa w8 => ∃ (k : Nat) (u7 : Nat → Value), mm = l.length - k ∧ u7 = slots aa ∧ aa = ⟨#[(.slice a l.length c), undef, (u7 2), (u7 3), (u7 4), (u7 5), (.slice a l.length c), (nI l.length), bF, (.slice a l.length c), (nI l.length), (nI k), (u7 12), (u7 13), (u7 14), (u7 15), (u7 16), (u7 17), (u7 18), (u7 19), (u7 20), (u7 21), (u7 22), (u7 23), (u7 24), (u7 25), (u7 26), (u7 27), (u7 28), (u7 29), (u7 30), (u7 31), (u7 32), (u7 33)], []⟩ ∧ St w F w8 F [] [] ∧ (k ≤ l.length) ∧ (treeAt l l.length 0 = treeAt l (l.length - k) k)) _ ⟨0, _, rfl, rfl, rfl, S, (by omega), rfl⟩ ?_
 rintro m9 a10 w11 ⟨k, u7, rfl, -, rfl, S12, hk, hT⟩ K14 hK14
 refine sk fun K15 hK15 => ?_
 by_cases hc12 : k < l.length
 refine lssT ?_
 refine wn hK15 ?_
 refine wp_seq_k (fun K16 hK16 => ?_)
 refine wp_cond_true rfl ?_
 refine wp_skip ?_
 refine hK16 _ _ ?_
 refine wp_seq_k (fun K17 hK17 => ?_)
 refine wp_block ?_
 refine sk fun K18 hK18 => ?_
 refine dx ?_
 simp only [pq]
 obtain ⟨p, hp⟩ : ∃ p, l[k]? = some p := ⟨l[k], List.getElem?_eq_getElem hc12⟩
 obtain ⟨b19, o20, ha21, xa23, xc24, xa27, xc28, c22, c26, r25, r29⟩ := Prs.get hv hp
 refine dr (pP b19 (o20 + k * 2)) (ex_at (i := k) (sz := 2) Tryz.underlying47 (sizeof_50 _) rfl ha21 rfl (by omega) rfl) ?_
 refine dr _ (ex_load rfl (loadM Tryz.underlying50 rfl (size_50) (range2 (St.fz S12 c22) (St.fz S12 c26)))) ?_
 refine sA S12 (zero_50 _) fun n30 w31 S32 => ?_
 simp only [pq]
 refine dy ?_
 refine sW 0 S32 (size_50) fun w33 S34 => ?_
 refine wn hK18 ?_
 refine wp_seq_k (fun K35 hK35 => ?_)
 refine sk fun K36 hK36 => ?_
 refine dR S34 0 Tryz.underlying50 (size_50) ?_
 simp only [pq]
 refine stTells (v := (.int .i64 (pairE p))) S34 rfl (fn1 (ent_57 _ _)) (pair_spec _ _ _ p (S34).sat ⟨_, _, _, _, rfl, r25, r29⟩) (fun w37 S38 => ?_)
 refine dy ?_
 refine wn hK36 ?_
 refine sk fun K39 hK39 => ?_
 refine dx ?_
 simp only [pq]
 by_cases hc19 : (pairE p) = (0 : Int)
 refine neqF ?_
 refine wn hK39 ?_
 refine wp_cond_false rfl ?_
 refine wp_skip ?_
 refine hK35 _ _ ?_
 refine wp_seq_k (fun K40 hK40 => ?_)
 by_cases h0 : 0 < k
 obtain ⟨q, hq⟩ : ∃ q, l[k - 1]? = some q := ⟨l[k - 1], List.getElem?_eq_getElem (by omega)⟩
 have hqd : l.getD (k - 1) ([], []) = q := by rw [List.getD_eq_getElem?_getD, hq]; rfl
 obtain ⟨b41, o42, ha43, xa45, xc46, xa49, xc50, c44, c48, r47, r51⟩ := Prs.get hv hq
 refine region_gw F 9 [] (by kernel_rfl) (by kernel_rfl) ?_
 simp only [List.take_succ_cons, List.take_zero]
 refine gm ?_
 refine gv bT (fun _ _ => ex_gtr (m := ((k : Nat) : Int)) (n := (0 : Int)) (b := true) rfl rfl (decide_eq_true (by omega))) ?_
 simp only [pq]
 iterate 3 refine gm ?_
 simp only [pq]
 refine gv (nI (k - 1)) (fun _ _ => ex_sub (m := ((k : Nat) : Int)) (n := (1 : Int)) (r := (((k - 1) : Nat) : Int)) rfl rfl (by omega) (by omega) (by omega)) ?_
 refine gv (pP b41 (o42 + (k - 1) * 2)) (fun _ _ => ex_at (i := (k - 1)) (sz := 2) Tryz.underlying47 (sizeof_50 _) rfl ha43 rfl (by omega) rfl) ?_
 refine gv _ (fun _ C52 => ex_load rfl (loadM Tryz.underlying50 rfl (size_50) (range2 (St.fz (St.tells S38 C52) c44) (St.fz (St.tells S38 C52) c48)))) ?_
 simp only [pq]
 refine gv _ (fun _ C52 => ex_load rfl (loadM Tryz.underlying50 rfl (size_50) (St.range (St.tells S38 C52) (i := 0) rfl 0 [(.slice xa23 p.1.length xc24), (.slice xa27 p.2.length xc28)] (sub_range 0 rfl)))) ?_
 refine gw_nil ?_
 intro w53 hC55 hF56
 clear hF56
 have S54 := St.tells S38 hC55
 simp only [List.drop_succ_cons, List.drop_zero]
 refine stTells (v := (.int .i64 (cmpL q.1 p.1))) S54 rfl (fn2 (ent_58 _ _)) (compare_spec _ _ _ _ q p (S54).sat ⟨_, _, _, _, rfl, r47, r51⟩ ⟨_, _, _, _, rfl, r25, r29⟩) (fun w57 S58 => ?_)
 simp only [pq]
 by_cases hc31 : (0 : Int) ≤ (cmpL q.1 p.1)
 refine geqT ?_
 refine dp ?_
 refine wl_nil (hK40 _ _ ?_)
 refine wp_cond_true rfl ?_
 refine sk fun K59 hK59 => ?_
 refine dy ?_
 simp only [pq]
 refine wn hK59 ?_
 refine wp_ret ?_
 (try simp only [Exit.then, Exit.inBlock, ↓reduceIte, Nat.reduceEqDiff])
 refine bR (res_t rfl (gD rfl)) ?_
 exact ⟨by unfold treeE; rw [if_neg (by omega), hT, treeAt_at hp, if_neg (by omega), if_pos ⟨h0, by rw [hqd]; exact hc31⟩], S58.gr.below⟩
 refine geqF ?_
 refine dp ?_
 refine wl_nil (hK40 _ _ ?_)
 refine wp_cond_false rfl ?_
 refine wp_skip ?_
 refine hK17 _ _ ?_
 refine region_wl ?_
 refine dAdd (k + 1) ?_
 refine dx ?_
 simp only [pq]
 refine wl_nil ?_
 have S58 := St.drop S58 (.cons _ (List.Sublist.refl _))
 exact hK14 _ _ _ (by omega) ⟨(k + 1), _, rfl, rfl, rfl, S58, (by omega), (by rw [hT, treeAt_at hp, if_neg (by omega), if_neg (fun h => hc31 (by have := h.2; rw [hqd] at this; exact this))])⟩
 refine region_gw F 9 [] (by kernel_rfl) (by kernel_rfl) ?_
 simp only [List.take_succ_cons, List.take_zero]
 refine gm ?_
 refine gv bF (fun _ _ => ex_gtr (m := ((k : Nat) : Int)) (n := (0 : Int)) (b := false) rfl rfl (decide_eq_false (by omega))) ?_
 refine gm ?_
 simp only [pq]
 refine gw_skip (wanted_no rfl rfl rfl (c := false) rfl (by decide)) ?_
 simp only [pq]
 refine gw_skip (wanted_no rfl rfl rfl (c := false) rfl (by decide)) ?_
 simp only [pq]
 refine gw_skip (wanted_no rfl rfl rfl (c := false) rfl (by decide)) ?_
 simp only [pq]
 refine gw_skip (wanted_no rfl rfl rfl (c := false) rfl (by decide)) ?_
 simp only [pq]
 refine gw_skip (wanted_no rfl rfl rfl (c := false) rfl (by decide)) ?_
 simp only [pq]
 refine gw_skip (wanted_no rfl rfl rfl (c := false) rfl (by decide)) ?_
 refine gw_nil ?_
 intro w61 hC63 hF64
 clear hF64
 have S62 := St.tells S38 hC63
 simp only [List.drop_succ_cons, List.drop_zero]
 refine nO ?_
 simp only [pq]
 refine nO ?_
 refine dp ?_
 refine wl_nil (hK40 _ _ ?_)
 refine wp_cond_false rfl ?_
 refine wp_skip ?_
 refine hK17 _ _ ?_
 refine region_wl ?_
 refine dAdd (k + 1) ?_
 refine dx ?_
 simp only [pq]
 refine wl_nil ?_
 have S62 := St.drop S62 (.cons _ (List.Sublist.refl _))
 exact hK14 _ _ _ (by omega) ⟨(k + 1), _, rfl, rfl, rfl, S62, (by omega), (by rw [hT, treeAt_at hp, if_neg (by omega), if_neg (fun h => h0 h.1)])⟩
 refine neqT ?_
 refine wn hK39 ?_
 refine wp_cond_true rfl ?_
 refine sk fun K65 hK65 => ?_
 refine dx ?_
 refine dy ?_
 simp only [pq]
 refine wn hK65 ?_
 refine wp_ret ?_
 (try simp only [Exit.then, Exit.inBlock, ↓reduceIte, Nat.reduceEqDiff])
 refine bR (res_t rfl (gD rfl)) ?_
 exact ⟨by unfold treeE; rw [if_neg (by omega), hT, treeAt_at hp, if_pos hc19], S38.gr.below⟩
 refine lssF ?_
 refine wn hK15 ?_
 refine wp_seq_k (fun K66 hK66 => ?_)
 refine wp_cond_false rfl ?_
 refine wp_exit ?_
 refine hK5 _ _ ?_
 refine sk fun K67 hK67 => ?_
 refine dy ?_
 refine wn hK67 ?_
 refine wp_ret ?_
 (try simp only [Exit.then, Exit.inBlock, ↓reduceIte, Nat.reduceEqDiff])
 refine bR (res_t rfl (gD rfl)) ?_
 exact ⟨by unfold treeE; rw [if_neg (by omega), hT, treeAt_end (by omega)], S12.gr.below⟩
theorem conv_iu (z : Nat) (h : z < 9223372036854775808) (w : World) : (convert 3 132 (.int .i64 (z : Int))).run Tryz.prog w = .ok (.int .u64 (z : Int)) w := by
 have e : IntKind.u64.wrap (z : Int) = (z : Int) := by
  rw [show IntKind.u64.wrap (z : Int) = (z : Int) % 18446744073709551616 from rfl]; omega
 go_simp
theorem conv_ui (z : Nat) (h : z < 9223372036854775808) (w : World) : (convert 132 3 (.int .u64 (z : Int))).run Tryz.prog w = .ok (.int .i64 (z : Int)) w := by
 have e : IntKind.i64.wrap (z : Int) = (z : Int) := wrap64_in (by omega) (by omega)
 go_simp
theorem shr1_u (z : Nat) (w : World) (X : TypeId) : (binOp .shr X (.int .u64 (z : Int)) (.int .u64 1)).run Tryz.prog w = .ok (.int .u64 ((z / 2 : Nat) : Int)) w := by
 have e : ((z / 2 : Nat) : Int) = (z : Int) / 2 := by omega
 rw [e]
 go_simp
theorem ex_shr {P : Program} {ρ : Operand → Value} {w : World} {d : Option Tmp} {t X Y : TypeId} {pos : String} {after : Array Edge} {guard : Option (Nat × Bool)} {x y : Operand} {k k' : IntKind} {m n : Int} {v : Value} {op : BinOp} (hop : op = .shr ∨ op = .shl) (hx : ρ x = .int k m) (hy : ρ y = .int k' n) (h : (binOp op X (.int k m) (.int k' n)).run P w = .ok v w) : (execOp ρ ⟨d, .binOp op X x y Y, t, pos, after, guard⟩).run P w = .ok (.value v) w := by
 have e : (eqGuard op X x y (.int k m) (.int k' n)).run P w = .ok () w := by
  unfold eqGuard
  rcases hop with rfl | rfl <;> rfl
 simp only [execOp, hx, hy, Sem.run_bind, e, Result.andThen_ok, h, Sem.run_pure]
theorem pos_gt {α : Type} {l : List (By × α)} (hr : Rise l) {h : Nat} {p : By × α} {k : By} (hp : l[h]? = some p) (hlt : cmpL p.1 k < 0) : h + 1 ≤ posT l k := by
 obtain ⟨hh, rfl⟩ := List.getElem?_eq_some_iff.1 hp
 rcases Nat.lt_or_ge h (posT l k) with h1 | h1
 ·exact h1
 ·exact absurd (cmpL_lt.1 hlt) (posBy_ge hr h1 hh)
theorem pos_le {α : Type} {l : List (By × α)} {h : Nat} {p : By × α} {k : By} (hp : l[h]? = some p) (hge : ¬ cmpL p.1 k < 0) : posT l k ≤ h := by
 obtain ⟨hh, rfl⟩ := List.getElem?_eq_some_iff.1 hp
 rcases Nat.lt_or_ge h (posT l k) with h1 | h1
 ·exact absurd (cmpL_lt.2 (posBy_lt (f := (·.1)) h1 hh)) hge
 ·exact h1
theorem has_yes {α : Type} {l : List (By × α)} (hr : Rise l) {p : By × α} {k : By} (hp : l[posT l k]? = some p) (h : cmpL p.1 k = 0) : hasT l k = true := by
 obtain ⟨hh, rfl⟩ := List.getElem?_eq_some_iff.1 hp
 exact (hasBy_at hr).2 ⟨hh, cmpL_eq.1 h⟩
theorem has_no {α : Type} {l : List (By × α)} (hr : Rise l) {p : By × α} {k : By} (hp : l[posT l k]? = some p) (h : ¬ cmpL p.1 k = 0) : hasT l k = false := by
 obtain ⟨hh, rfl⟩ := List.getElem?_eq_some_iff.1 hp
 cases e : hasT l k with
 | false => rfl
 | true => obtain ⟨_, h2⟩ := (hasBy_at hr).1 e; exact absurd (cmpL_eq.2 h2) h
theorem has_end {α : Type} {l : List (By × α)} (hr : Rise l) {k : By} (h : ¬ posT l k < l.length) : hasT l k = false := by
 cases e : hasT l k with
 | false => rfl
 | true => obtain ⟨h1, _⟩ := (hasBy_at hr).1 e; exact absurd h1 h
theorem bsearch_spec (F : Fz) (w : World) (v u : Value) (l : List Pr) (q : Pr) (hs : Sat w F) (hv : Prs F v l) (hu : Pr2V F u q) (hr : Rise l) (hl : l.length ≤ 1000000) :
    Calls Tryz.prog 72 #[v, u, .func (.func 58) #[] #[]] w (Tells w (.tuple #[.int .i64 (posT l q.1 : Nat), .bool (hasT l q.1)])) := by
 obtain ⟨a, c, rfl, hc1, hc2⟩ := Sl.shape hv
 obtain ⟨x0q, y0q, x1q, y1q, rfl, k0, k1⟩ := hu
 unfold maxLen at hc2
 have S := St.start hs
 go_enter Tryz.func72, Tryz.ntmps72
 refine sk fun K1 hK1 => ?_
 refine stNew S (v := fun n => .pointer (aA n 0)) rfl (ex_box (v := (.agg #[(.slice x0q q.1.length y0q), (.slice x1q q.2.length y1q)])) rfl) (fun n2 w3 S4 => ?_)
 iterate 2 refine dy ?_
 refine wn hK1 ?_
 refine sk fun K5 hK5 => ?_
 refine dx ?_
 refine dn Tryz.underlying47 ?_
 refine dy ?_
 simp only [pq]
 refine wn hK5 ?_
 refine sk fun K6 hK6 => ?_
 refine dx ?_
 iterate 2 refine dy ?_
 simp only [pq]
 refine wn hK6 ?_
 refine wp_seq_k (fun K7 hK7 => ?_)
 refine wp_block ?_
 refine wp_loop_g (fun mm aa w9 => ∃ (i : Nat) (j : Nat) (u8 : Nat → Value), mm = j - i ∧ u8 = slots aa ∧ aa = ⟨#[(.slice a l.length c), (.agg #[(.slice x0q q.1.length y0q), (.slice x1q q.2.length y1q)]), (.func (.func 58) #[] #[]), undef, (pP n2 0), undef, (iI 0), bF, (nI l.length), (nI i), (nI j), (u8 11), (.slice a l.length c), (nI l.length), (nI l.length), (u8 15), (u8 16), (u8 17), (u8 18), (u8 19), (u8 20), (u8 21), (u8 22), (u8 23), (u8 24), (u8 25), (u8 26), (u8 27), (u8 28), (u8 29), (u8 30), (u8 31), (u8 32), (u8 33), (u8 34), undef, undef, undef, undef, undef, undef, undef, undef, undef, undef, undef, undef, undef, undef], []⟩ ∧ St w F w9 F [⟨n2, [(.slice x0q q.1.length y0q), (.slice x1q q.2.length y1q)], 50⟩] [] ∧ (i ≤ j) ∧ (j ≤ l.length) ∧ (i ≤ posT l q.1) ∧ (posT l q.1 ≤ j)) _ ⟨0, l.length, _, rfl, rfl, rfl, S4, (by omega), (by omega), (by omega), (posBy_le _ _ _)⟩ ?_
 rintro m10 a11 w12 ⟨i, j, u8, rfl, -, rfl, S13, hij, hj, hip, hjp⟩ K15 hK15
 refine wp_seq_k (fun K16 hK16 => ?_)
 refine sk fun K17 hK17 => ?_
 iterate 2 refine dx ?_
 simp only [pq]
 by_cases hc17 : i < j
 ·refine lssT ?_
  refine wn hK17 ?_
  refine wp_cond_true rfl ?_
  refine wp_skip ?_
  refine hK16 _ _ ?_
  refine wp_block ?_
  refine sk fun K18 hK18 => ?_
  iterate 2 refine dx ?_
  refine dAdd (i + j) ?_
  simp only [pq]
  refine dr (.int .u64 (((i + j) : Nat) : Int)) (ex_convert (v := (nI (i + j))) rfl (conv_iu (i + j) (by omega) _)) ?_
  refine dr (.int .u64 (((i + j) / 2 : Nat) : Int)) (ex_shr (.inl rfl) rfl rfl (shr1_u (i + j) _ _)) ?_
  refine dr (.int .i64 (((i + j) / 2 : Nat) : Int)) (ex_convert (v := (.int .u64 (((i + j) / 2 : Nat) : Int))) rfl (conv_ui ((i + j) / 2) (by omega) _)) ?_
  simp only [pq]
  refine dy ?_
  refine wn hK18 ?_
  refine wp_seq_k (fun K19 hK19 => ?_)
  obtain ⟨p, hp⟩ : ∃ p, l[(i + j) / 2]? = some p := ⟨l[(i + j) / 2], List.getElem?_eq_getElem (by omega)⟩
  obtain ⟨b20, o21, ha22, xa24, xc25, xa28, xc29, c23, c27, r26, r30⟩ := Prs.get hv hp
  refine region_gw F 6 [] (by kernel_rfl) (by kernel_rfl) ?_
  simp only [List.take_succ_cons, List.take_zero]
  iterate 2 refine gm ?_
  simp only [pq]
  refine gm ?_
  refine gv (pP b20 (o21 + ((i + j) / 2) * 2)) (fun _ _ => ex_at (i := (i + j) / 2) (sz := 2) Tryz.underlying47 (sizeof_50 _) rfl ha22 rfl (by omega) rfl) ?_
  refine gv _ (fun _ C31 => ex_load rfl (loadM Tryz.underlying50 rfl (size_50) (range2 (St.fz (St.tells S13 C31) c23) (St.fz (St.tells S13 C31) c27)))) ?_
  simp only [pq]
  refine gv _ (fun _ C31 => ex_load rfl (loadM Tryz.underlying50 rfl (size_50) (St.range (St.tells S13 C31) (i := 0) rfl 0 [(.slice x0q q.1.length y0q), (.slice x1q q.2.length y1q)] (sub_range 0 rfl)))) ?_
  refine gw_nil ?_
  intro w32 hC34 hF35
  clear hF35
  have S33 := St.tells S13 hC34
  simp only [List.drop_succ_cons, List.drop_zero]
  refine stTells (v := (.int .i64 (cmpL p.1 q.1))) S33 rfl (ex_fv (fs := #[]) (cs := #[]) (vs := #[(.agg #[(.slice xa24 p.1.length xc25), (.slice xa28 p.2.length xc29)]), (.agg #[(.slice x0q q.1.length y0q), (.slice x1q q.2.length y1q)])]) rfl (vmap (fs := #[]) (cs := #[]) (xs := #[(.agg #[(.slice xa24 p.1.length xc25), (.slice xa28 p.2.length xc29)]), (.agg #[(.slice x0q q.1.length y0q), (.slice x1q q.2.length y1q)])]) (map2 rfl rfl) (by simp)) (ent_58 _ _)) (compare_spec _ _ _ _ p q (S33).sat ⟨_, _, _, _, rfl, r26, r30⟩ ⟨_, _, _, _, rfl, k0, k1⟩) (fun w36 S37 => ?_)
  simp only [pq]
  by_cases hc31 : (cmpL p.1 q.1) < (0 : Int)
  ·refine lssT ?_
   refine wl_nil (hK19 _ _ ?_)
   refine wp_cond_true rfl ?_
   refine region_wl ?_
   refine dx ?_
   refine dAdd ((i + j) / 2 + 1) ?_
   refine dy ?_
   simp only [pq]
   refine wl_nil ?_
   exact hK15 _ _ _ (by omega) ⟨((i + j) / 2 + 1), j, _, rfl, rfl, rfl, S37, (by have := pos_gt hr hp hc31; omega), (by omega), (pos_gt hr hp hc31), (by omega)⟩
  ·refine lssF ?_
   refine wl_nil (hK19 _ _ ?_)
   refine wp_cond_false rfl ?_
   refine region_wl ?_
   refine dx ?_
   refine dy ?_
   simp only [pq]
   refine wl_nil ?_
   exact hK15 _ _ _ (by omega) ⟨i, (i + j) / 2, _, rfl, rfl, rfl, S37, (by omega), (by omega), (by omega), (pos_le hp hc31)⟩
 ·refine lssF ?_
  refine wn hK17 ?_
  refine wp_cond_false rfl ?_
  refine wp_exit ?_
  refine hK7 _ _ ?_
  refine wp_seq_k (fun K38 hK38 => ?_)
  by_cases h0 : i < l.length
  ·have hip2 : posT l q.1 = i := by omega
   obtain ⟨p, hp⟩ : ∃ p, l[i]? = some p := ⟨l[i], List.getElem?_eq_getElem h0⟩
   obtain ⟨b39, o40, ha41, xa43, xc44, xa47, xc48, c42, c46, r45, r49⟩ := Prs.get hv hp
   by_cases hc47 : cmpL p.1 q.1 = 0
   ·refine region_gw F 15 [(11, .is (.int .i64 (cmpL p.1 q.1)))] (by kernel_rfl) (by kernel_rfl) ?_
    simp only [List.take_succ_cons, List.take_zero]
    iterate 2 refine gm ?_
    simp only [pq]
    refine gm ?_
    refine gv bT (fun _ _ => ex_lss (m := ((i : Nat) : Int)) (n := ((l.length : Nat) : Int)) (b := true) rfl rfl (decide_eq_true (by omega))) ?_
    refine gm ?_
    simp only [pq]
    iterate 3 refine gm ?_
    simp only [pq]
    refine gv (pP b39 (o40 + i * 2)) (fun _ _ => ex_at (i := i) (sz := 2) Tryz.underlying47 (sizeof_50 _) rfl ha41 rfl (by omega) rfl) ?_
    refine gv _ (fun _ C50 => ex_load rfl (loadM Tryz.underlying50 rfl (size_50) (range2 (St.fz (St.tells S13 C50) c42) (St.fz (St.tells S13 C50) c46)))) ?_
    refine gv _ (fun _ C50 => ex_load rfl (loadM Tryz.underlying50 rfl (size_50) (St.range (St.tells S13 C50) (i := 0) rfl 0 [(.slice x0q q.1.length y0q), (.slice x1q q.2.length y1q)] (sub_range 0 rfl)))) ?_
    simp only [pq]
    refine gw_const rfl rfl (v := (.int .i64 (cmpL p.1 q.1))) (fun w50 C50 _ => does_call (ex_fv (fs := #[]) (cs := #[]) (vs := #[(.agg #[(.slice xa43 p.1.length xc44), (.slice xa47 p.2.length xc48)]), (.agg #[(.slice x0q q.1.length y0q), (.slice x1q q.2.length y1q)])]) rfl (vmap (fs := #[]) (cs := #[]) (xs := #[(.agg #[(.slice xa43 p.1.length xc44), (.slice xa47 p.2.length xc48)]), (.agg #[(.slice x0q q.1.length y0q), (.slice x1q q.2.length y1q)])]) (map2 rfl rfl) (by simp)) (ent_58 _ _)) (call_tells (compare_spec _ _ _ _ p q ((St.tells S13 C50)).sat ⟨_, _, _, _, rfl, r45, r49⟩ ⟨_, _, _, _, rfl, k0, k1⟩))) ?_
    refine gv bT (fun _ _ => ex_eql (m := (cmpL p.1 q.1)) (n := (0 : Int)) (b := true) rfl rfl (beq_iff_eq.2 (by omega))) ?_
    refine gv bT (fun _ _ => ex_pick (b := true) rfl) ?_
    refine ga ?_
    simp only [pq]
    refine gw_nil ?_
    intro w51 hC53 hF54
    clear hF54
    have S52 := St.tells S13 hC53
    simp only [List.drop_succ_cons, List.drop_zero]
    refine dy ?_
    refine wl_nil (hK38 _ _ ?_)
    refine wp_ret ?_
    (try simp only [Exit.then, Exit.inBlock, ↓reduceIte, Nat.reduceEqDiff])
    refine bR (res_tt rfl (gD rfl) (gD rfl)) ?_
    ·have e2 := has_yes hr (by rw [hip2]; exact hp) hc47
     exact ⟨by rw [e2, hip2], S52.gr.below⟩
   ·refine region_gw F 15 [(11, .is (.int .i64 (cmpL p.1 q.1)))] (by kernel_rfl) (by kernel_rfl) ?_
    simp only [List.take_succ_cons, List.take_zero]
    iterate 2 refine gm ?_
    simp only [pq]
    refine gm ?_
    refine gv bT (fun _ _ => ex_lss (m := ((i : Nat) : Int)) (n := ((l.length : Nat) : Int)) (b := true) rfl rfl (decide_eq_true (by omega))) ?_
    refine gm ?_
    simp only [pq]
    iterate 3 refine gm ?_
    simp only [pq]
    refine gv (pP b39 (o40 + i * 2)) (fun _ _ => ex_at (i := i) (sz := 2) Tryz.underlying47 (sizeof_50 _) rfl ha41 rfl (by omega) rfl) ?_
    refine gv _ (fun _ C55 => ex_load rfl (loadM Tryz.underlying50 rfl (size_50) (range2 (St.fz (St.tells S13 C55) c42) (St.fz (St.tells S13 C55) c46)))) ?_
    refine gv _ (fun _ C55 => ex_load rfl (loadM Tryz.underlying50 rfl (size_50) (St.range (St.tells S13 C55) (i := 0) rfl 0 [(.slice x0q q.1.length y0q), (.slice x1q q.2.length y1q)] (sub_range 0 rfl)))) ?_
    simp only [pq]
    refine gw_const rfl rfl (v := (.int .i64 (cmpL p.1 q.1))) (fun w55 C55 _ => does_call (ex_fv (fs := #[]) (cs := #[]) (vs := #[(.agg #[(.slice xa43 p.1.length xc44), (.slice xa47 p.2.length xc48)]), (.agg #[(.slice x0q q.1.length y0q), (.slice x1q q.2.length y1q)])]) rfl (vmap (fs := #[]) (cs := #[]) (xs := #[(.agg #[(.slice xa43 p.1.length xc44), (.slice xa47 p.2.length xc48)]), (.agg #[(.slice x0q q.1.length y0q), (.slice x1q q.2.length y1q)])]) (map2 rfl rfl) (by simp)) (ent_58 _ _)) (call_tells (compare_spec _ _ _ _ p q ((St.tells S13 C55)).sat ⟨_, _, _, _, rfl, r45, r49⟩ ⟨_, _, _, _, rfl, k0, k1⟩))) ?_
    refine gv bF (fun _ _ => ex_eql (m := (cmpL p.1 q.1)) (n := (0 : Int)) (b := false) rfl rfl (beq_eq_false_iff_ne.2 (by omega))) ?_
    refine gv bF (fun _ _ => ex_pick (b := true) rfl) ?_
    refine ga ?_
    simp only [pq]
    refine gw_nil ?_
    intro w56 hC58 hF59
    clear hF59
    have S57 := St.tells S13 hC58
    simp only [List.drop_succ_cons, List.drop_zero]
    refine dy ?_
    refine wl_nil (hK38 _ _ ?_)
    refine wp_ret ?_
    (try simp only [Exit.then, Exit.inBlock, ↓reduceIte, Nat.reduceEqDiff])
    refine bR (res_tt rfl (gD rfl) (gD rfl)) ?_
    ·have e1 : posT l q.1 = i := by omega
     have e2 : hasT l q.1 = false := by first | exact has_no hr (by rw [e1]; assumption) (by assumption) | exact has_end hr (by omega)
     exact ⟨by rw [e2, e1], S57.gr.below⟩
  ·refine region_gw F 15 [] (by kernel_rfl) (by kernel_rfl) ?_
   simp only [List.take_succ_cons, List.take_zero]
   iterate 2 refine gm ?_
   simp only [pq]
   refine gm ?_
   refine gv bF (fun _ _ => ex_lss (m := ((i : Nat) : Int)) (n := ((l.length : Nat) : Int)) (b := false) rfl rfl (decide_eq_false (by omega))) ?_
   refine gm ?_
   simp only [pq]
   refine gw_skip (wanted_no rfl rfl rfl (c := false) rfl (by decide)) ?_
   simp only [pq]
   refine gw_skip (wanted_no rfl rfl rfl (c := false) rfl (by decide)) ?_
   simp only [pq]
   refine gw_skip (wanted_no rfl rfl rfl (c := false) rfl (by decide)) ?_
   simp only [pq]
   refine gw_skip (wanted_no rfl rfl rfl (c := false) rfl (by decide)) ?_
   simp only [pq]
   refine gw_skip (wanted_no rfl rfl rfl (c := false) rfl (by decide)) ?_
   simp only [pq]
   refine gw_skip (wanted_no rfl rfl rfl (c := false) rfl (by decide)) ?_
   simp only [pq]
   refine gw_skip (wanted_no rfl rfl rfl (c := false) rfl (by decide)) ?_
   simp only [pq]
   refine gw_skip (wanted_no rfl rfl rfl (c := false) rfl (by decide)) ?_
   refine gv bF (fun _ _ => ex_pick (b := false) rfl) ?_
   refine ga ?_
   refine gw_nil ?_
   intro w61 hC63 hF64
   clear hF64
   have S62 := St.tells S13 hC63
   simp only [List.drop_succ_cons, List.drop_zero]
   refine dy ?_
   simp only [pq]
   refine wl_nil (hK38 _ _ ?_)
   refine wp_ret ?_
   (try simp only [Exit.then, Exit.inBlock, ↓reduceIte, Nat.reduceEqDiff])
   refine bR (res_tt rfl (gD rfl) (gD rfl)) ?_
   ·have e1 : posT l q.1 = i := by omega
    have e2 : hasT l q.1 = false := by first | exact has_no hr (by rw [e1]; assumption) (by assumption) | exact has_end hr (by omega)
    exact ⟨by rw [e2, e1], S62.gr.below⟩
theorem find_spec (F : Fz) (w : World) (v u : Value) (l : List Pr) (k : By) (hs : Sat w F) (hv : Prs F v l) (hu : Bs F u k) (hr : Rise l) (hl : l.length ≤ 1000000) :
    Calls Tryz.prog 56 #[v, u] w (Tells w (.tuple #[.int .i64 (posT l k : Nat), .bool (hasT l k)])) := by
 obtain ⟨a, c, rfl, hc1, hc2⟩ := Sl.shape hv
 obtain ⟨a2, c2, rfl, _⟩ := hu.shape
 have S := St.start hs
 go_enter Tryz.func56, Tryz.ntmps56
 refine sk fun K1 hK1 => ?_
 iterate 2 refine dy ?_
 refine wn hK1 ?_
 refine sk fun K2 hK2 => ?_
 iterate 2 refine dx ?_
 refine dr (.agg #[(.slice a2 k.length c2), Zn]) (ex_build (bmap1 rfl) (by kernel_rfl)) ?_
 simp only [pq]
 refine stTells (v := (.tuple #[(nI (posT l k)), (.bool (hasT l k))])) S rfl (fn3 (ent_72 _ _)) (bsearch_spec _ _ _ _ l (k, []) (S).sat hv ⟨_, _, _, _, rfl, hu, Bs.nil _⟩ hr (by omega)) (fun w3 S4 => ?_)
 iterate 2 refine de ?_
 refine dy ?_
 simp only [pq]
 refine dy ?_
 refine wn hK2 ?_
 refine wp_ret ?_
 try simp only [xt]
 refine bR (res_tt rfl (gD rfl) (gD rfl)) ?_
 exact ⟨rfl, S4.gr.below⟩
/-- A finding. -/
def FndV (F : Fz) (u : Value) (o : Option By) : Prop := ∃ a c, u = .agg #[.bool o.isSome, .slice a (o.getD []).length c] ∧ Bs F (.slice a (o.getD []).length c) (o.getD [])
theorem FndV.mono {F F' : Fz} {u : Value} {o : Option By} (h : FndV F u o) (hl : Le F F') : FndV F' u o := by
 obtain ⟨a, c, rfl, h1⟩ := h; exact ⟨a, c, rfl, h1.mono hl⟩
def GetR (o : Option By) (e : Int) (F : Fz) (u : Value) : Prop := ∃ x, u = .tuple #[x, .int .i64 e] ∧ FndV F x o
theorem get_has {l : List Pr} (hr : Rise l) {k : By} {p : Pr} (h : hasT l k = true) (hp : l[posT l k]? = some p) : getT l k = some p.2 := by
 obtain ⟨hh, rfl⟩ := List.getElem?_eq_some_iff.1 hp
 obtain ⟨_, h2⟩ := (hasBy_at hr).1 h
 have := mem_getT hr (List.getElem_mem hh)
 rw [show l[posT l k].1 = k from h2] at this
 exact this
theorem get_not {α : Type} {l : List (By × α)} {k : By} (h : ¬ hasT l k = true) : getT l k = none := by
 rw [hasT_getT] at h
 cases e : getT l k with
 | none => rfl
 | some _ => rw [e] at h; exact absurd rfl h
theorem get_spec (F : Fz) (w : World) (v u : Value) (l : List Pr) (k : By) (hs : Sat w F) (hv : Prs F v l) (hu : Bs F u k) (ok1 : TreeOk 60 l) (hk1 : 1 ≤ k.length) (hk2 : k.length ≤ 16) :
    Calls Tryz.prog 39 #[v, u] w (Gives w F (GetR (getT l k) 0)) := by
 have ok := treeE_ok.2 ok1
 have okk := checkN_ok hk1 hk2
 obtain ⟨a, c, rfl, hc1, hc2⟩ := Sl.shape hv
 obtain ⟨a2, c2, rfl, _⟩ := hu.shape
 have S := St.start hs
 go_enter Tryz.func39, Tryz.ntmps39
 refine sk fun K1 hK1 => ?_
 refine sA S (zero_72 _) fun n2 w3 S4 => ?_
 refine dy ?_
 refine wn hK1 ?_
 refine wp_seq_k (fun K5 hK5 => ?_)
 refine sk fun K6 hK6 => ?_
 refine dx ?_
 simp only [pq]
 refine stTells (v := (.int .i64 (treeE l))) S4 rfl (fn1 (ent_43 _ _)) (treeCheck_spec _ _ _ l (S4).sat hv) (fun w7 S8 => ?_)
 refine dy ?_
 refine wn hK6 ?_
 refine sk fun K9 hK9 => ?_
 refine dx ?_
 refine dr bF (ex_neq (m := (treeE l)) (n := (0 : Int)) (b := false) rfl rfl (bne_eq_false_iff_eq.2 (ok))) ?_
 simp only [pq]
 refine wn hK9 ?_
 refine wp_cond_false rfl ?_
 refine wp_skip ?_
 refine hK5 _ _ ?_
 refine wp_seq_k (fun K10 hK10 => ?_)
 refine sk fun K11 hK11 => ?_
 refine dx ?_
 refine stTells (v := (.int .i64 (checkN k.length))) S8 rfl (fn1 (ent_55 _ _)) (tells_same (check_spec _ _ _ k hu)) (fun w12 S13 => ?_)
 refine dy ?_
 refine wn hK11 ?_
 refine sk fun K14 hK14 => ?_
 refine dx ?_
 refine dr bF (ex_neq (m := (checkN k.length)) (n := (0 : Int)) (b := false) rfl rfl (bne_eq_false_iff_eq.2 (okk))) ?_
 simp only [pq]
 refine wn hK14 ?_
 refine wp_cond_false rfl ?_
 refine wp_skip ?_
 refine hK10 _ _ ?_
 refine wp_seq_k (fun K15 hK15 => ?_)
 refine sk fun K16 hK16 => ?_
 iterate 2 refine dx ?_
 refine stTells (v := (.tuple #[(nI (posT l k)), (.bool (hasT l k))])) S13 rfl (fn2 (ent_56 _ _)) (find_spec _ _ _ _ l k (S13).sat hv hu ok1.rise (by have := ok1.len; omega)) (fun w17 S18 => ?_)
 refine dx ?_
 iterate 2 refine de ?_
 simp only [pq]
 iterate 2 refine dy ?_
 refine wn hK16 ?_
 refine sk fun K19 hK19 => ?_
 refine dx ?_
 simp only [pq]
 refine wn hK19 ?_
 refine wp_cond_split rfl (fun hc20 => ?_) (fun hc20 => ?_)
 refine sk fun K21 hK21 => ?_
 iterate 2 refine dx ?_
 simp only [pq]
 obtain ⟨hp0, _⟩ := (hasBy_at ok1.rise).1 hc20
 obtain ⟨p, hp⟩ : ∃ p, l[posT l k]? = some p := ⟨l[posT l k], List.getElem?_eq_getElem hp0⟩
 have hpo := ok1.ok p (List.mem_of_getElem? hp)
 have hpl := hpo.2.2
 obtain ⟨b22, o23, ha24, xa26, xc27, xa30, xc31, c25, c29, r28, r32⟩ := Prs.get hv hp
 refine dr (pP b22 (o23 + (posT l k) * 2)) (ex_at (i := (posT l k)) (sz := 2) Tryz.underlying47 (sizeof_50 _) rfl ha24 rfl (hp0) rfl) ?_
 refine df (fa_50_1 _ _) ?_
 refine dr _ (ex_load rfl (load1 (nagg_25 _) (St.fz S18 c29))) ?_
 simp only [pq]
 refine stGives S18 rfl (fn1 (ent_45 _ _)) (clone_spec _ _ _ p.2 (S18).sat r32 (by omega)) ?_
 intro v38 w33 F35 S34 le36 R37
 obtain ⟨xa39, xc40, rfl, _⟩ := R37.shape
 refine dr (.agg #[bT, (.slice xa39 p.2.length xc40)]) (ex_build (bmap2 rfl rfl) (by kernel_rfl)) ?_
 refine sW 0 S34 (size_72) fun w41 S42 => ?_
 refine dy ?_
 simp only [pq]
 refine wn hK21 ?_
 refine wp_ret ?_
 try simp only [xt]
 refine bR (res_ct rfl ⟨_, rfl, lR S42 0 Tryz.underlying72 (size_72)⟩ (gD rfl)) ?_
 rw [get_has ok1.rise hc20 hp]
 exact ⟨_, _, rfl, S42.gr, _, rfl, _, _, rfl, R37⟩
 refine wp_skip ?_
 refine hK15 _ _ ?_
 refine sk fun K43 hK43 => ?_
 refine dr (.agg #[bF, Zn]) (ex_build (bmap0) (by kernel_rfl)) ?_
 refine sW 0 S18 (size_72) fun w44 S45 => ?_
 refine dy ?_
 simp only [pq]
 refine wn hK43 ?_
 refine wp_ret ?_
 try simp only [xt]
 refine bR (res_ct rfl ⟨_, rfl, lR S45 0 Tryz.underlying72 (size_72)⟩ (gD rfl)) ?_
 rw [get_not (by rw [hc20]; simp)]
 exact ⟨_, _, rfl, S45.gr, _, rfl, _, _, rfl, Bs.nil _⟩
theorem cell_kept {W w' : World} {a : Addr} {v : Value} (h : Below W.heap.size W w') (hc : W.cell? a = some v) : w'.cell? a = some v := by
 have hlt : a.block < W.heap.size := by
  rcases Nat.lt_or_ge a.block W.heap.size with h' | h'
  ·exact h'
  ·simp [World.cell?, Array.getElem?_eq_none h'] at hc
 rw [← hc]
 unfold World.cell?
 rw [h.block a.block hlt]
section
variable {α : Type} {k E base : Nat} {R : Fz → List Value → α → Prop} {w : World} {F : Fz} {l : List α}
theorem Own.addr0 {a : Option Addr} {n c : Nat} (h : Own k R E base w F (.slice a n c) l) (hl : 0 < l.length) : ∃ g, a = some ⟨g, 0, none⟩ := by
 obtain ⟨g, cap, e, _⟩ := h.form hl
 injection e with e
 exact ⟨g, e⟩
theorem Own.at {a : Option Addr} {n c : Nat} (h : Own k R E base w F (.slice a n c) l) {i : Nat} {p : α} (hp : l[i]? = some p) : ∃ g cs, a = some ⟨g, 0, none⟩ ∧ cs.length = k ∧ R F cs p ∧ w.rangeAt g (i * k) cs := by
 obtain ⟨hi, rfl⟩ := List.getElem?_eq_some_iff.1 hp
 obtain ⟨el, ⟨e1, e2⟩, h2, h3⟩ := h.ex
 have hll := h2.len
 rcases e2 with ⟨e2, h0⟩ | ⟨g, cap, cur, e2, q0, hg, q1, q2, q3, q4⟩
 omega
 injection e2 with e2
 refine ⟨g, el[i]'(by omega), e2, h3 _ (List.getElem_mem _), h2.get i (by omega) hi, fun j u hu => ?_⟩
 have hj : j < k := by
  have := (List.getElem?_eq_some_iff.1 hu).1
  rwa [h3 _ (List.getElem_mem _)] at this
 have hf := flatten_at h3 i (by omega) j hj
 rw [← q4, List.getElem?_take] at hf
 rw [← hf] at hu
 split at hu
 simp only [World.cell?, hg]; simpa using hu
 cases hu
theorem Own.len {a : Option Addr} {n c : Nat} (h : Own k R E base w F (.slice a n c) l) : n = l.length := by
 obtain ⟨a', c', e, _⟩ := h.shape
 injection e
end
theorem tn_at {E base : Nat} {w : World} {F : Fz} {l : List (By × List Pr)} {a : Option Addr} {n c : Nat} (h : Own 2 TnC E base w F (.slice a n c) l) {i : Nat} {p : By × List Pr} (hp : l[i]? = some p) :
    ∃ g, a = some ⟨g, 0, none⟩ ∧ ∃ xa xc ya yc, w.cell? ⟨g, 0 + i * 2, none⟩ = some (.slice xa p.1.length xc) ∧ w.cell? ⟨g, 0 + i * 2 + 1, none⟩ = some (.slice ya p.2.length yc) ∧ Bs F (.slice xa p.1.length xc) p.1 ∧ Prs F (.slice ya p.2.length yc) p.2 := by
 obtain ⟨g, cs, e, _, ⟨x, y, rfl, r1, r2⟩, hr⟩ := h.at hp
 obtain ⟨xa, xc, rfl, _⟩ := r1.shape
 obtain ⟨ya, yc, rfl, _⟩ := Sl.shape r2
 refine ⟨g, e, xa, xc, ya, yc, ?_, ?_, r1, r2⟩
 have := hr 0 _ rfl; rw [Nat.zero_add]; simpa using this
 have := hr 1 _ rfl; rw [Nat.zero_add]; simpa using this
theorem stSetCell {P : Program} {w0 w : World} {F0 F : Fz} {L : List Blk} {M : List RowP} {α : Type} {k base E : Nat} {R : Fz → List Value → α → Prop} {hR : ∀ F F' x p, Le F F' → R F x p → R F' x p} {l : List α} {ops : Array Oper} {Q : Exit → Act → World → Prop} {a : Act} {rest : List Oper} {d : Option Tmp} {t T : TypeId} {x y : Operand} {pos : String} {after : Array Edge} {guard : Option (Nat × Bool)} {r g cap i j o n : Nat} {u : Value} {p : α} (S : St w0 F0 w F L M)
    (hw : Region.wanted ⟨d, .store T x y, t, pos, after, guard⟩ (yielded ops a.tmps) = true) (hx : a.eval x = .pointer (some ⟨g, o, none⟩)) (ho : o = i * k + j) (hjk : j < k) (hy : a.eval y = u) (hM : M[r]? = some (ownP k R hR E base (.slice (some ⟨g, 0, none⟩) n cap) l)) (hil : i < l.length)
    (hi : (P.info? T).map (·.size) = some 1) (h1 : u.oneCell' = true) (hu : u.cells = #[u]) (hp : ∀ cs (q : α), l[i]? = some q → R F cs q → R F (cs.set j u) p) (hb : w0.heap.size ≤ base)
    (h : ∀ w', St w0 F0 w' F L (M.set r (ownP k R hR E base (.slice (some ⟨g, 0, none⟩) n cap) (l.set i p))) → WL P ops Q rest (a.put d undef) w') : WL P ops Q (⟨d, .store T x y, t, pos, after, guard⟩ :: rest) a w := by
 obtain ⟨el, ⟨e1, e2⟩, h2, h3⟩ := (S.own hM).ex
 have hll := h2.len
 subst ho
 rcases e2 with ⟨e2, _⟩ | ⟨g', cap', cur, e2, q0, hg, q1, q2, q3, q4⟩
 cases e2
 injection e2 with e2 e2n e2c
 injection e2 with e2
 injection e2 with e2
 subst e2; subst e2n; subst e2c
 have hcl : cur.toList.length = cap * k := by simpa using q3
 have hkl : (i + 1) * k ≤ l.length * k := Nat.mul_le_mul_right k (by omega)
 have hlc : l.length * k ≤ cap * k := Nat.mul_le_mul_right k q1
 rw [Nat.add_mul, Nat.one_mul] at hkl
 have hle : i * k + j + 1 ≤ cur.toList.length := by rw [hcl]; omega
 have ht : w.there g (i * k + j) u.cells.size := by
  intro m hm
  rw [hu] at hm
  simp at hm
  subst hm
  have : i * k + j < cur.size := by simp at hle; omega
  exact ⟨by simp [World.cell?, hg, this], by simp [World.frozen?, hg]⟩
 have hst := storeV (P := P) (T := T) (v := u) (by rw [hu]; exact hi) ht (by rw [hu]; simp [h1])
 have hgrown : w.grownBy (w.setCells g (i * k + j) u.cells.toList) (Value.slice (some ⟨g, 0, none⟩) l.length cap).ownBlock := by
  have hb' := below_setCells (B := 0) (Nat.zero_le g) u.cells.toList (i * k + j) w w (Below.refl 0 w)
  exact ⟨hb'.os, hb'.tape, hb'.output, hb'.size, fun b hb1 hb2 => heap_setCells_past _ _ _ (fun e => hb2 (by rw [e]; rfl))⟩
 have hheap := heap_setCells (n := g) (T := E) (fr := (0, 0)) u.cells.toList (i * k + j) w cur.toList (by simpa using hg) (by rw [hu]; simpa using hle)
 have hxl : el[i]'(by omega) ∈ el := List.getElem_mem _
 have hel := h3 _ hxl
 have hown : Own k R E base (w.setCells g (i * k + j) u.cells.toList) F (.slice (some ⟨g, 0, none⟩) l.length cap) (l.set i p) := by
  refine ⟨⟨el.set i ((el[i]'(by omega)).set j u), ⟨?_, .inr ⟨g, cap, _, by rw [List.length_set], q0, hheap, by rw [List.length_set]; exact q1, q2, ?_, ?_⟩⟩, allR_set h2 (hp _ _ (List.getElem?_eq_getElem hil) (h2.get i (by omega) hil)), fun y hy => ?_⟩, (S.own hM).out⟩
  rw [flatten_len (fun y hy => ?_), List.length_set, List.length_set, hll]
  rcases List.mem_or_eq_of_mem_set hy with hy | rfl
  exact h3 y hy
  rw [List.length_set]; exact hel
  rw [List.size_toArray, splice_len (by rw [hu]; simpa using hle), hcl]
  rw [List.length_set, flatten_set h3 (by omega) (by rw [List.length_set]; exact hel), ← q4]
  have hei : el[i]'(by omega) = (cur.toList.drop (i * k)).take k := by
   have hf : ∀ m, m < k → (el[i]'(by omega))[m]? = cur.toList[i * k + m]? := fun m hm => by
    have := flatten_at h3 i (by omega) m hm
    rw [← this, ← q4, List.getElem?_take, if_pos (by omega)]
   apply List.ext_getElem?
   intro m
   rcases Nat.lt_or_ge m k with hm | hm
   rw [hf m hm, List.getElem?_take, if_pos hm, List.getElem?_drop]
   rw [List.getElem?_eq_none (by omega), List.getElem?_take, if_neg (by omega)]
  rw [hei, hu]
  unfold splice
  have hcl2 : cap * k ≤ cur.toList.length := by omega
  apply List.ext_getElem?
  intro m
  simp only [List.getElem?_append, List.getElem?_take, List.getElem?_drop, List.length_take, List.length_append, List.getElem?_set, List.length_set, List.length_drop, List.length_singleton]
  grind
  rcases List.mem_or_eq_of_mem_set hy with hy | rfl
  exact h3 y hy
  rw [List.length_set]; exact hel
 refine doS hw (ex_store hx (by rw [hy]; exact hst)) (h _ (S.grown hM hb hgrown hown (fun g' hg' => .inl hg')))
theorem does_lit {P : Program} {o : Oper} {a : Act} {W w : World} {F F1 : Fz} {α : Type} {k : Nat} {R : Fz → List Value → α → Prop} {hR : ∀ F F' x p, Le F F' → R F x p → R F' x p} {cs : List Value} {p : α} {E : TypeId} (g : Gr W F w F1) (hp : R F1 cs p) (hk : cs.length = k)
    (hr : (execOp a.eval o).run P w = .ok (.value (.slice (some ⟨w.heap.size, 0, none⟩) 1 1)) (w.alloc (.cells cs.toArray E))) : Does P o a w (RelPost (Made W F fun F' u => Sl k R F' u [p]) w) := by
 unfold Does
 rw [hr]
 have g2 := g.new (.cells cs.toArray E)
 have g3 := g2.add (g := w.heap.size) g.below.size
 have hle : Le F1 (addF F1 (w.alloc (.cells cs.toArray E)) w.heap.size) := fun b o hb => addF_le _ _ _ _ _ hb
 refine ⟨⟨_, g3, sl_of_block (R := R) (l := [p]) (c := cs) (el := [cs]) (fun j v hj => ?_) (by simp) ⟨hR _ _ _ _ hle hp, trivial⟩ (by simpa using hk) (show [p].length ≤ maxLen by simp [maxLen])⟩, (Below.refl _ _).alloc (Nat.le_refl _) _⟩
 unfold cellF addF
 rw [g.sat.out (Nat.le_refl _)]
 simp only [if_true, heap_alloc_new]
 simpa using hj
/-! A block that is made in a region that draws its order. -/
def NewAt (W : World) (cs : List Value) (T : TypeId) (v : Value) (w : World) : Prop := ∃ n, v = .pointer (some ⟨n, 0, none⟩) ∧ W.heap.size ≤ n ∧ w.heap[n]? = some (.cells cs.toArray T (0, 0))
theorem NewAt.stable (W : World) (cs : List Value) (T : TypeId) : ∀ v w w', NewAt W cs T v w → Below w.heap.size w w' → NewAt W cs T v w' := by
 rintro v w w' ⟨n, h1, h2, h3⟩ hb
 exact ⟨n, h1, h2, heap_kept hb h3⟩
theorem does_alloc {P : Program} {d : Option Tmp} {t T : TypeId} {pos : String} {after : Array Edge} {guard : Option (Nat × Bool)} {a : Act} {w W : World} {z : Value} {cs : List Value} (hz : (zeroValue T).run P w = .ok z w) (hc : z.cells = cs.toArray) (hC : Below W.heap.size W w) : Does P ⟨d, .alloc T, t, pos, after, guard⟩ a w (RelPost (NewAt W cs T) w) := by
 unfold Does
 rw [ex_alloc hz]
 refine ⟨⟨w.heap.size, rfl, hC.size, ?_⟩, (Below.refl _ _).alloc (Nat.le_refl _) _⟩
 rw [hc]
 exact heap_alloc_new w _
theorem Facts.getR {W : World} {F : Fz} {L : List (Nat × Mark)} {Vs : Vals} {w : World} (h : Facts (specOf W F L) Vs w) (i : Nat) {v : Value} {R : Value → World → Prop} (hv : Vs i = some v) (hL : specOf W F L i = .rel R) : R v w := by
 have := h i v hv
 rw [hL] at this
 exact this
def dropF (F : Fz) (n : Nat) : Fz := fun b => if b = n then none else F b
theorem dropF_at (F : Fz) (n : Nat) : dropF F n n = none := by simp [dropF]
theorem Gr.dropF {W w : World} {F F' : Fz} (g : Gr W F w F') (hs : Sat W F) {n : Nat} (hn : W.heap.size ≤ n) : Gr W F w (dropF F' n) :=
  ⟨g.below, fun b hb => by unfold Proofs.YtilgpdpooildcaaGreatDoor.dropF; rw [if_neg (by omega)]; exact g.old b hb, fun b o hb => by
    unfold Proofs.YtilgpdpooildcaaGreatDoor.dropF at hb
    split at hb
    · cases hb
    · exact g.sat b o hb⟩
theorem Bs.dropF {w : World} {F : Fz} {n : Nat} {cs : List Value} {T : TypeId} (hs : Sat w F) (hb : w.heap[n]? = some (.cells cs.toArray T (0, 0))) (hc : ∀ u ∈ cs, ∀ x, u ≠ bv x) {v : Value} {l : List UInt8} (h : Bs F v l) : Bs (dropF F n) v l := by
 obtain ⟨a, c, h1, h2, h3, h4, h5⟩ := h
 refine ⟨a, c, h1, h2, h3, h4, ?_⟩
 rcases h5 with h5 | ⟨b, o, e, h6⟩
 exact .inl h5
 by_cases hbn : b = n
 cases l with
 | nil => exact .inl rfl
 | cons x l =>
  exfalso
  have h0 := h6 0 (bv x) rfl
  subst hbn
  unfold cellF at h0
  split at h0
  rename_i c0 t0 fr0 hF
  have := hs _ _ hF
  rw [hb] at this
  cases this
  have hm : bv x ∈ cs := by
   have : cs[o + 0]? = some (bv x) := by simpa using h0
   exact List.mem_of_getElem? this
  exact hc _ hm x rfl
  cases h0
 refine .inr ⟨b, o, e, fun j u hu => ?_⟩
 have := h6 j u hu
 unfold cellF Proofs.YtilgpdpooildcaaGreatDoor.dropF at *
 rw [if_neg hbn]
 exact this
theorem Pr2V.dropF {w : World} {F : Fz} {n : Nat} {cs : List Value} {T : TypeId} (hs : Sat w F) (hb : w.heap[n]? = some (.cells cs.toArray T (0, 0))) (hc : ∀ u ∈ cs, ∀ x, u ≠ bv x) {v : Value} {p : Pr} (h : Pr2V F v p) : Pr2V (Proofs.YtilgpdpooildcaaGreatDoor.dropF F n) v p := by
 obtain ⟨x0, y0, x1, y1, rfl, h0, h1⟩ := h
 exact ⟨x0, y0, x1, y1, rfl, h0.dropF hs hb hc, h1.dropF hs hb hc⟩
theorem WrV.dropF {w : World} {F : Fz} {n : Nat} {cs : List Value} {T : TypeId} (hs : Sat w F) (hb : w.heap[n]? = some (.cells cs.toArray T (0, 0))) (hc : ∀ u ∈ cs, ∀ x, u ≠ bv x) {v : Value} {p : Wr} (h : WrV F v p) : WrV (Proofs.YtilgpdpooildcaaGreatDoor.dropF F n) v p := by
 obtain ⟨x0, y0, x1, y1, x3, y3, rfl, h0, h1, h3⟩ := h
 exact ⟨x0, y0, x1, y1, x3, y3, rfl, h0.dropF hs hb hc, h1.dropF hs hb hc, h3.dropF hs hb hc⟩
theorem RdV.dropF {w : World} {F : Fz} {n : Nat} {cs : List Value} {T : TypeId} (hs : Sat w F) (hb : w.heap[n]? = some (.cells cs.toArray T (0, 0))) (hc : ∀ u ∈ cs, ∀ x, u ≠ bv x) {v : Value} {p : Rd} (h : RdV F v p) : RdV (Proofs.YtilgpdpooildcaaGreatDoor.dropF F n) v p := by
 obtain ⟨x0, y0, x1, y1, x3, y3, rfl, h0, h1, h3⟩ := h
 exact ⟨x0, y0, x1, y1, x3, y3, rfl, h0.dropF hs hb hc, h1.dropF hs hb hc, h3.dropF hs hb hc⟩
theorem does_val {P : Program} {o : Oper} {a : Act} {w : World} {v : Value} {R : Value → World → Prop} (h : (execOp a.eval o).run P w = .ok (.value v) w) (hR : R v w) (hb : Below w.heap.size w w) : Does P o a w (RelPost R w) := by
 unfold Does
 rw [h]
 exact ⟨hR, hb⟩
theorem St.addBlk {w0 W w : World} {F0 F F' : Fz} {L : List Blk} {M : List RowP} (S : St w0 F0 W F L M) (g : Gr W F w F') {n : Nat} {cs : List Value} {T : TypeId} (hn : W.heap.size ≤ n) (hF : F' n = none) (hb : w.heap[n]? = some (.cells cs.toArray T (0, 0))) : St w0 F0 w F' (⟨n, cs, T⟩ :: L) M := by
 have S' := S.gives g
 refine ⟨S'.gr, fun x hx => ?_, S'.row, ?_, fun r hr x hx => ?_, S'.rr⟩
 rcases List.mem_cons.1 hx with rfl | hx
 exact ⟨hb, hF, Nat.le_trans S.gr.below.size hn⟩
 exact S'.blk x hx
 refine List.pairwise_cons.2 ⟨fun y hy => ?_, S'.bb⟩
 have := S.blk_lt hy
 simp only
 omega
 rcases List.mem_cons.1 hx with rfl | hx
 intro e
 have := ((S.row r hr).2 _ e).1
 simp at this
 omega
 exact S'.rb r hr x hx
end Go.Proofs.YtilgpdpooildcaaGreatDoor
