/- Rules, plain laws and walks: S4 S5 S6 TY R2 N1 P10 P11 T1a T1b T2 -/
import Derived.Test.YtikklmjengkliaaDoorCB2
import Derived.Laws.IdiomCopy
import Derived.ArgAppend
import Derived.Lib.AppendZerosOnto
import Derived.Lib.Overlaps
import Derived.Laws.MakeOwn
import Derived.Test.YtikklmjengkliaaDoorCB1
import Derived.Lib.SmallJoins
import Derived.Lib.Bytealg
namespace Go.Proofs.YtikklmjengkliaaDoor
open Go.RowKit
set_option linter.unusedVariables false
section
variable {P : Program} {w0 w w' : World} {F0 F : Fz} {L : List Blk} {M : List RowP} {α : Type} {k base E : Nat} {R : Fz → List Value → α → Prop} {hR : ∀ F F' x p, Le F F' → R F x p → R F' x p} {v : Value} {l : List α}
theorem St.other (S : St w0 F0 w F L M) {r : Nat} {p : RowP} (hM : M[r]? = some p) : ∀ s ∈ M.eraseIdx r, ∀ g, p.ob = some g → s.ob ≠ some g := by
  obtain ⟨hi, he⟩ := List.getElem?_eq_some_iff.1 hM
  intro s hs g hg hc
  obtain ⟨k', hk, rfl⟩ := List.mem_iff_getElem.1 hs
  have hp := List.pairwise_iff_getElem.1 S.rr
  rw [List.length_eraseIdx, if_pos hi] at hk
  rw [List.getElem_eraseIdx] at hc
  split at hc
  · rename_i hlt
    have := hp k' r (by omega) hi hlt g hc; rw [he] at this; exact this hg
  · rename_i hge
    have := hp r (k' + 1) hi (by omega) (by omega) g (by rw [he]; exact hg); exact this hc
/-- A row of the call's own as a block whose cells are known. -/
theorem St.rowBlk {r g n cap : Nat} (S : St w0 F0 w F L M) (hM : M[r]? = some (ownP k R hR E base (.slice (some ⟨g, 0, none⟩) n cap) l)) :
    ∃ c el, St w0 F0 w F (⟨g, c, E⟩ :: L) (M.eraseIdx r) ∧ n = l.length ∧ n ≤ cap ∧ cap ≤ maxLen ∧ c.length = cap * k ∧ c.take (n * k) = el.flatten ∧ AllR (R F) el l ∧ (∀ x ∈ el, x.length = k) ∧ base ≤ g := by
  have hown := S.own hM
  obtain ⟨hi, he⟩ := List.getElem?_eq_some_iff.1 hM
  have hm : ownP k R hR E base (.slice (some ⟨g, 0, none⟩) n cap) l ∈ M := by rw [← he]; exact List.getElem_mem hi
  obtain ⟨el, ⟨e1, e2⟩, h2, h3⟩ := hown.ex
  have hsub := List.eraseIdx_sublist M r
  have hr0 := (S.row _ hm).2 g rfl
  rcases e2 with ⟨e2, _⟩ | ⟨g', cap', cur, e2, q0, hg, q1, q2, q3, q4⟩
  · cases e2
  · injection e2 with e2 e2n e2c
    injection e2 with e2
    injection e2 with e2
    subst e2; subst e2n; subst e2c
    refine ⟨cur.toList, el, ⟨S.gr, fun x hx => ?_, fun s hs => S.row s (hsub.subset hs), ?_, fun s hs x hx => ?_, S.rr.sublist hsub⟩, rfl, q1, q2, by simpa using q3, q4, h2, h3, q0⟩
    · rcases List.mem_cons.1 hx with rfl | hx
      · exact ⟨by simpa using hg, hr0.2.1, hr0.2.2⟩
      · exact S.blk x hx
    · exact List.pairwise_cons.2 ⟨fun x hx e => S.rb _ hm x hx (congrArg some e), S.bb⟩
    · rcases List.mem_cons.1 hx with rfl | hx
      · exact S.other hM s hs g rfl
      · exact S.rb s (hsub.subset hs) x hx
theorem St.blkRow {g cap : Nat} {c : List Value} (S : St w0 F0 w F (⟨g, c, E⟩ :: L) M) {el : List (List Value)} (hc : c.take (l.length * k) = el.flatten) (h2 : AllR (R F) el l) (h3 : ∀ x ∈ el, x.length = k) (h4 : c.length = cap * k) (h5 : l.length ≤ cap) (h6 : cap ≤ maxLen) (hb : base ≤ g) : St w0 F0 w F L (ownP k R hR E base (.slice (some ⟨g, 0, none⟩) l.length cap) l :: M) := by
  have hb0 := S.blk ⟨g, c, E⟩ (by simp)
  have hbb := List.pairwise_cons.1 S.bb
  refine ⟨S.gr, fun x hx => S.blk x (by simp [hx]), fun r hr => ?_, hbb.2, fun r hr x hx => ?_, List.pairwise_cons.2 ⟨fun s hs b hb' hc' => ?_, S.rr⟩⟩
  · rcases List.mem_cons.1 hr with rfl | hr
    · refine ⟨⟨⟨el, ⟨?_, .inr ⟨g, cap, c.toArray, rfl, hb, hb0.1, h5, h6, by simpa using h4, by simpa using hc⟩⟩, h2, h3⟩, fun b e => ?_⟩, fun b e => ?_⟩
      · rw [flatten_len h3, h2.len]
      · cases e; exact hb0.2.1
      · cases e; exact ⟨S.blk_lt (x := ⟨g, c, E⟩) (by simp), hb0.2⟩
    · exact S.row r hr
  · rcases List.mem_cons.1 hr with rfl | hr
    · intro e; cases e; exact hbb.1 x hx rfl
    · exact S.rb r hr x (by simp [hx])
  · cases hb'; exact S.rb s hs ⟨g, c, E⟩ (by simp) hc'
theorem run_copyN (w : World) (dT sT ty elem : TypeId) (b o dLen dCap k : Nat) (a : Addr) (sLen sCap m : Nat) (cs : List Value)
    (hu : P.underlying dT = some (.slice elem)) (hs : (P.info? elem).map (·.size) = some k) (hn : Nat.min sLen dLen = m) (hl : cs.length = m * k)
    (hsrc : ∀ j v, cs[j]? = some v → w.cell? (a.add j) = some v) (ht : w.there b o cs.length) (h1 : ∀ v ∈ cs, v.oneCell' = true) :
    (Builtin.copy_ #[dT, sT] ty #[.slice (some ⟨b, o, none⟩) dLen dCap, .slice (some a) sLen sCap]).run P w = .ok (.int .i64 (m : Int)) (w.setCells b o cs) := by
  have hf := run_firstCells_some (P := P) w k m a sLen sCap cs hl hsrc
  have hst := run_storeCells_cells (P := P) b o cs 0 w (fun j hj => by simpa using (ht j hj).1) (fun j hj => by simpa using (ht j hj).2) h1
  cases hq : P.info? elem with
  | none => simp [hq] at hs
  | some i =>
    have hi : i.size = k := by simpa [hq] using hs
    simp [Builtin.copy_, run_underlying hu, Builtin.lenOf, sizeOf, typeInfo, hq, hi, hn, hf, hst]
    rfl
/-- 'copy' into a block of the call's own. -/
theorem stCopy {ops : Array Oper} {Q : Exit → Act → World → Prop} {a : Act} {rest : List Oper} {d : Option Tmp} {t dT sT elem : TypeId} {x y : Operand} {pos : String} {after : Array Edge} {guard : Option (Nat × Bool)} {i g j dl dc sl sc : Nat} {T : TypeId} {c : List Value} {ad : Addr} (m : Nat) (cs : List Value) (S : St w0 F0 w F L M)
    (hw : Region.wanted ⟨d, .call ⟨.builtin .copy, #[x, y], #[dT, sT]⟩, t, pos, after, guard⟩ (yielded ops a.tmps) = true) (hu : P.underlying dT = some (.slice elem)) (hz : (P.info? elem).map (·.size) = some k)
    (hx : a.eval x = .slice (some ⟨g, j, none⟩) dl dc) (hy : a.eval y = .slice (some ad) sl sc) (hL : L[i]? = some ⟨g, c, T⟩) (hm : Nat.min sl dl = m) (hl : cs.length = m * k) (hfit : j + cs.length ≤ c.length)
    (hsrc : ∀ q u, cs[q]? = some u → w.cell? (ad.add q) = some u) (h1 : ∀ u ∈ cs, u.oneCell' = true)
    (h : ∀ w', St w0 F0 w' F (L.set i ⟨g, splice c j cs, T⟩) M → WL P ops Q rest (a.put d (.int .i64 (m : Int))) w') : WL P ops Q (⟨d, .call ⟨.builtin .copy, #[x, y], #[dT, sT]⟩, t, pos, after, guard⟩ :: rest) a w := by
  have hrun := run_copyN (P := P) w dT sT t elem g j dl dc k ad sl sc m cs hu hz hm hl hsrc (S.there hL j cs.length hfit) h1
  refine do_ hw _ ?_ (h _ (S.store hL j cs hfit))
  simp only [execOp, resolve, invoke, builtin, Sem.run_bind, Sem.run_pure, Result.andThen_ok, List.map_toArray, List.map_cons, List.map_nil, hx, hy, hrun]
theorem run_clearN (w : World) (t e ty : TypeId) (z : Value) (ht : P.underlying t = some (.slice e)) (hv : ∀ w, (zeroValue e).run P w = .ok z w) (b o n c : Nat) (zs : List Value) (hz : (Builtin.zeroCells z.cells n).toList = zs) (hn : 0 < n)
    (hth : w.there b o zs.length) (h1 : ∀ v ∈ zs, v.oneCell' = true) :
    (Builtin.clear_ #[t] ty #[.slice (some ⟨b, o, none⟩) n c]).run P w = .ok (.tuple #[]) (w.setCells b o zs) := by
  have hst := run_storeCells_cells (P := P) b o zs 0 w (fun j hj => by simpa using (hth j hj).1) (fun j hj => by simpa using (hth j hj).2) h1
  simp only [Nat.add_zero] at hst
  obtain ⟨m, rfl⟩ : ∃ m, n = m + 1 := ⟨n - 1, by omega⟩
  simp [Builtin.clear_, run_underlying ht, hv, hz, hst]
/-- 'clear' in a block of the call's own. -/
theorem stClear {ops : Array Oper} {Q : Exit → Act → World → Prop} {a : Act} {rest : List Oper} {d : Option Tmp} {t sT elem : TypeId} {x : Operand} {pos : String} {after : Array Edge} {guard : Option (Nat × Bool)} {i g j n cp : Nat} {T : TypeId} {c : List Value} (z : Value) (zs : List Value) (S : St w0 F0 w F L M)
    (hw : Region.wanted ⟨d, .call ⟨.builtin .clear, #[x], #[sT]⟩, t, pos, after, guard⟩ (yielded ops a.tmps) = true) (hu : P.underlying sT = some (.slice elem)) (hv : ∀ w, (zeroValue elem).run P w = .ok z w) (hz : (Builtin.zeroCells z.cells n).toList = zs)
    (hx : a.eval x = .slice (some ⟨g, j, none⟩) n cp) (hn : 0 < n) (hL : L[i]? = some ⟨g, c, T⟩) (hfit : j + zs.length ≤ c.length) (h1 : ∀ u ∈ zs, u.oneCell' = true)
    (h : ∀ w', St w0 F0 w' F (L.set i ⟨g, splice c j zs, T⟩) M → WL P ops Q rest (a.put d (.tuple #[])) w') : WL P ops Q (⟨d, .call ⟨.builtin .clear, #[x], #[sT]⟩, t, pos, after, guard⟩ :: rest) a w := by
  have hrun := run_clearN (P := P) w sT elem t z hu hv g j n cp zs hz hn (S.there hL j zs.length hfit) h1
  refine do_ hw _ ?_ (h _ (S.store hL j zs hfit))
  simp only [execOp, resolve, invoke, builtin, Sem.run_bind, Sem.run_pure, Result.andThen_ok, List.map_toArray, List.map_cons, List.map_nil, hx, hrun]
/-- 'make([]T, n)'. -/
theorem stMake {ops : Array Oper} {Q : Exit → Act → World → Prop} {a : Act} {rest : List Oper} {d : Option Tmp} {t T E : TypeId} {x y : Operand} {pos : String} {after : Array Edge} {guard : Option (Nat × Bool)} {n m : Nat} (S : St w0 F0 w F L M)
    (hw : Region.wanted ⟨d, .makeSlice T x y, t, pos, after, guard⟩ (yielded ops a.tmps) = true) (inf : TypeInfo) (z : Value) (bytes : Nat) (ht : P.underlying T = some (.slice E)) (hi : P.info? E = some inf) (hz : inf.zero = some z) (hsize : inf.size = k) (hby : inf.bytes = bytes)
    (hx : a.eval x = .int .i64 (n : Int)) (hy : a.eval y = .int .i64 (m : Int)) (hnm : n ≤ m) (hb : bytes * m ≤ 281474976710656) (h63 : m ≤ 9223372036854775807)
    (h : ∀ g w', St w0 F0 w' F (⟨g, (madeCells z.cells (m * k)).toList, E⟩ :: L) M → WL P ops Q rest (a.put d (.slice (some ⟨g, 0, none⟩) n m)) w') : WL P ops Q (⟨d, .makeSlice T x y, t, pos, after, guard⟩ :: rest) a w := by
  subst hsize
  subst hby
  have hb' : (inf.bytes : Int) * (m : Int) ≤ 281474976710656 := by
    have h : ((inf.bytes * m : Nat) : Int) ≤ 281474976710656 := by omega
    rwa [Int.natCast_mul] at h
  have hrun := run_make (P := P) w T E inf z ht hi hz .i64 .i64 (n : Int) (m : Int) (by omega) (by omega) hb' (by omega)
  simp only [Int.toNat_natCast] at hrun
  refine do_ hw _ ?_ (h _ _ (S.alloc _ _))
  simp only [execOp, hx, hy, Sem.run_bind, hrun, Result.andThen_ok, Sem.run_pure]
/-- 'append(s, make([]T, m)...)' where there is no room: a new block. -/
theorem stGrow {ops : Array Oper} {Q : Exit → Act → World → Prop} {a : Act} {rest : List Oper} {d : Option Tmp} {t T I E : TypeId} {x s : Operand} {pos : String} {after : Array Edge} {guard : Option (Nat × Bool)} {n m cap : Nat} {b : Addr} (nm : Nat) (olds : List Value) (S : St w0 F0 w F L M)
    (hw : Region.wanted ⟨d, .call ⟨.builtin .append, #[s, x], #[T, I]⟩, t, pos, after, guard⟩ (yielded ops a.tmps) = true)
    (inf : TypeInfo) (z : Value) (bytes : Nat) (ht : P.underlying T = some (.slice E)) (htI : P.underlying I = some (.int .i64)) (hi : P.info? E = some inf) (hz : inf.zero = some z) (hsize : inf.size = k) (hby : inf.bytes = bytes) (hzs : z.cells.size = k) (hk : 0 < k)
    (hs : a.eval s = .slice (some b) n cap) (hx : a.eval x = .int .i64 (m : Int)) (hm : 0 < m) (hlo : olds.length = n * k) (ho : ∀ q u, olds[q]? = some u → w.cell? (b.add q) = some u)
    (hnm : n + m = nm) (hgrow : cap < nm) (h63 : nm ≤ maxLen) (hbytes : nm * bytes ≤ 140737488355328)
    (h : ∀ g cap' news more w', nm ≤ cap' → cap' ≤ maxLen → news.length = m * k → (olds ++ news ++ more).length = cap' * k → St w0 F0 w' F (⟨g, olds ++ news ++ more, E⟩ :: L) M → WL P ops Q rest (a.put d (.slice (some ⟨g, 0, none⟩) nm cap')) w') : WL P ops Q (⟨d, .call ⟨.builtin .append, #[s, x], #[T, I]⟩, t, pos, after, guard⟩ :: rest) a w := by
  subst hnm
  subst hsize
  subst hby
  have hsmall : n + m ≤ 9223372036854775807 := by simp only [maxLen] at h63; omega
  have hold := run_firstCells_some (P := P) w.drew inf.size n b n cap olds hlo ho
  have hmb : m * inf.bytes ≤ 281474976710656 := by
    have := Nat.mul_le_mul_right inf.bytes (show m ≤ n + m by omega)
    omega
  have hrun := Lib.run_append_grow_zeros (P := P) w T I t E inf z .i64 .i64 ht htI hi hz (some b) n cap olds hold m hm hk hgrow (by omega) hmb (growslice_fits hgrow hbytes)
  have hge := grownCap_ge w (n + m) cap E
  have hcm : grownCap w (n + m) cap E ≤ maxLen := grownCap_le_maxLen w (n + m) cap E h63
  have S2 := (S.tells (show Below w.heap.size w w.drew from (Below.refl _ _).drew)).alloc (olds.toArray ++ Builtin.zeroCells z.cells m ++ Builtin.zeroCells z.cells (grownCap w (n + m) cap E - (n + m))) E
  have e : (olds.toArray ++ Builtin.zeroCells z.cells m ++ Builtin.zeroCells z.cells (grownCap w (n + m) cap E - (n + m))).toList = olds ++ (Builtin.zeroCells z.cells m).toList ++ (Builtin.zeroCells z.cells (grownCap w (n + m) cap E - (n + m))).toList := by simp
  rw [e] at S2
  have hnl : (Builtin.zeroCells z.cells m).toList.length = m * inf.size := by rw [Array.length_toList, size_zeroCells, hzs]
  refine do_ hw _ ?_ (h _ _ _ _ _ hge hcm hnl ?_ S2)
  · simp only [execOp, resolve, invoke, builtin, Sem.run_bind, Sem.run_pure, Result.andThen_ok, List.map_toArray, List.map_cons, List.map_nil, hs, hx, hrun]
    rfl
  · have hzl : (Builtin.zeroCells z.cells (grownCap w (n + m) cap E - (n + m))).toList.length = (grownCap w (n + m) cap E - (n + m)) * inf.size := by rw [Array.length_toList, size_zeroCells, hzs]
    rw [List.length_append, List.length_append, hlo, hnl, hzl, ← Nat.add_mul, ← Nat.add_mul]
    congr 1
    omega
/-- 'append' where there is room, onto a block of the call's own. -/
theorem stRoom {ops : Array Oper} {Q : Exit → Act → World → Prop} {a : Act} {rest : List Oper} {d : Option Tmp} {t T E : TypeId} {x s : Operand} {pos : String} {after : Array Edge} {guard : Option (Nat × Bool)} {i g n m cap cp : Nat} {ad : Addr} {c : List Value} {T' : TypeId} (nm : Nat) (news : List Value) (S : St w0 F0 w F L M)
    (hw : Region.wanted ⟨d, .call ⟨.builtin .append, #[s, x], #[T, T]⟩, t, pos, after, guard⟩ (yielded ops a.tmps) = true)
    (inf : TypeInfo) (ht : P.underlying T = some (.slice E)) (hi : P.info? E = some inf) (hsize : inf.size = k)
    (hs : a.eval s = .slice (some ⟨g, 0, none⟩) n cap) (hx : a.eval x = .slice (some ad) m cp) (hL : L[i]? = some ⟨g, c, T'⟩) (hln : news.length = m * k) (hn : ∀ q u, news[q]? = some u → w.cell? (ad.add q) = some u) (h1 : ∀ u ∈ news, u.oneCell' = true)
    (hnm : n + m = nm) (hroom : nm ≤ cap) (hfit : n * k + news.length ≤ c.length)
    (h : ∀ w', St w0 F0 w' F (L.set i ⟨g, splice c (n * k) news, T'⟩) M → WL P ops Q rest (a.put d (.slice (some ⟨g, 0, none⟩) nm cap)) w') : WL P ops Q (⟨d, .call ⟨.builtin .append, #[s, x], #[T, T]⟩, t, pos, after, guard⟩ :: rest) a w := by
  subst hnm
  subst hsize
  have ht0 := S.there hL (n * inf.size) news.length hfit
  have hrun := run_append_room_cells (P := P) w T t E inf ht hi g 0 n cap ad m cp news hln hn h1 hroom (fun j hj => by simpa using (ht0 j hj).1) (fun j hj => by simpa using (ht0 j hj).2)
  rw [Nat.zero_add] at hrun
  refine do_ hw _ ?_ (h _ (S.store hL (n * inf.size) news hfit))
  simp only [execOp, resolve, invoke, builtin, Sem.run_bind, Sem.run_pure, Result.andThen_ok, List.map_toArray, List.map_cons, List.map_nil, hs, hx, hrun]
end
/-- A call that turns the caller's own. -/
theorem stOwn {P : Program} {w0 w : World} {F0 F : Fz} {ops : Array Oper} {Q : Exit → Act → World → Prop} {a : Act} {rest : List Oper} {o : Oper} {k : FuncId} {vs : Array Value} {L : List Blk} {M : Value → List RowP} (hw : Region.wanted o (yielded ops a.tmps) = true)
    (hr : (execOp a.eval o).run P w = .ok (.enter k vs) w) (hc : Calls P k vs w fun e w' => ∃ v, e = .returned v ∧ St w0 F0 w' F L (M v))
    (h : ∀ v w', St w0 F0 w' F L (M v) → WL P ops Q rest (a.put o.dst v) w') : WL P ops Q (o :: rest) a w :=
  doC hw hr hc fun e w' ⟨v, he, hS⟩ => ⟨v, he, h v w' hS⟩
end Go.Proofs.YtikklmjengkliaaDoor
namespace Go.Proofs.YtikklmjengkliaaDoor
open Go.RowKit
section
variable {k i n : Nat} {c zs vs : List Value} {el : List (List Value)}
theorem cut_ins (A B K : Nat) (hA : A ≤ B) (hc : B + K ≤ c.length) (hv : vs.length = K) :
    (splice (splice c (A + K) ((c.drop A).take (B - A))) A vs).take (B + K) = (c.take B).take A ++ (vs ++ (c.take B).drop A) := by
  unfold splice
  apply List.ext_getElem?
  intro j
  simp only [List.getElem?_append, List.getElem?_take, List.getElem?_drop, List.length_take, List.length_drop, List.length_append, hv]
  grind
theorem cut_grow (A B K : Nat) (hA : A ≤ B) {x : List Value} (hB : B ≤ c.length) (hx : x.length = B + K - A) {more : List Value} (hv : vs.length = K) :
    (splice (splice (c.take A ++ x ++ more) A vs) (A + K) ((c.drop A).take (B - A))).take (B + K) = (c.take B).take A ++ (vs ++ (c.take B).drop A) := by
  unfold splice
  apply List.ext_getElem?
  intro j
  simp only [List.getElem?_append, List.getElem?_take, List.getElem?_drop, List.length_take, List.length_drop, List.length_append, hv, hx]
  grind
theorem cut_del (A B K : Nat) (hA : A + K ≤ B) (hc : B ≤ c.length) (hz : zs.length = K) :
    (splice (splice c A ((c.drop (A + K)).take (B - (A + K)))) (B - K) zs).take (B - K) = (c.take B).take A ++ (c.take B).drop (A + K) := by
  unfold splice
  apply List.ext_getElem?
  intro j
  simp only [List.getElem?_append, List.getElem?_take, List.getElem?_drop, List.length_take, List.length_drop, List.length_append, hz]
  grind
variable (h3 : ∀ x ∈ el, x.length = k) (hc : c.take (n * k) = el.flatten)
include h3 hc
theorem cells_ins (hi : i ≤ n) (hl : (n + 1) * k ≤ c.length) (hv : vs.length = k) :
    (splice (splice c ((i + 1) * k) ((c.drop (i * k)).take ((n - i) * k))) (i * k) vs).take ((n + 1) * k) = (el.take i ++ vs :: el.drop i).flatten := by
  have hA : i * k ≤ n * k := Nat.mul_le_mul_right k hi
  have := cut_ins (c := c) (vs := vs) (i * k) (n * k) k hA (by rw [Nat.add_mul, Nat.one_mul] at hl; exact hl) hv
  rw [Nat.add_mul, Nat.one_mul, Nat.sub_mul, Nat.add_mul, Nat.one_mul, this, hc, List.flatten_append, List.flatten_cons, flatten_take h3, flatten_drop h3]
theorem cells_grow (hi : i ≤ n) (hl : n * k ≤ c.length) {x more : List Value} (hx : x.length = (n + 1 - i) * k) (hv : vs.length = k) :
    (splice (splice (c.take (i * k) ++ x ++ more) (i * k) vs) ((i + 1) * k) ((c.drop (i * k)).take ((n - i) * k))).take ((n + 1) * k) = (el.take i ++ vs :: el.drop i).flatten := by
  have hA : i * k ≤ n * k := Nat.mul_le_mul_right k hi
  have := cut_grow (c := c) (vs := vs) (x := x) (more := more) (i * k) (n * k) k hA hl (by rw [hx, Nat.sub_mul, Nat.add_mul, Nat.one_mul]) hv
  rw [Nat.add_mul, Nat.one_mul, Nat.sub_mul, Nat.add_mul, Nat.one_mul, this, hc, List.flatten_append, List.flatten_cons, flatten_take h3, flatten_drop h3]
theorem cells_del (hi : i < n) (hl : n * k ≤ c.length) (hz : zs.length = k) :
    (splice (splice c (i * k) ((c.drop ((i + 1) * k)).take ((n - (i + 1)) * k))) ((n - 1) * k) zs).take ((n - 1) * k) = (el.take i ++ el.drop (i + 1)).flatten := by
  have hA : (i + 1) * k ≤ n * k := Nat.mul_le_mul_right k hi
  rw [Nat.add_mul, Nat.one_mul] at hA
  have := cut_del (c := c) (zs := zs) (i * k) (n * k) k hA hl hz
  rw [Nat.add_mul, Nat.one_mul, Nat.sub_mul, Nat.sub_mul, Nat.add_mul, Nat.one_mul, this, hc, List.flatten_append, flatten_take h3, flatten_drop h3, Nat.add_mul, Nat.one_mul]
end
theorem St.src {w0 w : World} {F0 F : Fz} {L : List Blk} {M : List RowP} (S : St w0 F0 w F L M) {i n : Nat} {c : List Value} {T : TypeId} (hL : L[i]? = some ⟨n, c, T⟩) (j m : Nat) : ∀ q u, ((c.drop j).take m)[q]? = some u → w.cell? ((⟨n, j, none⟩ : Addr).add q) = some u := by
  intro q u hu
  rw [Addr.add_mid]
  rw [List.getElem?_take] at hu
  split at hu
  · rw [List.getElem?_drop] at hu
    exact S.cell hL hu
  · cases hu
theorem St.src0 {w0 w : World} {F0 F : Fz} {L : List Blk} {M : List RowP} (S : St w0 F0 w F L M) {i n : Nat} {c : List Value} {T : TypeId} (hL : L[i]? = some ⟨n, c, T⟩) : ∀ q u, c[q]? = some u → w.cell? ((⟨n, 0, none⟩ : Addr).add q) = some u := by
  intro q u hu
  rw [Addr.add_mid, Nat.zero_add]
  exact S.cell hL hu
theorem St.srcT {w0 w : World} {F0 F : Fz} {L : List Blk} {M : List RowP} (S : St w0 F0 w F L M) {i n : Nat} {c : List Value} {T : TypeId} (hL : L[i]? = some ⟨n, c, T⟩) (m : Nat) : ∀ q u, (c.take m)[q]? = some u → w.cell? ((⟨n, 0, none⟩ : Addr).add q) = some u := by
  intro q u hu
  rw [Addr.add_mid, Nat.zero_add]
  rw [List.getElem?_take] at hu
  split at hu
  · exact S.cell hL hu
  · cases hu
theorem one_mid {α : Type} {R : Fz → List Value → α → Prop} {F : Fz} {k : Nat} {c : List Value} {el : List (List Value)} {l : List α} (hone : ∀ F cs p, R F cs p → ∀ u ∈ cs, u.oneCell' = true) (hall : AllR (R F) el l) (hc : c.take (l.length * k) = el.flatten) (i : Nat) : ∀ u ∈ (c.drop (i * k)).take ((l.length - i) * k), u.oneCell' = true := by
  intro u hu
  have e : (c.drop (i * k)).take ((l.length - i) * k) = el.flatten.drop (i * k) := by
    rw [← hc, List.drop_take, Nat.sub_mul]
  rw [e] at hu
  obtain ⟨y, hy, huy⟩ := List.mem_flatten.1 (List.mem_of_mem_drop hu)
  obtain ⟨j, hj, rfl⟩ := List.mem_iff_getElem.1 hy
  exact hone _ _ _ (hall.get j hj (by rw [← hall.len]; exact hj)) u huy
theorem allR_insert {α : Type} {R : List Value → α → Prop} {xs : List (List Value)} {ps : List α} (h : AllR R xs ps) (i : Nat) {x : List Value} {p : α} (hx : R x p) : AllR R (xs.take i ++ x :: xs.drop i) (ps.take i ++ p :: ps.drop i) := (h.take i).append ⟨hx, h.drop i⟩
theorem allR_delete {α : Type} {R : List Value → α → Prop} {xs : List (List Value)} {ps : List α} (h : AllR R xs ps) (i : Nat) : AllR R (xs.take i ++ xs.drop (i + 1)) (ps.take i ++ ps.drop (i + 1)) := (h.take i).append (h.drop (i + 1))
theorem len_insert {el : List (List Value)} {k : Nat} (h : ∀ x ∈ el, x.length = k) (i : Nat) {x : List Value} (hx : x.length = k) : ∀ y ∈ el.take i ++ x :: el.drop i, y.length = k := by
  intro y hy
  rcases List.mem_append.1 hy with hy | hy
  · exact h y (List.mem_of_mem_take hy)
  · rcases List.mem_cons.1 hy with rfl | hy
    · exact hx
    · exact h y (List.mem_of_mem_drop hy)
theorem len_delete {el : List (List Value)} {k : Nat} (h : ∀ x ∈ el, x.length = k) (i : Nat) : ∀ y ∈ el.take i ++ el.drop (i + 1), y.length = k := by
  intro y hy
  rcases List.mem_append.1 hy with hy | hy
  · exact h y (List.mem_of_mem_take hy)
  · exact h y (List.mem_of_mem_drop hy)
end Go.Proofs.YtikklmjengkliaaDoor
namespace Go.Proofs.YtikklmjengkliaaDoor
open Go.RowKit
set_option linter.unusedVariables false
section
variable {P : Program} {ρ : Operand → Value} {w : World} {d : Option Tmp} {t X Y : TypeId} {pos : String} {after : Array Edge} {guard : Option (Nat × Bool)} {x y : Operand} {l m : List UInt8}
def strB (op : BinOp) (l m : List UInt8) : Bool := match op with | .lss => Op.bytesLess l m | .leq => Op.bytesLess l m || l == m | .gtr => !(Op.bytesLess l m || l == m) | .geq => !Op.bytesLess l m | .eql => l == m | _ => !(l == m)
theorem ex_strop {op : BinOp} {b : Bool} (hop : op = .lss ∨ op = .leq ∨ op = .gtr ∨ op = .geq ∨ op = .eql ∨ op = .neq) (hx : ρ x = .string ⟨l.toArray⟩) (hy : ρ y = .string ⟨m.toArray⟩)
    (h : strB op l m = b) :
    (execOp ρ ⟨d, .binOp op X x y Y, t, pos, after, guard⟩).run P w = .ok (.value (.bool b)) w := by
  subst h
  have e : (eqGuard op X x y (.string ⟨l.toArray⟩) (.string ⟨m.toArray⟩)).run P w = .ok () w := by
    unfold eqGuard
    rcases hop with rfl | rfl | rfl | rfl | rfl | rfl <;> rfl
  have e2 : (binOp op X (.string ⟨l.toArray⟩) (.string ⟨m.toArray⟩)).run P w = .ok (.bool (strB op l m)) w := by
    rcases hop with rfl | rfl | rfl | rfl | rfl | rfl <;> simp [binOp, Op.stringOp, strB]
  simp only [execOp, hx, hy, Sem.run_bind, e, Result.andThen_ok, e2, Sem.run_pure]
theorem ex_convert {v r : Value} (hx : ρ x = v) (h : (convert X Y v).run P w = .ok r w) : (execOp ρ ⟨d, .convert X Y x, t, pos, after, guard⟩).run P w = .ok (.value r) w := by
  subst hx
  simp only [execOp, Sem.run_bind, h, Result.andThen_ok, Sem.run_pure]
end
section
variable {P : Program} {ρ : Operand → Value} {w : World} {d : Option Tmp} {t X T : TypeId} {pos : String} {after : Array Edge} {guard : Option (Nat × Bool)} {x y : Operand} {k : IntKind} {m n r : Int}
theorem ex_cap {E : TypeId} {A : Option Addr} {l c : Nat} (hT : P.underlying T = some (.slice E)) (h : ρ x = .slice A l c) : (execOp ρ ⟨d, .call ⟨.builtin .cap, #[x], #[T]⟩, t, pos, after, guard⟩).run P w = .ok (.value (.int .i64 c)) w := by
  simp [execOp, resolve, invoke, builtin, Builtin.cap_, h, run_underlying hT w]; rfl
/-- x[l:h:m] -/
theorem ex_slice3 {E : TypeId} {A : Option Addr} {n c : Nat} {lo hi mx : Operand} {l h m : Nat} {sz : Nat} {v : Value} (hX : P.underlying X = some (.slice E)) (hx : ρ x = .slice A n c) (hsz : (sizeOf E).run P w = .ok sz w)
    (hl : ρ lo = .int .i64 l) (hh : ρ hi = .int .i64 h) (hm : ρ mx = .int .i64 m) (h1 : l ≤ h) (h2 : h ≤ m) (h3 : m ≤ c)
    (hv : v = .slice (if m = l then A else A.map (·.add (l * sz))) (h - l) (m - l)) : (execOp ρ ⟨d, .slice X x (some lo) (some hi) (some mx), t, pos, after, guard⟩).run P w = .ok (.value v) w := by
  subst hv
  have b1 : ∀ (z y : Nat) (code : BoundsCode), z ≤ y → (Instr.sliceBound (.int .i64 z) y code).run P w = .ok z w := by
    intro z y code hzy
    have : (0 : Int) ≤ (z : Int) ∧ (z : Int) ≤ (y : Int) := by omega
    simp [Instr.sliceBound, asIntOf, this]
  have hb : (Instr.sliceBounds true n c (some (ρ lo)) (some (ρ hi)) (some (ρ mx))).run P w = .ok (l, h, m) w := by
    simp [Instr.sliceBounds, hl, hh, hm, b1 _ _ _ h1, b1 _ _ _ h2, b1 _ _ _ h3]
  have hs : (Instr.sliceAt X (.slice A n c) (some (ρ lo)) (some (ρ hi)) (some (ρ mx))).run P w = .ok (.slice (if m = l then A else A.map (·.add (l * sz))) (h - l) (m - l)) w := by
    simp [Instr.sliceAt, Sem.run_bind, run_underlying hX w, Instr.slice, hb, hsz]
  simp [execOp, hx, hs]
end
/-- A block of bytes that is done with. -/
theorem bs_of_block {F : Fz} {n : Nat} {c : List Value} {l : List UInt8} (h : ∀ j v, c[j]? = some v → cellF F n j = some v) (e : c = l.map bv) (hl : l.length ≤ maxLen) : Bs F (.slice (some ⟨n, 0, none⟩) l.length l.length) l := by
  subst e
  exact Rw.of_cells (Nat.le_refl _) hl fun j u hu => by rw [Nat.zero_add]; exact h j u hu
/-- A block of structs that is done with. -/
theorem sl_of_block {α : Type} {k : Nat} {R : Fz → List Value → α → Prop} {F : Fz} {n : Nat} {c : List Value} {el : List (List Value)} {l : List α} (h : ∀ j v, c[j]? = some v → cellF F n j = some v) (e : c = el.flatten) (hR : AllR (R F) el l) (hk : ∀ x ∈ el, x.length = k) (hl : l.length ≤ maxLen) : Sl k R F (.slice (some ⟨n, 0, none⟩) l.length l.length) l := by
  subst e
  exact ⟨el, Rw.of_cells (Nat.le_refl _) hl fun j u hu => by rw [Nat.zero_add]; exact h j u hu, hR, hk⟩
end Go.Proofs.YtikklmjengkliaaDoor
namespace Go.Proofs.YtikklmjengkliaaDoor
open Go.RowKit
set_option maxRecDepth 100000
theorem nagg_3 (w : World) : (isAgg 3).run Tryd.prog w = .ok false w := by kernel_rfl
theorem size_3 : (Tryd.prog.info? 3).map (·.size) = some 1 := by kernel_rfl
theorem zero_3 (w : World) : (zeroValue 3).run Tryd.prog w = .ok (.int .i64 0) w := by kernel_rfl
theorem sizeof_3 (w : World) : (sizeOf 3).run Tryd.prog w = .ok 1 w := by kernel_rfl
theorem nagg_4 (w : World) : (isAgg 4).run Tryd.prog w = .ok false w := by kernel_rfl
theorem size_4 : (Tryd.prog.info? 4).map (·.size) = some 1 := by kernel_rfl
theorem nagg_5 (w : World) : (isAgg 5).run Tryd.prog w = .ok false w := by kernel_rfl
theorem size_5 : (Tryd.prog.info? 5).map (·.size) = some 1 := by kernel_rfl
theorem sizeof_5 (w : World) : (sizeOf 5).run Tryd.prog w = .ok 1 w := by kernel_rfl
theorem nagg_23 (w : World) : (isAgg 23).run Tryd.prog w = .ok false w := by kernel_rfl
theorem size_23 : (Tryd.prog.info? 23).map (·.size) = some 1 := by kernel_rfl
theorem zero_23 (w : World) : (zeroValue 23).run Tryd.prog w = .ok (.slice none 0 0) w := by kernel_rfl
theorem sizeof_23 (w : World) : (sizeOf 23).run Tryd.prog w = .ok 1 w := by kernel_rfl
theorem nagg_26 (w : World) : (isAgg 26).run Tryd.prog w = .ok false w := by kernel_rfl
theorem size_26 : (Tryd.prog.info? 26).map (·.size) = some 1 := by kernel_rfl
theorem nagg_47 (w : World) : (isAgg 47).run Tryd.prog w = .ok false w := by kernel_rfl
theorem size_47 : (Tryd.prog.info? 47).map (·.size) = some 1 := by kernel_rfl
theorem size_34 : (Tryd.prog.info? 34).map (·.size) = some 2 := by kernel_rfl
theorem zero_34 (w : World) : (zeroValue 34).run Tryd.prog w = .ok (.agg #[.slice none 0 0, .slice none 0 0]) w := by kernel_rfl
theorem sizeof_34 (w : World) : (sizeOf 34).run Tryd.prog w = .ok 2 w := by kernel_rfl
theorem info_34 : (Tryd.prog.info? 34).map (fun i => (i.zero, i.size, i.bytes)) = some (some (.agg #[.slice none 0 0, .slice none 0 0]), 2, 48) := by kernel_rfl
theorem fa_34_0 (b o : Nat) (w : World) : (Instr.fieldAt 34 (.pointer (some ⟨b, o, none⟩)) 0).run Tryd.prog w = .ok (.pointer (some ⟨b, o, none⟩)) w := by go_simp
theorem fa_34_1 (b o : Nat) (w : World) : (Instr.fieldAt 34 (.pointer (some ⟨b, o, none⟩)) 1).run Tryd.prog w = .ok (.pointer (some ⟨b, o + 1, none⟩)) w := by go_simp
theorem size_28 : (Tryd.prog.info? 28).map (·.size) = some 2 := by kernel_rfl
theorem zero_28 (w : World) : (zeroValue 28).run Tryd.prog w = .ok (.agg #[.slice none 0 0, .slice none 0 0]) w := by kernel_rfl
theorem sizeof_28 (w : World) : (sizeOf 28).run Tryd.prog w = .ok 2 w := by kernel_rfl
theorem info_28 : (Tryd.prog.info? 28).map (fun i => (i.zero, i.size, i.bytes)) = some (some (.agg #[.slice none 0 0, .slice none 0 0]), 2, 48) := by kernel_rfl
theorem fa_28_0 (b o : Nat) (w : World) : (Instr.fieldAt 28 (.pointer (some ⟨b, o, none⟩)) 0).run Tryd.prog w = .ok (.pointer (some ⟨b, o, none⟩)) w := by go_simp
theorem fa_28_1 (b o : Nat) (w : World) : (Instr.fieldAt 28 (.pointer (some ⟨b, o, none⟩)) 1).run Tryd.prog w = .ok (.pointer (some ⟨b, o + 1, none⟩)) w := by go_simp
theorem size_53 : (Tryd.prog.info? 53).map (·.size) = some 2 := by kernel_rfl
theorem zero_53 (w : World) : (zeroValue 53).run Tryd.prog w = .ok (.agg #[.bool false, .slice none 0 0]) w := by kernel_rfl
theorem fa_53_0 (b o : Nat) (w : World) : (Instr.fieldAt 53 (.pointer (some ⟨b, o, none⟩)) 0).run Tryd.prog w = .ok (.pointer (some ⟨b, o, none⟩)) w := by go_simp
theorem fa_53_1 (b o : Nat) (w : World) : (Instr.fieldAt 53 (.pointer (some ⟨b, o, none⟩)) 1).run Tryd.prog w = .ok (.pointer (some ⟨b, o + 1, none⟩)) w := by go_simp
theorem size_36 : (Tryd.prog.info? 36).map (·.size) = some 4 := by kernel_rfl
theorem zero_36 (w : World) : (zeroValue 36).run Tryd.prog w = .ok (.agg #[.slice none 0 0, .slice none 0 0, .bool false, .slice none 0 0]) w := by kernel_rfl
theorem sizeof_36 (w : World) : (sizeOf 36).run Tryd.prog w = .ok 4 w := by kernel_rfl
theorem info_36 : (Tryd.prog.info? 36).map (fun i => (i.zero, i.size, i.bytes)) = some (some (.agg #[.slice none 0 0, .slice none 0 0, .bool false, .slice none 0 0]), 4, 80) := by kernel_rfl
theorem fa_36_0 (b o : Nat) (w : World) : (Instr.fieldAt 36 (.pointer (some ⟨b, o, none⟩)) 0).run Tryd.prog w = .ok (.pointer (some ⟨b, o, none⟩)) w := by go_simp
theorem fa_36_1 (b o : Nat) (w : World) : (Instr.fieldAt 36 (.pointer (some ⟨b, o, none⟩)) 1).run Tryd.prog w = .ok (.pointer (some ⟨b, o + 1, none⟩)) w := by go_simp
theorem fa_36_2 (b o : Nat) (w : World) : (Instr.fieldAt 36 (.pointer (some ⟨b, o, none⟩)) 2).run Tryd.prog w = .ok (.pointer (some ⟨b, o + 2, none⟩)) w := by go_simp
theorem fa_36_3 (b o : Nat) (w : World) : (Instr.fieldAt 36 (.pointer (some ⟨b, o, none⟩)) 3).run Tryd.prog w = .ok (.pointer (some ⟨b, o + 3, none⟩)) w := by go_simp
theorem size_127 : (Tryd.prog.info? 127).map (·.size) = some 3 := by kernel_rfl
theorem zero_127 (w : World) : (zeroValue 127).run Tryd.prog w = .ok (.agg #[.int .i64 0, .bool false, .slice none 0 0]) w := by kernel_rfl
theorem sizeof_127 (w : World) : (sizeOf 127).run Tryd.prog w = .ok 3 w := by kernel_rfl
theorem info_127 : (Tryd.prog.info? 127).map (fun i => (i.zero, i.size, i.bytes)) = some (some (.agg #[.int .i64 0, .bool false, .slice none 0 0]), 3, 40) := by kernel_rfl
theorem fa_127_0 (b o : Nat) (w : World) : (Instr.fieldAt 127 (.pointer (some ⟨b, o, none⟩)) 0).run Tryd.prog w = .ok (.pointer (some ⟨b, o, none⟩)) w := by go_simp
theorem fa_127_1 (b o : Nat) (w : World) : (Instr.fieldAt 127 (.pointer (some ⟨b, o, none⟩)) 1).run Tryd.prog w = .ok (.pointer (some ⟨b, o + 1, none⟩)) w := by go_simp
theorem fa_127_2 (b o : Nat) (w : World) : (Instr.fieldAt 127 (.pointer (some ⟨b, o, none⟩)) 2).run Tryd.prog w = .ok (.pointer (some ⟨b, o + 2, none⟩)) w := by go_simp
theorem size_49 : (Tryd.prog.info? 49).map (·.size) = some 4 := by kernel_rfl
theorem zero_49 (w : World) : (zeroValue 49).run Tryd.prog w = .ok (.agg #[.bool false, .slice none 0 0, .slice none 0 0, .slice none 0 0]) w := by kernel_rfl
theorem fa_49_0 (b o : Nat) (w : World) : (Instr.fieldAt 49 (.pointer (some ⟨b, o, none⟩)) 0).run Tryd.prog w = .ok (.pointer (some ⟨b, o, none⟩)) w := by go_simp
theorem fa_49_1 (b o : Nat) (w : World) : (Instr.fieldAt 49 (.pointer (some ⟨b, o, none⟩)) 1).run Tryd.prog w = .ok (.pointer (some ⟨b, o + 1, none⟩)) w := by go_simp
theorem fa_49_2 (b o : Nat) (w : World) : (Instr.fieldAt 49 (.pointer (some ⟨b, o, none⟩)) 2).run Tryd.prog w = .ok (.pointer (some ⟨b, o + 2, none⟩)) w := by go_simp
theorem size_45 : (Tryd.prog.info? 45).map (·.size) = some 4 := by kernel_rfl
theorem sizeof_45 (w : World) : (sizeOf 45).run Tryd.prog w = .ok 4 w := by kernel_rfl
theorem fa_45_0 (b o : Nat) (w : World) : (Instr.fieldAt 45 (.pointer (some ⟨b, o, none⟩)) 0).run Tryd.prog w = .ok (.pointer (some ⟨b, o, none⟩)) w := by go_simp
theorem fa_45_1 (b o : Nat) (w : World) : (Instr.fieldAt 45 (.pointer (some ⟨b, o, none⟩)) 1).run Tryd.prog w = .ok (.pointer (some ⟨b, o + 1, none⟩)) w := by go_simp
theorem fa_45_2 (b o : Nat) (w : World) : (Instr.fieldAt 45 (.pointer (some ⟨b, o, none⟩)) 2).run Tryd.prog w = .ok (.pointer (some ⟨b, o + 2, none⟩)) w := by go_simp
theorem fa_45_3 (b o : Nat) (w : World) : (Instr.fieldAt 45 (.pointer (some ⟨b, o, none⟩)) 3).run Tryd.prog w = .ok (.pointer (some ⟨b, o + 3, none⟩)) w := by go_simp
theorem ent_100 (vs : Array Value) (w : World) : (callFunc 100 vs).run Tryd.prog w = .ok (.enter 100 vs) w := by kernel_rfl
theorem ent_101 (vs : Array Value) (w : World) : (callFunc 101 vs).run Tryd.prog w = .ok (.enter 101 vs) w := by kernel_rfl
theorem ent_102 (vs : Array Value) (w : World) : (callFunc 102 vs).run Tryd.prog w = .ok (.enter 102 vs) w := by kernel_rfl
theorem ent_106 (vs : Array Value) (w : World) : (callFunc 106 vs).run Tryd.prog w = .ok (.enter 106 vs) w := by kernel_rfl
theorem ent_107 (vs : Array Value) (w : World) : (callFunc 107 vs).run Tryd.prog w = .ok (.enter 107 vs) w := by kernel_rfl
theorem ent_14 (vs : Array Value) (w : World) : (callFunc 14 vs).run Tryd.prog w = .ok (.enter 14 vs) w := by kernel_rfl
theorem ent_16 (vs : Array Value) (w : World) : (callFunc 16 vs).run Tryd.prog w = .ok (.enter 16 vs) w := by kernel_rfl
theorem ent_17 (vs : Array Value) (w : World) : (callFunc 17 vs).run Tryd.prog w = .ok (.enter 17 vs) w := by kernel_rfl
theorem ent_18 (vs : Array Value) (w : World) : (callFunc 18 vs).run Tryd.prog w = .ok (.enter 18 vs) w := by kernel_rfl
theorem ent_19 (vs : Array Value) (w : World) : (callFunc 19 vs).run Tryd.prog w = .ok (.enter 19 vs) w := by kernel_rfl
theorem ent_20 (vs : Array Value) (w : World) : (callFunc 20 vs).run Tryd.prog w = .ok (.enter 20 vs) w := by kernel_rfl
theorem ent_21 (vs : Array Value) (w : World) : (callFunc 21 vs).run Tryd.prog w = .ok (.enter 21 vs) w := by kernel_rfl
theorem ent_22 (vs : Array Value) (w : World) : (callFunc 22 vs).run Tryd.prog w = .ok (.enter 22 vs) w := by kernel_rfl
theorem ent_23 (vs : Array Value) (w : World) : (callFunc 23 vs).run Tryd.prog w = .ok (.enter 23 vs) w := by kernel_rfl
theorem ent_24 (vs : Array Value) (w : World) : (callFunc 24 vs).run Tryd.prog w = .ok (.enter 24 vs) w := by kernel_rfl
theorem ent_37 (vs : Array Value) (w : World) : (callFunc 37 vs).run Tryd.prog w = .ok (.enter 37 vs) w := by kernel_rfl
theorem ent_38 (vs : Array Value) (w : World) : (callFunc 38 vs).run Tryd.prog w = .ok (.enter 38 vs) w := by kernel_rfl
theorem ent_39 (vs : Array Value) (w : World) : (callFunc 39 vs).run Tryd.prog w = .ok (.enter 39 vs) w := by kernel_rfl
theorem ent_40 (vs : Array Value) (w : World) : (callFunc 40 vs).run Tryd.prog w = .ok (.enter 40 vs) w := by kernel_rfl
theorem ent_41 (vs : Array Value) (w : World) : (callFunc 41 vs).run Tryd.prog w = .ok (.enter 41 vs) w := by kernel_rfl
theorem ent_42 (vs : Array Value) (w : World) : (callFunc 42 vs).run Tryd.prog w = .ok (.enter 42 vs) w := by kernel_rfl
theorem ent_43 (vs : Array Value) (w : World) : (callFunc 43 vs).run Tryd.prog w = .ok (.enter 43 vs) w := by kernel_rfl
theorem ent_44 (vs : Array Value) (w : World) : (callFunc 44 vs).run Tryd.prog w = .ok (.enter 44 vs) w := by kernel_rfl
theorem ent_45 (vs : Array Value) (w : World) : (callFunc 45 vs).run Tryd.prog w = .ok (.enter 45 vs) w := by kernel_rfl
theorem ent_46 (vs : Array Value) (w : World) : (callFunc 46 vs).run Tryd.prog w = .ok (.enter 46 vs) w := by kernel_rfl
theorem ent_47 (vs : Array Value) (w : World) : (callFunc 47 vs).run Tryd.prog w = .ok (.enter 47 vs) w := by kernel_rfl
theorem ent_48 (vs : Array Value) (w : World) : (callFunc 48 vs).run Tryd.prog w = .ok (.enter 48 vs) w := by kernel_rfl
theorem ent_49 (vs : Array Value) (w : World) : (callFunc 49 vs).run Tryd.prog w = .ok (.enter 49 vs) w := by kernel_rfl
theorem ent_50 (vs : Array Value) (w : World) : (callFunc 50 vs).run Tryd.prog w = .ok (.enter 50 vs) w := by kernel_rfl
theorem ent_51 (vs : Array Value) (w : World) : (callFunc 51 vs).run Tryd.prog w = .ok (.enter 51 vs) w := by kernel_rfl
theorem ent_52 (vs : Array Value) (w : World) : (callFunc 52 vs).run Tryd.prog w = .ok (.enter 52 vs) w := by kernel_rfl
theorem ent_53 (vs : Array Value) (w : World) : (callFunc 53 vs).run Tryd.prog w = .ok (.enter 53 vs) w := by kernel_rfl
theorem ent_63 (vs : Array Value) (w : World) : (callFunc 63 vs).run Tryd.prog w = .ok (.enter 63 vs) w := by kernel_rfl
theorem ent_64 (vs : Array Value) (w : World) : (callFunc 64 vs).run Tryd.prog w = .ok (.enter 64 vs) w := by kernel_rfl
theorem ent_65 (vs : Array Value) (w : World) : (callFunc 65 vs).run Tryd.prog w = .ok (.enter 65 vs) w := by kernel_rfl
theorem ent_66 (vs : Array Value) (w : World) : (callFunc 66 vs).run Tryd.prog w = .ok (.enter 66 vs) w := by kernel_rfl
theorem ent_67 (vs : Array Value) (w : World) : (callFunc 67 vs).run Tryd.prog w = .ok (.enter 67 vs) w := by kernel_rfl
theorem ent_68 (vs : Array Value) (w : World) : (callFunc 68 vs).run Tryd.prog w = .ok (.enter 68 vs) w := by kernel_rfl
theorem ent_69 (vs : Array Value) (w : World) : (callFunc 69 vs).run Tryd.prog w = .ok (.enter 69 vs) w := by kernel_rfl
theorem ent_70 (vs : Array Value) (w : World) : (callFunc 70 vs).run Tryd.prog w = .ok (.enter 70 vs) w := by kernel_rfl
theorem ent_71 (vs : Array Value) (w : World) : (callFunc 71 vs).run Tryd.prog w = .ok (.enter 71 vs) w := by kernel_rfl
theorem ent_72 (vs : Array Value) (w : World) : (callFunc 72 vs).run Tryd.prog w = .ok (.enter 72 vs) w := by kernel_rfl
theorem ent_73 (vs : Array Value) (w : World) : (callFunc 73 vs).run Tryd.prog w = .ok (.enter 73 vs) w := by kernel_rfl
theorem ent_74 (vs : Array Value) (w : World) : (callFunc 74 vs).run Tryd.prog w = .ok (.enter 74 vs) w := by kernel_rfl
theorem ent_75 (vs : Array Value) (w : World) : (callFunc 75 vs).run Tryd.prog w = .ok (.enter 75 vs) w := by kernel_rfl
theorem ent_76 (vs : Array Value) (w : World) : (callFunc 76 vs).run Tryd.prog w = .ok (.enter 76 vs) w := by kernel_rfl
theorem ent_77 (vs : Array Value) (w : World) : (callFunc 77 vs).run Tryd.prog w = .ok (.enter 77 vs) w := by kernel_rfl
theorem ent_78 (vs : Array Value) (w : World) : (callFunc 78 vs).run Tryd.prog w = .ok (.enter 78 vs) w := by kernel_rfl
theorem ent_79 (vs : Array Value) (w : World) : (callFunc 79 vs).run Tryd.prog w = .ok (.enter 79 vs) w := by kernel_rfl
theorem ent_80 (vs : Array Value) (w : World) : (callFunc 80 vs).run Tryd.prog w = .ok (.enter 80 vs) w := by kernel_rfl
theorem ent_81 (vs : Array Value) (w : World) : (callFunc 81 vs).run Tryd.prog w = .ok (.enter 81 vs) w := by kernel_rfl
theorem ent_82 (vs : Array Value) (w : World) : (callFunc 82 vs).run Tryd.prog w = .ok (.enter 82 vs) w := by kernel_rfl
theorem ent_83 (vs : Array Value) (w : World) : (callFunc 83 vs).run Tryd.prog w = .ok (.enter 83 vs) w := by kernel_rfl
theorem ent_87 (vs : Array Value) (w : World) : (callFunc 87 vs).run Tryd.prog w = .ok (.enter 87 vs) w := by kernel_rfl
theorem ent_88 (vs : Array Value) (w : World) : (callFunc 88 vs).run Tryd.prog w = .ok (.enter 88 vs) w := by kernel_rfl
theorem ent_89 (vs : Array Value) (w : World) : (callFunc 89 vs).run Tryd.prog w = .ok (.enter 89 vs) w := by kernel_rfl
theorem ent_90 (vs : Array Value) (w : World) : (callFunc 90 vs).run Tryd.prog w = .ok (.enter 90 vs) w := by kernel_rfl
theorem ent_91 (vs : Array Value) (w : World) : (callFunc 91 vs).run Tryd.prog w = .ok (.enter 91 vs) w := by kernel_rfl
theorem ent_92 (vs : Array Value) (w : World) : (callFunc 92 vs).run Tryd.prog w = .ok (.enter 92 vs) w := by kernel_rfl
theorem ent_95 (vs : Array Value) (w : World) : (callFunc 95 vs).run Tryd.prog w = .ok (.enter 95 vs) w := by kernel_rfl
theorem ent_96 (vs : Array Value) (w : World) : (callFunc 96 vs).run Tryd.prog w = .ok (.enter 96 vs) w := by kernel_rfl
theorem ent_97 (vs : Array Value) (w : World) : (callFunc 97 vs).run Tryd.prog w = .ok (.enter 97 vs) w := by kernel_rfl
theorem ent_98 (vs : Array Value) (w : World) : (callFunc 98 vs).run Tryd.prog w = .ok (.enter 98 vs) w := by kernel_rfl
end Go.Proofs.YtikklmjengkliaaDoor
namespace Go.Proofs.YtikklmjengkliaaDoor
open Go.ChangeShapes Go.WideShapes Go.ChangeAt Go.RowKit Go.Deep
theorem list4 {α : Type} {cs : List α} (h : cs.length = 4) : ∃ a b c d, cs = [a, b, c, d] := by
  match cs, h with
  | [a, b, c, d], _ => exact ⟨a, b, c, d, rfl⟩
section
variable {H : Type} {enc : TypeId × Value → H} {P : Program} {w : World}
theorem rd_places {t e tb u8 bt : TypeId} {f0 f1 f2 f3 : Field} {fuel : Nat} {v : Value} {x : DataW H × List MemPlace} (ht : P.underlying t = some (.slice e)) (hs : P.underlying e = some (.struct #[f0, f1, f2, f3])) (hone : oneCellFields P #[f0, f1, f2, f3] = true) (hC : P.cellsOf e = 4)
    (e0 : f0.type = tb) (e1 : f1.type = tb) (e2 : f2.type = tb) (e3 : f3.type = bt) (hb : P.underlying tb = some (.slice u8)) (hu : P.underlying u8 = some (.int .u8)) (hc : P.cellsOf u8 = 1) (hbt : P.underlying bt = some .bool)
    (h : DataW.trod enc P w 0 (fun _ => true) true fuel t [v] = some x) : ∃ l : List Pl, Pls (whole w) v l :=
  rd_slice (α := Pl) (k := 4) (R := PlC) ht hC (by omega) h (fun n cs y hl hy => by
    obtain ⟨c0, c1, c2, c3, rfl⟩ := list4 hl
    obtain ⟨xs, m, _, _, _, hlen, hf⟩ := DataW.trod_struct hs hy
    obtain ⟨o0, k0⟩ := hone_of hone 0 f0 rfl
    obtain ⟨o1, k1⟩ := hone_of hone 1 f1 rfl
    obtain ⟨o2, k2⟩ := hone_of hone 2 f2 rfl
    obtain ⟨o3, k3⟩ := hone_of hone 3 f3 rfl
    match xs, hlen with
    | [y0, y1, y2, y3], _ =>
      have h0 := hf 0 f0 rfl
      have h1 := hf 1 f1 rfl
      have h2 := hf 2 f2 rfl
      have h3 := hf 3 f3 rfl
      rw [o0, k0] at h0
      rw [o1, k1] at h1
      rw [o2, k2] at h2
      rw [o3, k3] at h3
      simp only [List.drop_zero, List.drop_succ_cons, List.take_succ_cons, List.take_zero] at h0 h1 h2 h3
      rw [e0] at h0
      rw [e1] at h1
      rw [e2] at h2
      rw [e3] at h3
      obtain ⟨l0, r0⟩ := rd_bytes_cells hb hu hc h0
      obtain ⟨l1, r1⟩ := rd_bytes_cells hb hu hc h1
      obtain ⟨l2, r2⟩ := rd_bytes_cells hb hu hc h2
      obtain ⟨z, ez, _⟩ := DataW.trod_bool hbt h3
      obtain rfl : c3 = _ := by simpa using ez
      exact ⟨⟨l0, l1, l2, z⟩, c0, c1, c2, _, rfl, r0, r1, r2, rfl⟩)
end
end Go.Proofs.YtikklmjengkliaaDoor
namespace Go.Proofs.YtikklmjengkliaaDoor
open Go.RowKit
set_option maxRecDepth 100000
set_option linter.unusedVariables false
def nameN (n : Nat) : Int := if 1 ≤ n ∧ n ≤ 8 then 0 else 1
theorem nameN_ok {n : Nat} (h1 : 1 ≤ n) (h2 : n ≤ 8) : nameN n = 0 := by unfold nameN; rw [if_pos ⟨h1, h2⟩]
theorem nameN_bad {n : Nat} (h : ¬ (1 ≤ n ∧ n ≤ 8)) : nameN n = 1 := by unfold nameN; rw [if_neg h]
set_option maxHeartbeats 400000 in
theorem name_len (w : World) (a : Option Addr) (n c : Nat) :
    Calls Tryd.prog 51 #[.slice a n c] w fun e w' => e = .returned (.int .i64 (nameN n)) ∧ w' = w := by
  by_cases h : 1 ≤ n ∧ n ≤ 8
  · rw [nameN_ok h.1 h.2]
    obtain ⟨h1, h2⟩ := h
    go_enter Tryd.func51, Tryd.ntmps51
    go_wp2
    go_ret
    exact ⟨rfl, rfl⟩
  · rw [nameN_bad h]
    by_cases h1 : n < 1
    · clear h
      go_enter Tryd.func51, Tryd.ntmps51
      go_wp2
      go_ret
      exact ⟨rfl, rfl⟩
    · have h2 : 8 < n := by omega
      clear h
      go_enter Tryd.func51, Tryd.ntmps51
      go_wp2
      go_ret
      exact ⟨rfl, rfl⟩
def nameL (l : List UInt8) : List UInt8 := if l = [] then [0] else l.take 8
theorem nameL_len (l : List UInt8) : 1 ≤ (nameL l).length ∧ (nameL l).length ≤ 8 := by
  unfold nameL
  split
  · simp
  · rename_i h
    have := List.length_pos_iff.2 h
    simp only [List.length_take]
    omega
set_option maxHeartbeats 400000 in
theorem name_spec (F : Fz) (w : World) (v : Value) (l : List UInt8) (hs : Sat w F) (hv : Bs F v l) :
    Calls Tryd.prog 45 #[v] w (Gives w F fun F' u => Bs F' u (nameL l)) := by
  obtain ⟨a, c, rfl, hlc, hcm⟩ := hv.shape
  by_cases h : l = []
  · subst h
    go_enter Tryd.func45, Tryd.ntmps45
    go_wp2_with fail
    go_ret
    have hown := World.ownsRow_lit (base := w.heap.size) (e := 5) (size := 1) w #[.int .u8 0] 1 (Nat.le_refl _) (by unfold maxLen; omega) rfl
    obtain ⟨F', h1, h2⟩ := Gr.row hs ((Below.refl _ _).alloc (Nat.le_refl _) _) hown
    exact ⟨_, F', rfl, h1, h2⟩
  · have hb : ((l.length : Int) == 0) = false := by
      have := List.length_pos_iff.2 h
      rw [beq_eq_false_iff_ne]; omega
    have hk : nameL l = l.take 8 := by unfold nameL; rw [if_neg h]
    rw [hk]
    clear hk
    go_enter Tryd.func45, Tryd.ntmps45
    go_wp2_with (go_at_call 47; refine (some_spec _ _ _ _ _ hs hv (by omega) (by omega)).mono ?_; rintro e w1 ⟨v1, F1, rfl, g1, r1⟩)
    go_ret
    exact ⟨_, F1, rfl, g1, r1⟩
end Go.Proofs.YtikklmjengkliaaDoor
namespace Go.Proofs.YtikklmjengkliaaDoor
open Go.RowKit
theorem TreeOk.small {n : Nat} {l : List Pr} (h : TreeOk n l) {p : Pr} (hp : p ∈ l) : p.1.length ≤ 100000 ∧ p.2.length ≤ 100000 := by
  obtain ⟨_, h2, h3⟩ := h.ok p hp; omega
/-- Where a pair is put. -/
theorem putT_have {l : List Pr} {k v : By} (h : hasT l k = true) : putT l k v = l.set (posT l k) (k, v) := by unfold putT; rw [if_pos h]
theorem putT_new {l : List Pr} {k v : By} (h : ¬ hasT l k = true) : putT l k v = l.take (posT l k) ++ (k, v) :: l.drop (posT l k) := by unfold putT; rw [if_neg h]
end Go.Proofs.YtikklmjengkliaaDoor
namespace Go.Proofs.YtikklmjengkliaaDoor
open Go.RowKit
def writeP (p : Pl) : Wr := ⟨nameL p.name, keyL p.key, p.gone, if p.gone then [] else p.value.take 32⟩
theorem writeP_ok (p : Pl) : WrOk (writeP p) := by
  refine ⟨nameL_len _, (keyL_len _).1, (keyL_len _).2, ?_, fun h => ?_⟩
  · unfold writeP; simp only; split
    · simp
    · simp; omega
  · have : p.gone = true := h
    unfold writeP; simp only; rw [if_pos this]
def writesN (l : List Pl) (n : Nat) : List Wr := (l.take n).map writeP
theorem writesN_ok (l : List Pl) (n : Nat) : ∀ w ∈ writesN l n, WrOk w := by
  intro w hw
  obtain ⟨p, _, rfl⟩ := List.mem_map.1 hw
  exact writeP_ok p
theorem writesN_len (l : List Pl) (n : Nat) : (writesN l n).length ≤ n := by simp [writesN]; omega
theorem writesN_succ {l : List Pl} {k : Nat} {p : Pl} (h : l[k]? = some p) : writesN l (k + 1) = writesN l k ++ [writeP p] := by
  obtain ⟨hk, rfl⟩ := List.getElem?_eq_some_iff.1 h
  unfold writesN
  rw [List.take_succ_eq_append_getElem hk, List.map_append]
  rfl
theorem writesN_end {l : List Pl} {k m : Nat} (h : l.length ≤ k) (hm : k ≤ m) : writesN l k = writesN l m := by
  unfold writesN; rw [List.take_of_length_le h, List.take_of_length_le (by omega)]
def forestW (ws : List Wr) : Forest := ws.foldl (fun f w => (applyF f [w]).getD f) []
theorem forestW_snoc (ws : List Wr) (w : Wr) : forestW (ws ++ [w]) = (applyF (forestW ws) [w]).getD (forestW ws) := by unfold forestW; rw [List.foldl_append]; rfl
theorem applyF_one (f : Forest) (w : Wr) : applyF f [w] = writeF f w := by
  simp only [applyF]
  cases writeF f w <;> rfl
theorem forestW_ok : ∀ {ws : List Wr}, (∀ w ∈ ws, WrOk w) → ForestOk ws.length (forestW ws) := by
  have key : ∀ (n : Nat) (ws : List Wr), ws.length = n → (∀ w ∈ ws, WrOk w) → ForestOk n (forestW ws) := by
    intro n
    induction n with
    | zero => intro ws hn _; rw [List.eq_nil_of_length_eq_zero hn]; exact ForestOk.nil 0
    | succ n ih0 =>
    intro ws0 hn h
    obtain ⟨ws, w, rfl⟩ : ∃ ws w, ws0 = ws ++ [w] := ⟨ws0.dropLast, ws0.getLast (by intro e; subst e; cases hn), (List.dropLast_concat_getLast _).symm⟩
    have hn' : ws.length = n := by simpa using hn
    have ih := ih0 ws hn' fun x hx => h x (by simp [hx])
    rw [forestW_snoc, applyF_one]
    cases e : writeF (forestW ws) w with
    | none => exact ih.mono (by omega)
    | some g => exact writeF_ok ih (h w (by simp)) e
  exact fun {ws} h => key _ ws rfl h
end Go.Proofs.YtikklmjengkliaaDoor
namespace Go.Proofs.YtikklmjengkliaaDoor
open Go.RowKit
set_option maxRecDepth 100000
set_option linter.unusedVariables false
set_option linter.unusedSimpArgs false
theorem take_snoc {α : Type} {l : List α} {k : Nat} {p : α} (h : l[k]? = some p) : l.take (k + 1) = l.take k ++ [p] := by
  obtain ⟨hk, rfl⟩ := List.getElem?_eq_some_iff.1 h
  exact List.take_succ_eq_append_getElem hk
set_option maxHeartbeats 400000 in
theorem own2_spec (F : Fz) (w : World) (v : Value) (p : Pr) (hs : Sat w F) (hv : Pr2V F v p) (hk : p.1.length ≤ 100000) (hx : p.2.length ≤ 100000) :
    Calls Tryd.prog 91 #[v] w (Gives w F fun F' u => Pr2V F' u p) := by
  obtain ⟨x0, y0, x1, y1, rfl, h0, h1⟩ := hv
  have S := St.start hs
  go_enter Tryd.func91, Tryd.ntmps91
  refine wp_seq_k (fun K1 hK1 => ?_)
  refine region_wl ?_
  refine stNew S (v := fun n => .pointer (some ⟨n, 0, none⟩)) rfl (ex_box (v := (.agg #[(.slice x0 p.1.length y0), (.slice x1 p.2.length y1)])) rfl) (fun n2 w3 S4 => ?_)
  simp only [pS, pN, pA, pC, pZ]
  have S4 : St w F w3 F [⟨n2, [(.slice x0 p.1.length y0), (.slice x1 p.2.length y1)], 34⟩] [] := S4
  refine stNew S4 (v := fun n => .pointer (some ⟨n, 0, none⟩)) rfl (ex_alloc (zero_34 _)) (fun n5 w6 S7 => ?_)
  simp only [pS, pN, pA, pC, pZ]
  have S7 : St w F w6 F [⟨n5, [(.slice none 0 0), (.slice none 0 0)], 34⟩, ⟨n2, [(.slice x0 p.1.length y0), (.slice x1 p.2.length y1)], 34⟩] [] := S7
  refine wl_nil ?_
  (try simp only [Exit.then, Exit.inBlock, ↓reduceIte, Nat.reduceEqDiff])
  refine hK1 _ _ ?_
  refine wp_seq_k (fun K8 hK8 => ?_)
  refine region_gw F 5 [(2, .made (fun F' u => Bs F' u p.1))] (by kernel_rfl) (by kernel_rfl) ?_
  simp only [List.take_succ_cons, List.take_zero]
  refine gw_pure rfl rfl (.pointer (some ⟨n2, 0, none⟩)) (fun w9 hCw9 => pureAt_of (ex_field (q := ⟨n2, 0, none⟩) rfl (fa_34_0 _ _))) ?_
  simp only [pS, pN, pA, pC, pZ]
  refine gw_pure rfl rfl (.slice x0 p.1.length y0) (fun w9 hCw9 => pureAt_of (ex_load rfl (load1 (nagg_23 _) (St.cell (St.tells S7 hCw9) (i := 1) rfl rfl)))) ?_
  simp only [pS, pN, pA, pC, pZ]
  refine gw_rel rfl rfl (fun w9 hCw9 hF => does_call (ex_fn (vs := #[(.slice x0 p.1.length y0)]) (map1 rfl) rfl (ent_64 _ _)) (call_made S7.sat hCw9 (clone_spec _ _ _ p.1 ((St.tells S7 hCw9)).sat h0 (by omega)))) (fun v10 => ?_)
  simp only [pS, pN, pA, pC, pZ]
  refine gw_pure rfl rfl (.pointer (some ⟨n2, 1, none⟩)) (fun w9 hCw9 => pureAt_of (ex_field (q := ⟨n2, 1, none⟩) rfl (fa_34_1 _ _))) ?_
  simp only [pS, pN, pA, pC, pZ]
  refine gw_pure rfl rfl (.slice x1 p.2.length y1) (fun w9 hCw9 => pureAt_of (ex_load rfl (load1 (nagg_23 _) (St.cell (St.tells S7 hCw9) (i := 1) rfl rfl)))) ?_
  simp only [pS, pN, pA, pC, pZ]
  refine gw_nil ?_
  intro w11 hC13 hF14
  obtain ⟨F15, g16, R17⟩ := hF14.get 2 rfl rfl
  have S12 := St.gives S7 g16
  have le19 : Le _ _ := g16.le S7.sat
  have R20 := R17
  generalize F15 = F18 at *
  obtain ⟨xa21, xc22, rfl, _⟩ := R20.shape
  clear hF14
  simp only [List.drop_succ_cons, List.drop_zero]
  refine stGives S12 rfl (ex_fn (vs := #[(.slice x1 p.2.length y1)]) (map1 rfl) rfl (ent_64 _ _)) (clone_spec _ _ _ p.2 (S12).sat (h1.mono le19) (by omega)) ?_
  intro v28 w23 F25 S24 le26 R27
  obtain ⟨xa29, xc30, rfl, _⟩ := R27.shape
  simp only [pS, pN, pA, pC, pZ]
  refine do_ rfl (.agg #[(.slice xa21 p.1.length xc22), (.slice xa29 p.2.length xc30)]) (ex_build (ps := #[(0, (.slice xa21 p.1.length xc22)), (1, (.slice xa29 p.2.length xc30))]) (bmap2 rfl rfl) (by kernel_rfl)) ?_
  simp only [pS, pN, pA, pC, pZ]
  refine stStore (i := 0) (v := (.agg #[(.slice xa21 p.1.length xc22), (.slice xa29 p.2.length xc30)])) S24 rfl rfl rfl rfl (size_34) (allc2 rfl rfl) (Nat.le_of_ble_eq_true rfl) (fun w31 S32 => ?_)
  simp only [pS, pN, pA, pC, pZ]
  have S32 : St w F w31 F25 [⟨n5, [(.slice xa21 p.1.length xc22), (.slice xa29 p.2.length xc30)], 34⟩, ⟨n2, [(.slice x0 p.1.length y0), (.slice x1 p.2.length y1)], 34⟩] [] := S32
  refine wl_nil ?_
  (try simp only [Exit.then, Exit.inBlock, ↓reduceIte, Nat.reduceEqDiff])
  refine hK8 _ _ ?_
  refine wp_ret ?_
  (try simp only [Exit.then, Exit.inBlock, ↓reduceIte, Nat.reduceEqDiff])
  refine bodyPost_ret (v := (.agg #[(.slice xa21 p.1.length xc22), (.slice xa29 p.2.length xc30)])) ?_ rfl ?_
  · exact res_c rfl ⟨_, rfl, loadN (cs := [(.slice xa21 p.1.length xc22), (.slice xa29 p.2.length xc30)]) Tryd.underlying34 rfl (size_34) (St.range S32 (i := 0) rfl 0 [(.slice xa21 p.1.length xc22), (.slice xa29 p.2.length xc30)] (sub_range 0 rfl))⟩
  · exact ⟨_, _, rfl, S32.gr, ⟨_, _, _, _, rfl, (R20.mono le26), R27⟩⟩
set_option maxHeartbeats 400000 in
theorem all_spec (F : Fz) (w : World) (v : Value) (l : List Pr) (hs : Sat w F) (hv : Prs F v l) (hl : l.length ≤ 100000) (hL : ∀ p ∈ l, p.1.length ≤ 100000 ∧ p.2.length ≤ 100000) :
    Calls Tryd.prog 89 #[v] w (GivesO w F 2 PrC 34 l) := by
  obtain ⟨a, c, rfl, hc1, hc2⟩ := Sl.shape hv
  unfold maxLen at hc2
  obtain ⟨i34, hi34, hz34, hs34, hb34⟩ := info_parts info_34
  have S := St.start hs
  go_enter Tryd.func89, Tryd.ntmps89
  refine wp_seq_k (fun K1 hK1 => ?_)
  refine region_wl ?_
  refine do_ rfl (.slice none 0 0) (ex_assign _) ?_
  simp only [pS, pN, pA, pC, pZ]
  refine wl_nil ?_
  (try simp only [Exit.then, Exit.inBlock, ↓reduceIte, Nat.reduceEqDiff])
  refine hK1 _ _ ?_
  refine wp_seq_k (fun K2 hK2 => ?_)
  refine region_wl ?_
  refine do_ rfl (.slice none 0 0) (ex_assign _) ?_
  simp only [pS, pN, pA, pC, pZ]
  refine wl_nil ?_
  (try simp only [Exit.then, Exit.inBlock, ↓reduceIte, Nat.reduceEqDiff])
  refine hK2 _ _ ?_
  refine wp_seq_k (fun K3 hK3 => ?_)
  refine wp_seq_k (fun K4 hK4 => ?_)
  refine region_wl ?_
  refine do_ rfl (.slice a l.length c) (ex_move _) ?_
  simp only [pS, pN, pA, pC, pZ]
  refine do_ rfl (.int .i64 ((l.length : Nat) : Int)) (ex_len Tryd.underlying26 rfl) ?_
  simp only [pS, pN, pA, pC, pZ]
  refine do_ rfl (.int .i64 0) (ex_move _) ?_
  simp only [pS, pN, pA, pC, pZ]
  refine wl_nil ?_
  (try simp only [Exit.then, Exit.inBlock, ↓reduceIte, Nat.reduceEqDiff])
  refine hK4 _ _ ?_
  refine wp_block ?_
  have S5 := St.addNil S 2 PrC PrC.mono 34 w.heap.size
  refine wp_loop_g (fun mm aa w8 => ∃ (k : Nat) (v : Value) (F6 : Fz) (u7 : Nat → Value), mm = l.length - k ∧ aa = ⟨#[(.slice a l.length c), undef, (.slice none 0 0), v, undef, (u7 5), (.slice a l.length c), (.int .i64 ((l.length : Nat) : Int)), (.int .i64 ((k : Nat) : Int)), (u7 9), (u7 10), (u7 11), (u7 12), (u7 13), (u7 14), (u7 15), (u7 16), (u7 17), undef], []⟩ ∧ St w F w8 F6 [] [ownP 2 PrC PrC.mono 34 w.heap.size v (l.take k)] ∧ Le F F6 ∧ (k ≤ l.length)) _ ⟨0, (.slice none 0 0), F, (slotF [(.slice a l.length c), undef, (.slice none 0 0), (.slice none 0 0), undef, undef, (.slice a l.length c), (.int .i64 ((l.length : Nat) : Int)), (.int .i64 0), undef, undef, undef, undef, undef, undef, undef, undef, undef, undef]), rfl, rfl, S5, Le.refl _, (by omega)⟩ ?_
  rintro m9 a10 w11 ⟨k, v, F6, u7, rfl, rfl, S12, le13, hk⟩ K14 hK14
  refine wp_seq_k (fun K15 hK15 => ?_)
  refine region_wl ?_
  by_cases hc9 : k < l.length
  · refine do_ rfl (.bool true) (ex_lss (m := ((k : Nat) : Int)) (n := ((l.length : Nat) : Int)) (b := true) rfl rfl (decide_eq_true (by omega))) ?_
    simp only [pS, pN, pA, pC, pZ]
    refine wl_nil ?_
    (try simp only [Exit.then, Exit.inBlock, ↓reduceIte, Nat.reduceEqDiff])
    refine hK15 _ _ ?_
    refine wp_seq_k (fun K16 hK16 => ?_)
    refine wp_cond_true rfl ?_
    refine wp_skip ?_
    (try simp only [Exit.then, Exit.inBlock, ↓reduceIte, Nat.reduceEqDiff])
    refine hK16 _ _ ?_
    refine wp_seq_k (fun K17 hK17 => ?_)
    refine wp_block ?_
    refine wp_seq_k (fun K18 hK18 => ?_)
    refine region_wl ?_
    obtain ⟨p, hp⟩ : ∃ p, l[k]? = some p := ⟨l[k], List.getElem?_eq_getElem hc9⟩
    have hpl := hL p (List.mem_of_getElem? hp)
    have htk : (l.take k).length = k := by rw [List.length_take]; omega
    obtain ⟨b19, o20, ha21, xa23, xc24, xa27, xc28, c22, c26, r25, r29⟩ := Prs.get (hv.mono le13) hp
    refine do_ rfl (.pointer (some ⟨b19, o20 + k * 2, none⟩)) (ex_at (i := k) (sz := 2) Tryd.underlying26 (sizeof_34 _) rfl ha21 rfl (by omega) rfl) ?_
    simp only [pS, pN, pA, pC, pZ]
    refine do_ rfl (.agg #[(.slice xa23 p.1.length xc24), (.slice xa27 p.2.length xc28)]) (ex_load rfl (loadN (cs := [(.slice xa23 p.1.length xc24), (.slice xa27 p.2.length xc28)]) Tryd.underlying34 rfl (size_34) (range2 (St.fz S12 c22) (St.fz S12 c26)))) ?_
    simp only [pS, pN, pA, pC, pZ]
    refine stNew S12 (v := fun n => .pointer (some ⟨n, 0, none⟩)) rfl (ex_alloc (zero_34 _)) (fun n30 w31 S32 => ?_)
    simp only [pS, pN, pA, pC, pZ]
    have S32 : St w F w31 F6 [⟨n30, [(.slice none 0 0), (.slice none 0 0)], 34⟩] [ownP 2 PrC PrC.mono 34 w.heap.size v (l.take k)] := S32
    refine stStore (i := 0) (v := (.agg #[(.slice xa23 p.1.length xc24), (.slice xa27 p.2.length xc28)])) S32 rfl rfl rfl rfl (size_34) (allc2 rfl rfl) (Nat.le_of_ble_eq_true rfl) (fun w33 S34 => ?_)
    simp only [pS, pN, pA, pC, pZ]
    have S34 : St w F w33 F6 [⟨n30, [(.slice xa23 p.1.length xc24), (.slice xa27 p.2.length xc28)], 34⟩] [ownP 2 PrC PrC.mono 34 w.heap.size v (l.take k)] := S34
    refine wl_nil ?_
    (try simp only [Exit.then, Exit.inBlock, ↓reduceIte, Nat.reduceEqDiff])
    refine hK18 _ _ ?_
    refine region_wl ?_
    refine do_ rfl v (ex_move _) ?_
    simp only [pS, pN, pA, pC, pZ]
    refine do_ rfl (.agg #[(.slice xa23 p.1.length xc24), (.slice xa27 p.2.length xc28)]) (ex_load rfl (loadN (cs := [(.slice xa23 p.1.length xc24), (.slice xa27 p.2.length xc28)]) Tryd.underlying34 rfl (size_34) (St.range S34 (i := 0) rfl 0 [(.slice xa23 p.1.length xc24), (.slice xa27 p.2.length xc28)] (sub_range 0 rfl)))) ?_
    simp only [pS, pN, pA, pC, pZ]
    refine stGives S34 rfl (ex_fn (vs := #[(.agg #[(.slice xa23 p.1.length xc24), (.slice xa27 p.2.length xc28)])]) (map1 rfl) rfl (ent_91 _ _)) (own2_spec _ _ _ p (S34).sat ⟨_, _, _, _, rfl, r25, r29⟩ (by omega) (by omega)) ?_
    intro v40 w35 F37 S36 le38 R39
    obtain ⟨xa41, xc42, xa43, xc44, rfl, r45, r46⟩ := R39
    simp only [pS, pN, pA, pC, pZ]
    refine stNew S36 (v := fun n => .slice (some ⟨n, 0, none⟩) 1 1) rfl (ex_lit (ps := #[(0, (.agg #[(.slice xa41 p.1.length xc42), (.slice xa43 p.2.length xc44)]))]) (cells := #[(.slice xa41 p.1.length xc42), (.slice xa43 p.2.length xc44)]) (E := 34) (bmap1 rfl) (fun w => by kernel_rfl)) (fun n47 w48 S49 => ?_)
    simp only [pS, pN, pA, pC, pZ]
    have S49 : St w F w48 F37 [⟨n47, [(.slice xa41 p.1.length xc42), (.slice xa43 p.2.length xc44)], 34⟩, ⟨n30, [(.slice xa23 p.1.length xc24), (.slice xa27 p.2.length xc28)], 34⟩] [ownP 2 PrC PrC.mono 34 w.heap.size v (l.take k)] := S49
    refine stPush (i := 0) (r := 0) (p := p) (cs := [(.slice xa41 p.1.length xc42), (.slice xa43 p.2.length xc44)]) S49 rfl i34 (.agg #[(.slice none 0 0), (.slice none 0 0)]) 48 Tryd.underlying26 hi34 hz34 hs34 hb34 rfl (by decide) rfl rfl rfl rfl rfl (PrC.oneCell ⟨_, _, rfl, r45, r46⟩) (⟨_, _, rfl, r45, r46⟩) (Nat.le_refl _) S49.gr.below.size (by unfold maxLen; omega) (by omega) ?_
    intro v50 w51 S52 hn53
    simp only [pS, pN, pA, pC, pZ]
    have S52 := St.drop S52 (L' := [⟨n30, [(.slice xa23 p.1.length xc24), (.slice xa27 p.2.length xc28)], 34⟩]) (.cons _ (List.Sublist.refl _))
    have S52 : St w F w51 F37 [⟨n30, [(.slice xa23 p.1.length xc24), (.slice xa27 p.2.length xc28)], 34⟩] [ownP 2 PrC PrC.mono 34 w.heap.size v50 ((l.take k) ++ [p])] := S52
    refine do_ rfl v50 (ex_assign _) ?_
    simp only [pS, pN, pA, pC, pZ]
    refine wl_nil ?_
    (try simp only [Exit.then, Exit.inBlock, ↓reduceIte, Nat.reduceEqDiff])
    refine hK17 _ _ ?_
    refine region_wl ?_
    refine do_ rfl (.int .i64 (((k + 1) : Nat) : Int)) (ex_add (m := ((k : Nat) : Int)) (n := (1 : Int)) (r := (((k + 1) : Nat) : Int)) rfl rfl (by omega) (by omega) (by omega)) ?_
    simp only [pS, pN, pA, pC, pZ]
    refine do_ rfl (.int .i64 (((k + 1) : Nat) : Int)) (ex_move _) ?_
    simp only [pS, pN, pA, pC, pZ]
    refine wl_nil ?_
    (try simp only [Exit.then, Exit.inBlock, ↓reduceIte, Nat.reduceEqDiff])
    have S52 := St.drop S52 (L' := []) (.cons _ (List.Sublist.refl _))
    rw [← take_snoc hp] at S52
    exact hK14 _ _ _ (by omega) ⟨(k + 1), v50, F37, (slotF [(.slice a l.length c), undef, (.slice none 0 0), v50, undef, (.pointer (some ⟨n30, 0, none⟩)), (.slice a l.length c), (.int .i64 ((l.length : Nat) : Int)), (.int .i64 (((k + 1) : Nat) : Int)), (.bool true), (.pointer (some ⟨b19, o20 + k * 2, none⟩)), (.agg #[(.slice xa23 p.1.length xc24), (.slice xa27 p.2.length xc28)]), v, (.agg #[(.slice xa23 p.1.length xc24), (.slice xa27 p.2.length xc28)]), (.agg #[(.slice xa41 p.1.length xc42), (.slice xa43 p.2.length xc44)]), (.slice (some ⟨n47, 0, none⟩) 1 1), v50, (.int .i64 (((k + 1) : Nat) : Int)), undef]), rfl, rfl, S52, (le13.trans le38), (by omega)⟩
  · refine do_ rfl (.bool false) (ex_lss (m := ((k : Nat) : Int)) (n := ((l.length : Nat) : Int)) (b := false) rfl rfl (decide_eq_false (by omega))) ?_
    simp only [pS, pN, pA, pC, pZ]
    refine wl_nil ?_
    (try simp only [Exit.then, Exit.inBlock, ↓reduceIte, Nat.reduceEqDiff])
    refine hK15 _ _ ?_
    refine wp_seq_k (fun K55 hK55 => ?_)
    refine wp_cond_false rfl ?_
    refine wp_exit ?_
    (try simp only [Exit.then, Exit.inBlock, ↓reduceIte, Nat.reduceEqDiff])
    refine hK3 _ _ ?_
    refine wp_seq_k (fun K56 hK56 => ?_)
    refine region_wl ?_
    refine do_ rfl v (ex_move _) ?_
    simp only [pS, pN, pA, pC, pZ]
    refine do_ rfl v (ex_assign _) ?_
    simp only [pS, pN, pA, pC, pZ]
    refine wl_nil ?_
    (try simp only [Exit.then, Exit.inBlock, ↓reduceIte, Nat.reduceEqDiff])
    refine hK56 _ _ ?_
    refine wp_ret ?_
    (try simp only [Exit.then, Exit.inBlock, ↓reduceIte, Nat.reduceEqDiff])
    refine bodyPost_ret (v := v) ?_ rfl ?_
    · exact res_t rfl rfl
    · obtain rfl : k = l.length := by omega
      exact ⟨_, _, rfl, S12.gr, by have h := St.own (i := 0) S12 rfl; rwa [List.take_length] at h⟩
end Go.Proofs.YtikklmjengkliaaDoor
namespace Go.Proofs.YtikklmjengkliaaDoor
open Go.RowKit
set_option maxRecDepth 100000
set_option linter.unusedVariables false
set_option linter.unusedSimpArgs false
theorem bytesOf_run {P : Program} {w : World} {F : Fz} {v : Value} {l : List UInt8} (hs : Sat w F) (hv : Bs F v l) : (Extern.Bytes.bytesOf v).run P w = .ok ⟨l.toArray⟩ w := by
  obtain ⟨a, c, rfl, h1, h2⟩ := hv.shape
  cases a with
  | none =>
    obtain ⟨_, _, q1, _, _, q4, _⟩ := hv
    cases q1
    have : l = [] := List.eq_nil_of_length_eq_zero (q4 rfl).1
    subst this
    rfl
  | some a =>
    by_cases hl : l = []
    · subst hl; rfl
    · have hpos := List.length_pos_iff.2 hl
      obtain ⟨b, o, e, hc⟩ := hv.addr hpos
      cases e
      have key : ∀ (m : List UInt8) (j : Nat) (acc : ByteArray), (∀ (i : Nat) (h : i < m.length), w.cell? ⟨b, o + j + i, none⟩ = some (.int .u8 (m[i].toNat : Int))) → (Extern.Bytes.loadBytes ⟨b, o + j, none⟩ m.length acc).run P w = .ok ⟨acc.data ++ m.toArray⟩ w := by
        intro m
        induction m with
        | nil => intro j acc _; simp [Extern.Bytes.loadBytes]
        | cons x m ih =>
          intro j acc h
          have h0 := h 0 (by simp)
          simp only [Nat.add_zero, List.getElem_cons_zero] at h0
          have e : (⟨b, o + j, none⟩ : Addr).add 1 = ⟨b, o + (j + 1), none⟩ := by rw [Addr.add_mid]; rfl
          have ih' := ih (j + 1) (acc.push x) (fun i hi => by
            have := h (i + 1) (by simpa using hi)
            simp only [List.getElem_cons_succ] at this
            rw [show o + (j + 1) + i = o + j + (i + 1) from by omega]; exact this)
          simp only [List.length_cons, Extern.Bytes.loadBytes, Sem.run_bind, run_load, h0, Result.andThen]
          rw [e]
          simp only [Int.toNat_natCast]
          rw [show x.toNat.toUInt8 = x from by simp]
          rw [ih']
          congr 2
          simp [ByteArray.push]
      have := key l 0 .empty (fun i hi => hs.cell (hc i hi))
      simp only [Nat.add_zero] at this
      show (Extern.Bytes.loadBytes ⟨b, o, none⟩ l.length .empty).run P w = _
      rw [this]
      congr 2
      simp [ByteArray.empty, ByteArray.emptyWithCapacity]
      rfl
theorem compareBytes_eq : ∀ (a b : List UInt8), Lib.compareBytes a b = cmpL a b
  | [], [] => by simp [Lib.compareBytes, cmpL, Op.bytesLess]
  | [], _ :: _ => by simp [Lib.compareBytes, cmpL, Op.bytesLess]
  | _ :: _, [] => by simp [Lib.compareBytes, cmpL, Op.bytesLess]
  | x :: a, y :: b => by
    have ih := compareBytes_eq a b
    unfold Lib.compareBytes
    rw [ih]
    unfold cmpL
    simp only [Op.bytesLess, Bool.or_eq_true, decide_eq_true_eq, Bool.and_eq_true, beq_iff_eq, List.cons.injEq]
    by_cases h1 : x < y
    · simp [h1]
    · by_cases h2 : y < x
      · have h3 : x ≠ y := by rintro rfl; exact h1 h2
        simp [h1, h2, h3]
      · have h3 : x = y := by
          apply UInt8.toNat_inj.1
          have e1 : ¬ x.toNat < y.toNat := fun q => h1 (UInt8.lt_iff_toNat_lt.2 q)
          have e2 : ¬ y.toNat < x.toNat := fun q => h2 (UInt8.lt_iff_toNat_lt.2 q)
          omega
        subst h3
        simp [h1]
theorem bytealgCompare_run {w : World} {F : Fz} {v u : Value} {l m : List UInt8} (hs : Sat w F) (hv : Bs F v l) (hu : Bs F u m) : (callFunc 86 #[v, u]).run Tryd.prog w = .ok (.value (.int .i64 (cmpL l m))) w := by
  rw [run_callFunc_extern Tryd.func86 (by kernel_rfl) (by kernel_rfl) (by kernel_rfl) (e := Extern.BytealgCompare.compare) (by kernel_rfl)]
  have e : (Extern.BytealgCompare.compare #[v, u]).run Tryd.prog w = .ok (goInt (Extern.BytealgCompare.cmp ⟨l.toArray⟩ ⟨m.toArray⟩)) w := by
    change Sem.run Tryd.prog (do pure (goInt (Extern.BytealgCompare.cmp (← Extern.Bytes.bytesOf v) (← Extern.Bytes.bytesOf u)))) w = _
    simp only [Sem.run_bind, bytesOf_run hs hv, bytesOf_run hs hu, Result.andThen_ok, Sem.run_pure]
  rw [e, Lib.cmp_eq, compareBytes_eq]
  rfl
set_option maxHeartbeats 8000000 in
theorem bytesCompare_spec (F : Fz) (w : World) (v u : Value) (l m : List UInt8) (hs : Sat w F) (hv : Bs F v l) (hu : Bs F u m) :
    Calls Tryd.prog 63 #[v, u] w (Tells w (.int .i64 (cmpL l m))) := by
 obtain ⟨a, c, rfl, _⟩ := hv.shape
 obtain ⟨a2, c2, rfl, _⟩ := hu.shape
 have S := St.start hs
 go_enter Tryd.func63, Tryd.ntmps63
 refine wp_seq_k (fun K1 hK1 => region_wl ?_)
 refine do_ rfl (.int .i64 0) (ex_assign _) ?_
 simp only [pS, pN, pA, pC, pZ]
 refine wl_nil (hK1 _ _ ?_)
 refine wp_seq_k (fun K2 hK2 => region_wl ?_)
 refine do_ rfl (.slice a l.length c) (ex_move _) ?_
 simp only [pS, pN, pA, pC, pZ]
 refine do_ rfl (.slice a2 m.length c2) (ex_move _) ?_
 simp only [pS, pN, pA, pC, pZ]
 refine do_ rfl (.int .i64 (cmpL l m)) (ex_fnv (vs := #[(.slice a l.length c), (.slice a2 m.length c2)]) (map2 rfl rfl) rfl (bytealgCompare_run (S).sat hv hu)) ?_
 simp only [pS, pN, pA, pC, pZ]
 refine do_ rfl (.int .i64 (cmpL l m)) (ex_assign _) ?_
 simp only [pS, pN, pA, pC, pZ]
 refine wl_nil (hK2 _ _ ?_)
 refine wp_ret ?_
 (try simp only [Exit.then, Exit.inBlock, ↓reduceIte, Nat.reduceEqDiff])
 refine bodyPost_ret (v := (.int .i64 (cmpL l m))) ?_ rfl ?_
 ·exact res_t rfl rfl
 ·exact ⟨rfl, S.gr.below⟩
set_option maxHeartbeats 8000000 in
theorem compare_spec (F : Fz) (w : World) (v u : Value) (p q : Pr) (hs : Sat w F) (hv : Pr2V F v p) (hu : Pr2V F u q) :
    Calls Tryd.prog 71 #[v, u] w (Tells w (.int .i64 (cmpL p.1 q.1))) := by
 obtain ⟨x0, y0, x1, y1, rfl, h0, h1⟩ := hv
 obtain ⟨x0q, y0q, x1q, y1q, rfl, k0, k1⟩ := hu
 have S := St.start hs
 go_enter Tryd.func71, Tryd.ntmps71
 refine wp_seq_k (fun K1 hK1 => region_wl ?_)
 refine stNew S (v := fun n => .pointer (some ⟨n, 0, none⟩)) rfl (ex_box (v := (.agg #[(.slice x0 p.1.length y0), (.slice x1 p.2.length y1)])) rfl) (fun n2 w3 S4 => ?_)
 simp only [pS, pN, pA, pC, pZ]
 have S4 : St w F w3 F [⟨n2, [(.slice x0 p.1.length y0), (.slice x1 p.2.length y1)], 34⟩] [] := S4
 refine stNew S4 (v := fun n => .pointer (some ⟨n, 0, none⟩)) rfl (ex_box (v := (.agg #[(.slice x0q q.1.length y0q), (.slice x1q q.2.length y1q)])) rfl) (fun n5 w6 S7 => ?_)
 simp only [pS, pN, pA, pC, pZ]
 have S7 : St w F w6 F [⟨n5, [(.slice x0q q.1.length y0q), (.slice x1q q.2.length y1q)], 34⟩, ⟨n2, [(.slice x0 p.1.length y0), (.slice x1 p.2.length y1)], 34⟩] [] := S7
 refine do_ rfl (.int .i64 0) (ex_assign _) ?_
 simp only [pS, pN, pA, pC, pZ]
 refine wl_nil (hK1 _ _ ?_)
 refine wp_seq_k (fun K8 hK8 => region_wl ?_)
 refine do_ rfl (.pointer (some ⟨n2, 0, none⟩)) (ex_field (q := ⟨n2, 0, none⟩) rfl (fa_34_0 _ _)) ?_
 simp only [pS, pN, pA, pC, pZ]
 refine do_ rfl (.slice x0 p.1.length y0) (ex_load rfl (load1 (nagg_23 _) (St.cell S7 (i := 1) rfl rfl))) ?_
 simp only [pS, pN, pA, pC, pZ]
 refine do_ rfl (.pointer (some ⟨n5, 0, none⟩)) (ex_field (q := ⟨n5, 0, none⟩) rfl (fa_34_0 _ _)) ?_
 simp only [pS, pN, pA, pC, pZ]
 refine do_ rfl (.slice x0q q.1.length y0q) (ex_load rfl (load1 (nagg_23 _) (St.cell S7 (i := 0) rfl rfl))) ?_
 simp only [pS, pN, pA, pC, pZ]
 refine stTells (v := (.int .i64 (cmpL p.1 q.1))) S7 rfl (ex_fn (vs := #[(.slice x0 p.1.length y0), (.slice x0q q.1.length y0q)]) (map2 rfl rfl) rfl (ent_63 _ _)) (bytesCompare_spec _ _ _ _ p.1 q.1 (S7).sat h0 k0) (fun w9 S10 => ?_)
 simp only [pS, pN, pA, pC, pZ]
 refine do_ rfl (.int .i64 (cmpL p.1 q.1)) (ex_assign _) ?_
 simp only [pS, pN, pA, pC, pZ]
 refine wl_nil (hK8 _ _ ?_)
 refine wp_ret ?_
 (try simp only [Exit.then, Exit.inBlock, ↓reduceIte, Nat.reduceEqDiff])
 refine bodyPost_ret (v := (.int .i64 (cmpL p.1 q.1))) ?_ rfl ?_
 ·exact res_t rfl rfl
 ·exact ⟨rfl, S10.gr.below⟩
def pairE (p : Pr) : Int := if 32 < p.2.length then 1 else checkN p.1.length
set_option maxHeartbeats 8000000 in
theorem pair_spec (F : Fz) (w : World) (v : Value) (p : Pr) (hs : Sat w F) (hv : Pr2V F v p) :
    Calls Tryd.prog 70 #[v] w (Tells w (.int .i64 (pairE p))) := by
 obtain ⟨x0, y0, x1, y1, rfl, h0, h1⟩ := hv
 have S := St.start hs
 go_enter Tryd.func70, Tryd.ntmps70
 refine wp_seq_k (fun K1 hK1 => region_wl ?_)
 refine stNew S (v := fun n => .pointer (some ⟨n, 0, none⟩)) rfl (ex_box (v := (.agg #[(.slice x0 p.1.length y0), (.slice x1 p.2.length y1)])) rfl) (fun n2 w3 S4 => ?_)
 simp only [pS, pN, pA, pC, pZ]
 have S4 : St w F w3 F [⟨n2, [(.slice x0 p.1.length y0), (.slice x1 p.2.length y1)], 34⟩] [] := S4
 refine do_ rfl (.int .i64 0) (ex_assign _) ?_
 simp only [pS, pN, pA, pC, pZ]
 refine wl_nil (hK1 _ _ ?_)
 refine wp_seq_k (fun K5 hK5 => ?_)
 refine wp_seq_k (fun K6 hK6 => region_wl ?_)
 refine do_ rfl (.pointer (some ⟨n2, 1, none⟩)) (ex_field (q := ⟨n2, 1, none⟩) rfl (fa_34_1 _ _)) ?_
 simp only [pS, pN, pA, pC, pZ]
 refine do_ rfl (.slice x1 p.2.length y1) (ex_load rfl (load1 (nagg_23 _) (St.cell S4 (i := 0) rfl rfl))) ?_
 simp only [pS, pN, pA, pC, pZ]
 refine do_ rfl (.int .i64 ((p.2.length : Nat) : Int)) (ex_len Tryd.underlying23 rfl) ?_
 simp only [pS, pN, pA, pC, pZ]
 by_cases hc6 : 32 < p.2.length
 ·refine do_ rfl (.bool true) (ex_gtr (m := ((p.2.length : Nat) : Int)) (n := (32 : Int)) (b := true) rfl rfl (decide_eq_true (by omega))) ?_
  simp only [pS, pN, pA, pC, pZ]
  refine wl_nil (hK6 _ _ ?_)
  refine wp_cond_true rfl ?_
  refine wp_seq_k (fun K7 hK7 => region_wl ?_)
  refine do_ rfl (.int .i64 1) (ex_assign _) ?_
  simp only [pS, pN, pA, pC, pZ]
  refine wl_nil (hK7 _ _ ?_)
  refine wp_ret ?_
  (try simp only [Exit.then, Exit.inBlock, ↓reduceIte, Nat.reduceEqDiff])
  refine bodyPost_ret (v := (.int .i64 1)) ?_ rfl ?_
  ·exact res_t rfl rfl
  ·refine ⟨?_, S4.gr.below⟩
   unfold pairE
   first | rw [if_pos (by omega)] | rw [if_neg (by omega)]
 ·refine do_ rfl (.bool false) (ex_gtr (m := ((p.2.length : Nat) : Int)) (n := (32 : Int)) (b := false) rfl rfl (decide_eq_false (by omega))) ?_
  simp only [pS, pN, pA, pC, pZ]
  refine wl_nil (hK6 _ _ ?_)
  refine wp_cond_false rfl ?_
  refine wp_skip ?_
  refine hK5 _ _ ?_
  refine wp_seq_k (fun K8 hK8 => region_wl ?_)
  refine do_ rfl (.pointer (some ⟨n2, 0, none⟩)) (ex_field (q := ⟨n2, 0, none⟩) rfl (fa_34_0 _ _)) ?_
  simp only [pS, pN, pA, pC, pZ]
  refine do_ rfl (.slice x0 p.1.length y0) (ex_load rfl (load1 (nagg_23 _) (St.cell S4 (i := 0) rfl rfl))) ?_
  simp only [pS, pN, pA, pC, pZ]
  refine stTells (v := (.int .i64 (checkN p.1.length))) S4 rfl (ex_fn (vs := #[(.slice x0 p.1.length y0)]) (map1 rfl) rfl (ent_82 _ _)) (tells_same (check_spec _ _ _ p.1 h0)) (fun w9 S10 => ?_)
  simp only [pS, pN, pA, pC, pZ]
  refine do_ rfl (.int .i64 (checkN p.1.length)) (ex_assign _) ?_
  simp only [pS, pN, pA, pC, pZ]
  refine wl_nil (hK8 _ _ ?_)
  refine wp_ret ?_
  (try simp only [Exit.then, Exit.inBlock, ↓reduceIte, Nat.reduceEqDiff])
  refine bodyPost_ret (v := (.int .i64 (checkN p.1.length))) ?_ rfl ?_
  ·exact res_t rfl rfl
  ·refine ⟨?_, S10.gr.below⟩
   unfold pairE
   first | rw [if_pos (by omega)] | rw [if_neg (by omega)]
end Go.Proofs.YtikklmjengkliaaDoor
namespace Go.Proofs.YtikklmjengkliaaDoor
open Go.RowKit
set_option maxRecDepth 100000
set_option linter.unusedVariables false
set_option linter.unusedSimpArgs false
/-- What Check tells of pairs from place k on. -/
def treeAt (l : List Pr) : Nat → Nat → Int
  | 0, _ => 0
  | n + 1, k => match l[k]? with
    | none => 0
    | some p => if pairE p ≠ 0 then pairE p else if 0 < k ∧ 0 ≤ cmpL (l.getD (k - 1) ([], [])).1 p.1 then 3 else treeAt l n (k + 1)
def treeE (l : List Pr) : Int := if 60 < l.length then 1 else treeAt l l.length 0
theorem treeAt_at {l : List Pr} {k : Nat} {p : Pr} (hp : l[k]? = some p) : treeAt l (l.length - k) k = if pairE p ≠ 0 then pairE p else if 0 < k ∧ 0 ≤ cmpL (l.getD (k - 1) ([], [])).1 p.1 then 3 else treeAt l (l.length - (k + 1)) (k + 1) := by
  obtain ⟨hk, _⟩ := List.getElem?_eq_some_iff.1 hp
  rw [show l.length - k = (l.length - (k + 1)) + 1 from by omega]
  simp only [treeAt, hp]
theorem treeAt_end {l : List Pr} {k : Nat} (hk : l.length ≤ k) : treeAt l (l.length - k) k = 0 := by rw [show l.length - k = 0 from by omega]; rfl
theorem pairE_ok {p : Pr} : pairE p = 0 ↔ PairOk p := by
  unfold pairE PairOk checkN
  split
  · omega
  · split <;> omega
theorem treeE_ok {l : List Pr} : treeE l = 0 ↔ TreeOk 60 l := by
  unfold treeE
  by_cases hl : 60 < l.length
  · rw [if_pos hl]
    exact ⟨fun h => by omega, fun h => by have := h.len; omega⟩
  · rw [if_neg hl]
    have key : ∀ n k, n + k = l.length → (treeAt l n k = 0 ↔ ∀ i (hi : i < l.length), k ≤ i → PairOk l[i] ∧ (0 < i → Lt (l.getD (i - 1) ([], [])).1 l[i].1)) := by
      intro n
      induction n with
      | zero => intro k hk; simp only [treeAt]; exact ⟨fun _ i hi h => by omega, fun _ => trivial⟩
      | succ n ih =>
        intro k hk
        have hk' : k < l.length := by omega
        simp only [treeAt, List.getElem?_eq_getElem hk']
        have ihk := ih (k + 1) (by omega)
        by_cases hp : pairE l[k] = 0
        · rw [if_neg (by simp [hp])]
          by_cases hc : 0 < k ∧ 0 ≤ cmpL (l.getD (k - 1) ([], [])).1 l[k].1
          · rw [if_pos hc]
            refine ⟨fun h => by omega, fun h => ?_⟩
            have := (h k hk' (Nat.le_refl _)).2 hc.1
            have := cmpL_lt.2 this
            omega
          · rw [if_neg hc, ihk]
            refine ⟨fun h i hi hki => ?_, fun h i hi hki => h i hi (by omega)⟩
            by_cases e : i = k
            · subst e
              refine ⟨pairE_ok.1 hp, fun h0 => cmpL_lt.1 ?_⟩
              have : ¬ 0 ≤ cmpL (l.getD (i - 1) ([], [])).1 l[i].1 := fun h => hc ⟨h0, h⟩
              omega
            · exact h i hi (by omega)
        · rw [if_pos hp]
          exact ⟨fun h => absurd h hp, fun h => absurd (pairE_ok.2 (h k hk' (Nat.le_refl _)).1) hp⟩
    rw [key l.length 0 (by omega)]
    constructor
    · intro h
      refine ⟨by omega, fun p hp => ?_, ?_⟩
      · obtain ⟨i, hi, rfl⟩ := List.mem_iff_getElem.1 hp
        exact (h i hi (by omega)).1
      · have step : ∀ j i (hi : i < l.length) (hj : j < l.length), i < j → Lt l[i].1 l[j].1 := by
          intro j
          induction j with
          | zero => intro i _ _ h; omega
          | succ j ih =>
            intro i hi hj hij
            have h1 := (h (j + 1) hj (by omega)).2 (by omega)
            simp only [Nat.add_sub_cancel, List.getD, List.getElem?_eq_getElem (show j < l.length by omega), Option.getD_some] at h1
            by_cases e : i = j
            · subst e; exact h1
            · exact less_trans _ _ _ (ih i hi (by omega) (by omega)) h1
        exact List.pairwise_iff_getElem.2 fun i j hi hj hij => step j i hi hj hij
    · intro h i hi _
      refine ⟨h.ok _ (List.getElem_mem hi), fun h0 => ?_⟩
      simp only [List.getD, List.getElem?_eq_getElem (show i - 1 < l.length by omega), Option.getD_some]
      exact List.pairwise_iff_getElem.1 h.rise (i - 1) i (by omega) hi (by omega)
set_option maxHeartbeats 8000000 in
theorem treeCheck_spec (F : Fz) (w : World) (v : Value) (l : List Pr) (hs : Sat w F) (hv : Prs F v l) :
    Calls Tryd.prog 42 #[v] w (Tells w (.int .i64 (treeE l))) := by
 obtain ⟨a, c, rfl, hc1, hc2⟩ := Sl.shape hv
 unfold maxLen at hc2
 have S := St.start hs
 go_enter Tryd.func42, Tryd.ntmps42
 refine wp_seq_k (fun K1 hK1 => region_wl ?_)
 refine do_ rfl (.int .i64 0) (ex_assign _) ?_
 simp only [pS, pN, pA, pC, pZ]
 refine wl_nil (hK1 _ _ ?_)
 refine wp_seq_k (fun K2 hK2 => ?_)
 refine wp_seq_k (fun K3 hK3 => region_wl ?_)
 refine do_ rfl (.slice a l.length c) (ex_move _) ?_
 simp only [pS, pN, pA, pC, pZ]
 refine do_ rfl (.int .i64 ((l.length : Nat) : Int)) (ex_len Tryd.underlying26 rfl) ?_
 simp only [pS, pN, pA, pC, pZ]
 by_cases hc8 : 60 < l.length
 ·refine do_ rfl (.bool true) (ex_gtr (m := ((l.length : Nat) : Int)) (n := (60 : Int)) (b := true) rfl rfl (decide_eq_true (by omega))) ?_
  simp only [pS, pN, pA, pC, pZ]
  refine wl_nil (hK3 _ _ ?_)
  refine wp_cond_true rfl ?_
  refine wp_seq_k (fun K4 hK4 => region_wl ?_)
  refine do_ rfl (.int .i64 1) (ex_assign _) ?_
  simp only [pS, pN, pA, pC, pZ]
  refine wl_nil (hK4 _ _ ?_)
  refine wp_ret ?_
  (try simp only [Exit.then, Exit.inBlock, ↓reduceIte, Nat.reduceEqDiff])
  refine bodyPost_ret (v := (.int .i64 1)) ?_ rfl ?_
  ·exact res_t rfl rfl
  ·exact ⟨by unfold treeE; rw [if_pos (by omega)], S.gr.below⟩
 ·refine do_ rfl (.bool false) (ex_gtr (m := ((l.length : Nat) : Int)) (n := (60 : Int)) (b := false) rfl rfl (decide_eq_false (by omega))) ?_
  simp only [pS, pN, pA, pC, pZ]
  refine wl_nil (hK3 _ _ ?_)
  refine wp_cond_false rfl ?_
  refine wp_skip ?_
  refine hK2 _ _ ?_
  refine wp_seq_k (fun K5 hK5 => ?_)
  refine wp_seq_k (fun K6 hK6 => region_wl ?_)
  refine do_ rfl (.slice a l.length c) (ex_move _) ?_
  simp only [pS, pN, pA, pC, pZ]
  refine do_ rfl (.int .i64 ((l.length : Nat) : Int)) (ex_len Tryd.underlying26 rfl) ?_
  simp only [pS, pN, pA, pC, pZ]
  refine do_ rfl (.int .i64 0) (ex_move _) ?_
  simp only [pS, pN, pA, pC, pZ]
  refine wl_nil (hK6 _ _ ?_)
  refine wp_block ?_
  refine wp_loop_g (fun mm aa w8 => ∃ (k : Nat) (u7 : Nat → Value), mm = l.length - k ∧ u7 = slots aa ∧ aa = ⟨#[(.slice a l.length c), undef, (u7 2), (u7 3), (u7 4), (u7 5), (.slice a l.length c), (.int .i64 ((l.length : Nat) : Int)), (.bool false), (.slice a l.length c), (.int .i64 ((l.length : Nat) : Int)), (.int .i64 ((k : Nat) : Int)), (u7 12), (u7 13), (u7 14), (u7 15), (u7 16), (u7 17), (u7 18), (u7 19), (u7 20), (u7 21), (u7 22), (u7 23), (u7 24), (u7 25), (u7 26), (u7 27), (u7 28), (u7 29), (u7 30), (u7 31), (u7 32), (u7 33)], []⟩ ∧ St w F w8 F [] [] ∧ (k ≤ l.length) ∧ (treeAt l l.length 0 = treeAt l (l.length - k) k)) _ ⟨0, _, rfl, rfl, rfl, S, (by omega), rfl⟩ ?_
  rintro m9 a10 w11 ⟨k, u7, rfl, -, rfl, S12, hk, hT⟩ K14 hK14
  refine wp_seq_k (fun K15 hK15 => region_wl ?_)
  by_cases hc12 : k < l.length
  ·refine do_ rfl (.bool true) (ex_lss (m := ((k : Nat) : Int)) (n := ((l.length : Nat) : Int)) (b := true) rfl rfl (decide_eq_true (by omega))) ?_
   simp only [pS, pN, pA, pC, pZ]
   refine wl_nil (hK15 _ _ ?_)
   refine wp_seq_k (fun K16 hK16 => ?_)
   refine wp_cond_true rfl ?_
   refine wp_skip ?_
   refine hK16 _ _ ?_
   refine wp_seq_k (fun K17 hK17 => ?_)
   refine wp_block ?_
   refine wp_seq_k (fun K18 hK18 => region_wl ?_)
   refine do_ rfl (.int .i64 ((k : Nat) : Int)) (ex_move _) ?_
   simp only [pS, pN, pA, pC, pZ]
   obtain ⟨p, hp⟩ : ∃ p, l[k]? = some p := ⟨l[k], List.getElem?_eq_getElem hc12⟩
   obtain ⟨b19, o20, ha21, xa23, xc24, xa27, xc28, c22, c26, r25, r29⟩ := Prs.get hv hp
   refine do_ rfl (.pointer (some ⟨b19, o20 + k * 2, none⟩)) (ex_at (i := k) (sz := 2) Tryd.underlying26 (sizeof_34 _) rfl ha21 rfl (by omega) rfl) ?_
   simp only [pS, pN, pA, pC, pZ]
   refine do_ rfl (.agg #[(.slice xa23 p.1.length xc24), (.slice xa27 p.2.length xc28)]) (ex_load rfl (loadN (cs := [(.slice xa23 p.1.length xc24), (.slice xa27 p.2.length xc28)]) Tryd.underlying34 rfl (size_34) (range2 (St.fz S12 c22) (St.fz S12 c26)))) ?_
   simp only [pS, pN, pA, pC, pZ]
   refine stNew S12 (v := fun n => .pointer (some ⟨n, 0, none⟩)) rfl (ex_alloc (zero_34 _)) (fun n30 w31 S32 => ?_)
   simp only [pS, pN, pA, pC, pZ]
   have S32 : St w F w31 F [⟨n30, [(.slice none 0 0), (.slice none 0 0)], 34⟩] [] := S32
   refine do_ rfl (.int .i64 ((k : Nat) : Int)) (ex_assign _) ?_
   simp only [pS, pN, pA, pC, pZ]
   refine stStore (i := 0) (v := (.agg #[(.slice xa23 p.1.length xc24), (.slice xa27 p.2.length xc28)])) S32 rfl rfl rfl rfl (size_34) (allc2 rfl rfl) (Nat.le_of_ble_eq_true rfl) (fun w33 S34 => ?_)
   simp only [pS, pN, pA, pC, pZ]
   have S34 : St w F w33 F [⟨n30, [(.slice xa23 p.1.length xc24), (.slice xa27 p.2.length xc28)], 34⟩] [] := S34
   refine wl_nil (hK18 _ _ ?_)
   refine wp_seq_k (fun K35 hK35 => ?_)
   refine wp_seq_k (fun K36 hK36 => region_wl ?_)
   refine do_ rfl (.agg #[(.slice xa23 p.1.length xc24), (.slice xa27 p.2.length xc28)]) (ex_load rfl (loadN (cs := [(.slice xa23 p.1.length xc24), (.slice xa27 p.2.length xc28)]) Tryd.underlying34 rfl (size_34) (St.range S34 (i := 0) rfl 0 [(.slice xa23 p.1.length xc24), (.slice xa27 p.2.length xc28)] (sub_range 0 rfl)))) ?_
   simp only [pS, pN, pA, pC, pZ]
   refine stTells (v := (.int .i64 (pairE p))) S34 rfl (ex_fn (vs := #[(.agg #[(.slice xa23 p.1.length xc24), (.slice xa27 p.2.length xc28)])]) (map1 rfl) rfl (ent_70 _ _)) (pair_spec _ _ _ p (S34).sat ⟨_, _, _, _, rfl, r25, r29⟩) (fun w37 S38 => ?_)
   simp only [pS, pN, pA, pC, pZ]
   refine do_ rfl (.int .i64 (pairE p)) (ex_assign _) ?_
   simp only [pS, pN, pA, pC, pZ]
   refine wl_nil (hK36 _ _ ?_)
   refine wp_seq_k (fun K39 hK39 => region_wl ?_)
   refine do_ rfl (.int .i64 (pairE p)) (ex_move _) ?_
   simp only [pS, pN, pA, pC, pZ]
   by_cases hc19 : (pairE p) = (0 : Int)
   ·refine do_ rfl (.bool false) (ex_neq (m := (pairE p)) (n := (0 : Int)) (b := false) rfl rfl (bne_eq_false_iff_eq.2 (by omega))) ?_
    simp only [pS, pN, pA, pC, pZ]
    refine wl_nil (hK39 _ _ ?_)
    refine wp_cond_false rfl ?_
    refine wp_skip ?_
    refine hK35 _ _ ?_
    refine wp_seq_k (fun K40 hK40 => ?_)
    by_cases h0 : 0 < k
    ·obtain ⟨q, hq⟩ : ∃ q, l[k - 1]? = some q := ⟨l[k - 1], List.getElem?_eq_getElem (by omega)⟩
     have hqd : l.getD (k - 1) ([], []) = q := by rw [List.getD_eq_getElem?_getD, hq]; rfl
     obtain ⟨b41, o42, ha43, xa45, xc46, xa49, xc50, c44, c48, r47, r51⟩ := Prs.get hv hq
     refine region_gw F 9 [] (by kernel_rfl) (by kernel_rfl) ?_
     simp only [List.take_succ_cons, List.take_zero]
     refine gw_pure rfl rfl (.int .i64 ((k : Nat) : Int)) (fun w52 hCw52 => pureAt_of (ex_move _)) ?_
     simp only [pS, pN, pA, pC, pZ]
     refine gw_pure rfl rfl (.bool true) (fun w52 hCw52 => pureAt_of (ex_gtr (m := ((k : Nat) : Int)) (n := (0 : Int)) (b := true) rfl rfl (decide_eq_true (by omega)))) ?_
     simp only [pS, pN, pA, pC, pZ]
     refine gw_pure rfl rfl (.bool true) (fun w52 hCw52 => pureAt_of (ex_move _)) ?_
     simp only [pS, pN, pA, pC, pZ]
     refine gw_pure rfl rfl (.slice a l.length c) (fun w52 hCw52 => pureAt_of (ex_move _)) ?_
     simp only [pS, pN, pA, pC, pZ]
     refine gw_pure rfl rfl (.int .i64 ((k : Nat) : Int)) (fun w52 hCw52 => pureAt_of (ex_move _)) ?_
     simp only [pS, pN, pA, pC, pZ]
     refine gw_pure rfl rfl (.int .i64 (((k - 1) : Nat) : Int)) (fun w52 hCw52 => pureAt_of (ex_sub (m := ((k : Nat) : Int)) (n := (1 : Int)) (r := (((k - 1) : Nat) : Int)) rfl rfl (by omega) (by omega) (by omega))) ?_
     simp only [pS, pN, pA, pC, pZ]
     refine gw_pure rfl rfl (.pointer (some ⟨b41, o42 + (k - 1) * 2, none⟩)) (fun w52 hCw52 => pureAt_of (ex_at (i := (k - 1)) (sz := 2) Tryd.underlying26 (sizeof_34 _) rfl ha43 rfl (by omega) rfl)) ?_
     simp only [pS, pN, pA, pC, pZ]
     refine gw_pure rfl rfl (.agg #[(.slice xa45 q.1.length xc46), (.slice xa49 q.2.length xc50)]) (fun w52 hCw52 => pureAt_of (ex_load rfl (loadN (cs := [(.slice xa45 q.1.length xc46), (.slice xa49 q.2.length xc50)]) Tryd.underlying34 rfl (size_34) (range2 (St.fz (St.tells S38 hCw52) c44) (St.fz (St.tells S38 hCw52) c48))))) ?_
     simp only [pS, pN, pA, pC, pZ]
     refine gw_pure rfl rfl (.agg #[(.slice xa23 p.1.length xc24), (.slice xa27 p.2.length xc28)]) (fun w52 hCw52 => pureAt_of (ex_load rfl (loadN (cs := [(.slice xa23 p.1.length xc24), (.slice xa27 p.2.length xc28)]) Tryd.underlying34 rfl (size_34) (St.range (St.tells S38 hCw52) (i := 0) rfl 0 [(.slice xa23 p.1.length xc24), (.slice xa27 p.2.length xc28)] (sub_range 0 rfl))))) ?_
     simp only [pS, pN, pA, pC, pZ]
     refine gw_nil ?_
     intro w53 hC55 hF56
     clear hF56
     have S54 := St.tells S38 hC55
     simp only [List.drop_succ_cons, List.drop_zero]
     refine stTells (v := (.int .i64 (cmpL q.1 p.1))) S54 rfl (ex_fn (vs := #[(.agg #[(.slice xa45 q.1.length xc46), (.slice xa49 q.2.length xc50)]), (.agg #[(.slice xa23 p.1.length xc24), (.slice xa27 p.2.length xc28)])]) (map2 rfl rfl) rfl (ent_71 _ _)) (compare_spec _ _ _ _ q p (S54).sat ⟨_, _, _, _, rfl, r47, r51⟩ ⟨_, _, _, _, rfl, r25, r29⟩) (fun w57 S58 => ?_)
     simp only [pS, pN, pA, pC, pZ]
     by_cases hc31 : (0 : Int) ≤ (cmpL q.1 p.1)
     ·refine do_ rfl (.bool true) (ex_geq (m := (cmpL q.1 p.1)) (n := (0 : Int)) (b := true) rfl rfl (decide_eq_true (by omega))) ?_
      simp only [pS, pN, pA, pC, pZ]
      refine do_ rfl (.bool true) (ex_pick (b := true) rfl) ?_
      simp only [pS, pN, pA, pC, pZ]
      refine wl_nil (hK40 _ _ ?_)
      refine wp_cond_true rfl ?_
      refine wp_seq_k (fun K59 hK59 => region_wl ?_)
      refine do_ rfl (.int .i64 3) (ex_assign _) ?_
      simp only [pS, pN, pA, pC, pZ]
      refine wl_nil (hK59 _ _ ?_)
      refine wp_ret ?_
      (try simp only [Exit.then, Exit.inBlock, ↓reduceIte, Nat.reduceEqDiff])
      refine bodyPost_ret (v := (.int .i64 3)) ?_ rfl ?_
      ·exact res_t rfl rfl
      ·exact ⟨by unfold treeE; rw [if_neg (by omega), hT, treeAt_at hp, if_neg (by omega), if_pos ⟨h0, by rw [hqd]; exact hc31⟩], S58.gr.below⟩
     ·refine do_ rfl (.bool false) (ex_geq (m := (cmpL q.1 p.1)) (n := (0 : Int)) (b := false) rfl rfl (decide_eq_false (by omega))) ?_
      simp only [pS, pN, pA, pC, pZ]
      refine do_ rfl (.bool false) (ex_pick (b := true) rfl) ?_
      simp only [pS, pN, pA, pC, pZ]
      refine wl_nil (hK40 _ _ ?_)
      refine wp_cond_false rfl ?_
      refine wp_skip ?_
      refine hK17 _ _ ?_
      refine region_wl ?_
      refine do_ rfl (.int .i64 (((k + 1) : Nat) : Int)) (ex_add (m := ((k : Nat) : Int)) (n := (1 : Int)) (r := (((k + 1) : Nat) : Int)) rfl rfl (by omega) (by omega) (by omega)) ?_
      simp only [pS, pN, pA, pC, pZ]
      refine do_ rfl (.int .i64 (((k + 1) : Nat) : Int)) (ex_move _) ?_
      simp only [pS, pN, pA, pC, pZ]
      refine wl_nil ?_
      have S58 := St.drop S58 (L' := []) (.cons _ (List.Sublist.refl _))
      exact hK14 _ _ _ (by omega) ⟨(k + 1), _, rfl, rfl, rfl, S58, (by omega), (by rw [hT, treeAt_at hp, if_neg (by omega), if_neg (fun h => hc31 (by have := h.2; rw [hqd] at this; exact this))])⟩
    ·refine region_gw F 9 [] (by kernel_rfl) (by kernel_rfl) ?_
     simp only [List.take_succ_cons, List.take_zero]
     refine gw_pure rfl rfl (.int .i64 ((k : Nat) : Int)) (fun w60 hCw60 => pureAt_of (ex_move _)) ?_
     simp only [pS, pN, pA, pC, pZ]
     refine gw_pure rfl rfl (.bool false) (fun w60 hCw60 => pureAt_of (ex_gtr (m := ((k : Nat) : Int)) (n := (0 : Int)) (b := false) rfl rfl (decide_eq_false (by omega)))) ?_
     simp only [pS, pN, pA, pC, pZ]
     refine gw_pure rfl rfl (.bool false) (fun w60 hCw60 => pureAt_of (ex_move _)) ?_
     simp only [pS, pN, pA, pC, pZ]
     refine gw_skip (wanted_no rfl rfl rfl (c := false) rfl (by decide)) ?_
     simp only [pS, pN, pA, pC, pZ]
     refine gw_skip (wanted_no rfl rfl rfl (c := false) rfl (by decide)) ?_
     simp only [pS, pN, pA, pC, pZ]
     refine gw_skip (wanted_no rfl rfl rfl (c := false) rfl (by decide)) ?_
     simp only [pS, pN, pA, pC, pZ]
     refine gw_skip (wanted_no rfl rfl rfl (c := false) rfl (by decide)) ?_
     simp only [pS, pN, pA, pC, pZ]
     refine gw_skip (wanted_no rfl rfl rfl (c := false) rfl (by decide)) ?_
     simp only [pS, pN, pA, pC, pZ]
     refine gw_skip (wanted_no rfl rfl rfl (c := false) rfl (by decide)) ?_
     simp only [pS, pN, pA, pC, pZ]
     refine gw_nil ?_
     intro w61 hC63 hF64
     clear hF64
     have S62 := St.tells S38 hC63
     simp only [List.drop_succ_cons, List.drop_zero]
     refine doN (wanted_no rfl rfl rfl (c := false) rfl (by decide)) ?_
     simp only [pS, pN, pA, pC, pZ]
     refine doN (wanted_no rfl rfl rfl (c := false) rfl (by decide)) ?_
     simp only [pS, pN, pA, pC, pZ]
     refine do_ rfl (.bool false) (ex_pick (b := false) rfl) ?_
     simp only [pS, pN, pA, pC, pZ]
     refine wl_nil (hK40 _ _ ?_)
     refine wp_cond_false rfl ?_
     refine wp_skip ?_
     refine hK17 _ _ ?_
     refine region_wl ?_
     refine do_ rfl (.int .i64 (((k + 1) : Nat) : Int)) (ex_add (m := ((k : Nat) : Int)) (n := (1 : Int)) (r := (((k + 1) : Nat) : Int)) rfl rfl (by omega) (by omega) (by omega)) ?_
     simp only [pS, pN, pA, pC, pZ]
     refine do_ rfl (.int .i64 (((k + 1) : Nat) : Int)) (ex_move _) ?_
     simp only [pS, pN, pA, pC, pZ]
     refine wl_nil ?_
     have S62 := St.drop S62 (L' := []) (.cons _ (List.Sublist.refl _))
     exact hK14 _ _ _ (by omega) ⟨(k + 1), _, rfl, rfl, rfl, S62, (by omega), (by rw [hT, treeAt_at hp, if_neg (by omega), if_neg (fun h => h0 h.1)])⟩
   ·refine do_ rfl (.bool true) (ex_neq (m := (pairE p)) (n := (0 : Int)) (b := true) rfl rfl (bne_iff_ne.2 (by omega))) ?_
    simp only [pS, pN, pA, pC, pZ]
    refine wl_nil (hK39 _ _ ?_)
    refine wp_cond_true rfl ?_
    refine wp_seq_k (fun K65 hK65 => region_wl ?_)
    refine do_ rfl (.int .i64 (pairE p)) (ex_move _) ?_
    simp only [pS, pN, pA, pC, pZ]
    refine do_ rfl (.int .i64 (pairE p)) (ex_assign _) ?_
    simp only [pS, pN, pA, pC, pZ]
    refine wl_nil (hK65 _ _ ?_)
    refine wp_ret ?_
    (try simp only [Exit.then, Exit.inBlock, ↓reduceIte, Nat.reduceEqDiff])
    refine bodyPost_ret (v := (.int .i64 (pairE p))) ?_ rfl ?_
    ·exact res_t rfl rfl
    ·exact ⟨by unfold treeE; rw [if_neg (by omega), hT, treeAt_at hp, if_pos hc19], S38.gr.below⟩
  ·refine do_ rfl (.bool false) (ex_lss (m := ((k : Nat) : Int)) (n := ((l.length : Nat) : Int)) (b := false) rfl rfl (decide_eq_false (by omega))) ?_
   simp only [pS, pN, pA, pC, pZ]
   refine wl_nil (hK15 _ _ ?_)
   refine wp_seq_k (fun K66 hK66 => ?_)
   refine wp_cond_false rfl ?_
   refine wp_exit ?_
   refine hK5 _ _ ?_
   refine wp_seq_k (fun K67 hK67 => region_wl ?_)
   refine do_ rfl (.int .i64 0) (ex_assign _) ?_
   simp only [pS, pN, pA, pC, pZ]
   refine wl_nil (hK67 _ _ ?_)
   refine wp_ret ?_
   (try simp only [Exit.then, Exit.inBlock, ↓reduceIte, Nat.reduceEqDiff])
   refine bodyPost_ret (v := (.int .i64 0)) ?_ rfl ?_
   ·exact res_t rfl rfl
   ·exact ⟨by unfold treeE; rw [if_neg (by omega), hT, treeAt_end (by omega)], S12.gr.below⟩
end Go.Proofs.YtikklmjengkliaaDoor
