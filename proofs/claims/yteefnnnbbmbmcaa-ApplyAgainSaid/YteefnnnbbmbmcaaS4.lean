/- Rows as blocks: copied, cleared, made, grown. No program in sight. -/
import Derived.Test.YteefnnnbbmbmcaaS3
import Derived.Laws.IdiomCopy
import Derived.ArgAppend
import Derived.Lib.AppendZerosOnto
import Derived.Lib.Overlaps
import Derived.Laws.MakeOwn
namespace Go.Proofs.Yteefnnnbbmbmcaa
open Go.RowKit
set_option linter.unusedVariables false
section
variable {P : Program} {w0 w w' : World} {F0 F : Fz} {L : List Blk} {M : List RowP} {α : Type} {k base E : Nat} {R : Fz → List Value → α → Prop} {hR : ∀ F F' x p, Le F F' → R F x p → R F' x p} {v : Value} {l : List α}
theorem St.other (S : St w0 F0 w F L M) {r : Nat} {p : RowP} (hM : M[r]? = some p) : ∀ s ∈ M.eraseIdx r, ∀ g, p.ob = some g → s.ob ≠ some g := by
  obtain ⟨hi, he⟩ := List.getElem?_eq_some_iff.1 hM
  intro s hs g hg hc
  obtain ⟨k', hk, rfl⟩ := List.mem_iff_getElem.1 hs
  have hp := List.pairwise_iff_getElem.1 S.rr
  rw [List.length_eraseIdx, if_pos hi] at hk
  rw [List.getElem_eraseIdx] at hc
  split at hc
  · rename_i hlt
    have := hp k' r (by omega) hi hlt g hc; rw [he] at this; exact this hg
  · rename_i hge
    have := hp r (k' + 1) hi (by omega) (by omega) g (by rw [he]; exact hg); exact this hc
/-- A row of the call's own as a block whose cells are known. -/
theorem St.rowBlk {r g n cap : Nat} (S : St w0 F0 w F L M) (hM : M[r]? = some (ownP k R hR E base (.slice (some ⟨g, 0, none⟩) n cap) l)) :
    ∃ c el, St w0 F0 w F (⟨g, c, E⟩ :: L) (M.eraseIdx r) ∧ n = l.length ∧ n ≤ cap ∧ cap ≤ maxLen ∧ c.length = cap * k ∧ c.take (n * k) = el.flatten ∧ AllR (R F) el l ∧ (∀ x ∈ el, x.length = k) ∧ base ≤ g := by
  have hown := S.own hM
  obtain ⟨hi, he⟩ := List.getElem?_eq_some_iff.1 hM
  have hm : ownP k R hR E base (.slice (some ⟨g, 0, none⟩) n cap) l ∈ M := by rw [← he]; exact List.getElem_mem hi
  obtain ⟨el, ⟨e1, e2⟩, h2, h3⟩ := hown.ex
  have hsub := List.eraseIdx_sublist M r
  have hr0 := (S.row _ hm).2 g rfl
  rcases e2 with ⟨e2, _⟩ | ⟨g', cap', cur, e2, q0, hg, q1, q2, q3, q4⟩
  · cases e2
  · injection e2 with e2 e2n e2c
    injection e2 with e2
    injection e2 with e2
    subst e2; subst e2n; subst e2c
    refine ⟨cur.toList, el, ⟨S.gr, fun x hx => ?_, fun s hs => S.row s (hsub.subset hs), ?_, fun s hs x hx => ?_, S.rr.sublist hsub⟩, rfl, q1, q2, by simpa using q3, q4, h2, h3, q0⟩
    · rcases List.mem_cons.1 hx with rfl | hx
      · exact ⟨by simpa using hg, hr0.2.1, hr0.2.2⟩
      · exact S.blk x hx
    · exact List.pairwise_cons.2 ⟨fun x hx e => S.rb _ hm x hx (congrArg some e), S.bb⟩
    · rcases List.mem_cons.1 hx with rfl | hx
      · exact S.other hM s hs g rfl
      · exact S.rb s (hsub.subset hs) x hx
theorem St.blkRow {g cap : Nat} {c : List Value} (S : St w0 F0 w F (⟨g, c, E⟩ :: L) M) {el : List (List Value)} (hc : c.take (l.length * k) = el.flatten) (h2 : AllR (R F) el l) (h3 : ∀ x ∈ el, x.length = k) (h4 : c.length = cap * k) (h5 : l.length ≤ cap) (h6 : cap ≤ maxLen) (hb : base ≤ g) : St w0 F0 w F L (ownP k R hR E base (.slice (some ⟨g, 0, none⟩) l.length cap) l :: M) := by
  have hb0 := S.blk ⟨g, c, E⟩ (by simp)
  have hbb := List.pairwise_cons.1 S.bb
  refine ⟨S.gr, fun x hx => S.blk x (by simp [hx]), fun r hr => ?_, hbb.2, fun r hr x hx => ?_, List.pairwise_cons.2 ⟨fun s hs b hb' hc' => ?_, S.rr⟩⟩
  · rcases List.mem_cons.1 hr with rfl | hr
    · refine ⟨⟨⟨el, ⟨?_, .inr ⟨g, cap, c.toArray, rfl, hb, hb0.1, h5, h6, by simpa using h4, by simpa using hc⟩⟩, h2, h3⟩, fun b e => ?_⟩, fun b e => ?_⟩
      · rw [flatten_len h3, h2.len]
      · cases e; exact hb0.2.1
      · cases e; exact ⟨S.blk_lt (x := ⟨g, c, E⟩) (by simp), hb0.2⟩
    · exact S.row r hr
  · rcases List.mem_cons.1 hr with rfl | hr
    · intro e; cases e; exact hbb.1 x hx rfl
    · exact S.rb r hr x (by simp [hx])
  · cases hb'; exact S.rb s hs ⟨g, c, E⟩ (by simp) hc'
theorem run_copyN (w : World) (dT sT ty elem : TypeId) (b o dLen dCap k : Nat) (a : Addr) (sLen sCap m : Nat) (cs : List Value)
    (hu : P.underlying dT = some (.slice elem)) (hs : (P.info? elem).map (·.size) = some k) (hn : Nat.min sLen dLen = m) (hl : cs.length = m * k)
    (hsrc : ∀ j v, cs[j]? = some v → w.cell? (a.add j) = some v) (ht : w.there b o cs.length) (h1 : ∀ v ∈ cs, v.oneCell' = true) :
    (Builtin.copy_ #[dT, sT] ty #[.slice (some ⟨b, o, none⟩) dLen dCap, .slice (some a) sLen sCap]).run P w = .ok (.int .i64 (m : Int)) (w.setCells b o cs) := by
  have hf := run_firstCells_some (P := P) w k m a sLen sCap cs hl hsrc
  have hst := run_storeCells_cells (P := P) b o cs 0 w (fun j hj => by simpa using (ht j hj).1) (fun j hj => by simpa using (ht j hj).2) h1
  cases hq : P.info? elem with
  | none => simp [hq] at hs
  | some i =>
    have hi : i.size = k := by simpa [hq] using hs
    simp [Builtin.copy_, run_underlying hu, Builtin.lenOf, sizeOf, typeInfo, hq, hi, hn, hf, hst]
    rfl
/-- 'copy' into a block of the call's own. -/
theorem stCopy {ops : Array Oper} {Q : Exit → Act → World → Prop} {a : Act} {rest : List Oper} {d : Option Tmp} {t dT sT elem : TypeId} {x y : Operand} {pos : String} {after : Array Edge} {guard : Option (Nat × Bool)} {i g j dl dc sl sc : Nat} {T : TypeId} {c : List Value} {ad : Addr} (m : Nat) (cs : List Value) (S : St w0 F0 w F L M)
    (hw : Region.wanted ⟨d, .call ⟨.builtin .copy, #[x, y], #[dT, sT]⟩, t, pos, after, guard⟩ (yielded ops a.tmps) = true) (hu : P.underlying dT = some (.slice elem)) (hz : (P.info? elem).map (·.size) = some k)
    (hx : a.eval x = .slice (some ⟨g, j, none⟩) dl dc) (hy : a.eval y = .slice (some ad) sl sc) (hL : L[i]? = some ⟨g, c, T⟩) (hm : Nat.min sl dl = m) (hl : cs.length = m * k) (hfit : j + cs.length ≤ c.length)
    (hsrc : ∀ q u, cs[q]? = some u → w.cell? (ad.add q) = some u) (h1 : ∀ u ∈ cs, u.oneCell' = true)
    (h : ∀ w', St w0 F0 w' F (L.set i ⟨g, splice c j cs, T⟩) M → WL P ops Q rest (a.put d (.int .i64 (m : Int))) w') : WL P ops Q (⟨d, .call ⟨.builtin .copy, #[x, y], #[dT, sT]⟩, t, pos, after, guard⟩ :: rest) a w := by
  have hrun := run_copyN (P := P) w dT sT t elem g j dl dc k ad sl sc m cs hu hz hm hl hsrc (S.there hL j cs.length hfit) h1
  refine do_ hw _ ?_ (h _ (S.store hL j cs hfit))
  simp only [execOp, resolve, invoke, builtin, Sem.run_bind, Sem.run_pure, Result.andThen_ok, List.map_toArray, List.map_cons, List.map_nil, hx, hy, hrun]
theorem run_clearN (w : World) (t e ty : TypeId) (z : Value) (ht : P.underlying t = some (.slice e)) (hv : ∀ w, (zeroValue e).run P w = .ok z w) (b o n c : Nat) (zs : List Value) (hz : (Builtin.zeroCells z.cells n).toList = zs) (hn : 0 < n)
    (hth : w.there b o zs.length) (h1 : ∀ v ∈ zs, v.oneCell' = true) :
    (Builtin.clear_ #[t] ty #[.slice (some ⟨b, o, none⟩) n c]).run P w = .ok (.tuple #[]) (w.setCells b o zs) := by
  have hst := run_storeCells_cells (P := P) b o zs 0 w (fun j hj => by simpa using (hth j hj).1) (fun j hj => by simpa using (hth j hj).2) h1
  simp only [Nat.add_zero] at hst
  obtain ⟨m, rfl⟩ : ∃ m, n = m + 1 := ⟨n - 1, by omega⟩
  simp [Builtin.clear_, run_underlying ht, hv, hz, hst]
/-- 'clear' in a block of the call's own. -/
theorem stClear {ops : Array Oper} {Q : Exit → Act → World → Prop} {a : Act} {rest : List Oper} {d : Option Tmp} {t sT elem : TypeId} {x : Operand} {pos : String} {after : Array Edge} {guard : Option (Nat × Bool)} {i g j n cp : Nat} {T : TypeId} {c : List Value} (z : Value) (zs : List Value) (S : St w0 F0 w F L M)
    (hw : Region.wanted ⟨d, .call ⟨.builtin .clear, #[x], #[sT]⟩, t, pos, after, guard⟩ (yielded ops a.tmps) = true) (hu : P.underlying sT = some (.slice elem)) (hv : ∀ w, (zeroValue elem).run P w = .ok z w) (hz : (Builtin.zeroCells z.cells n).toList = zs)
    (hx : a.eval x = .slice (some ⟨g, j, none⟩) n cp) (hn : 0 < n) (hL : L[i]? = some ⟨g, c, T⟩) (hfit : j + zs.length ≤ c.length) (h1 : ∀ u ∈ zs, u.oneCell' = true)
    (h : ∀ w', St w0 F0 w' F (L.set i ⟨g, splice c j zs, T⟩) M → WL P ops Q rest (a.put d (.tuple #[])) w') : WL P ops Q (⟨d, .call ⟨.builtin .clear, #[x], #[sT]⟩, t, pos, after, guard⟩ :: rest) a w := by
  have hrun := run_clearN (P := P) w sT elem t z hu hv g j n cp zs hz hn (S.there hL j zs.length hfit) h1
  refine do_ hw _ ?_ (h _ (S.store hL j zs hfit))
  simp only [execOp, resolve, invoke, builtin, Sem.run_bind, Sem.run_pure, Result.andThen_ok, List.map_toArray, List.map_cons, List.map_nil, hx, hrun]
/-- 'make([]T, n)'. -/
theorem stMake {ops : Array Oper} {Q : Exit → Act → World → Prop} {a : Act} {rest : List Oper} {d : Option Tmp} {t T E : TypeId} {x y : Operand} {pos : String} {after : Array Edge} {guard : Option (Nat × Bool)} {n m : Nat} (S : St w0 F0 w F L M)
    (hw : Region.wanted ⟨d, .makeSlice T x y, t, pos, after, guard⟩ (yielded ops a.tmps) = true) (inf : TypeInfo) (z : Value) (bytes : Nat) (ht : P.underlying T = some (.slice E)) (hi : P.info? E = some inf) (hz : inf.zero = some z) (hsize : inf.size = k) (hby : inf.bytes = bytes)
    (hx : a.eval x = .int .i64 (n : Int)) (hy : a.eval y = .int .i64 (m : Int)) (hnm : n ≤ m) (hb : bytes * m ≤ 281474976710656) (h63 : m ≤ 9223372036854775807)
    (h : ∀ g w', St w0 F0 w' F (⟨g, (madeCells z.cells (m * k)).toList, E⟩ :: L) M → WL P ops Q rest (a.put d (.slice (some ⟨g, 0, none⟩) n m)) w') : WL P ops Q (⟨d, .makeSlice T x y, t, pos, after, guard⟩ :: rest) a w := by
  subst hsize
  subst hby
  have hb' : (inf.bytes : Int) * (m : Int) ≤ 281474976710656 := by
    have h : ((inf.bytes * m : Nat) : Int) ≤ 281474976710656 := by omega
    rwa [Int.natCast_mul] at h
  have hrun := run_make (P := P) w T E inf z ht hi hz .i64 .i64 (n : Int) (m : Int) (by omega) (by omega) hb' (by omega)
  simp only [Int.toNat_natCast] at hrun
  refine do_ hw _ ?_ (h _ _ (S.alloc _ _))
  simp only [execOp, hx, hy, Sem.run_bind, hrun, Result.andThen_ok, Sem.run_pure]
/-- 'append(s, make([]T, m)...)' where there is no room: a new block. -/
theorem stGrow {ops : Array Oper} {Q : Exit → Act → World → Prop} {a : Act} {rest : List Oper} {d : Option Tmp} {t T I E : TypeId} {x s : Operand} {pos : String} {after : Array Edge} {guard : Option (Nat × Bool)} {n m cap : Nat} {b : Addr} (nm : Nat) (olds : List Value) (S : St w0 F0 w F L M)
    (hw : Region.wanted ⟨d, .call ⟨.builtin .append, #[s, x], #[T, I]⟩, t, pos, after, guard⟩ (yielded ops a.tmps) = true)
    (inf : TypeInfo) (z : Value) (bytes : Nat) (ht : P.underlying T = some (.slice E)) (htI : P.underlying I = some (.int .i64)) (hi : P.info? E = some inf) (hz : inf.zero = some z) (hsize : inf.size = k) (hby : inf.bytes = bytes) (hzs : z.cells.size = k) (hk : 0 < k)
    (hs : a.eval s = .slice (some b) n cap) (hx : a.eval x = .int .i64 (m : Int)) (hm : 0 < m) (hlo : olds.length = n * k) (ho : ∀ q u, olds[q]? = some u → w.cell? (b.add q) = some u)
    (hnm : n + m = nm) (hgrow : cap < nm) (h63 : nm ≤ maxLen) (hbytes : nm * bytes ≤ 140737488355328)
    (h : ∀ g cap' news more w', nm ≤ cap' → cap' ≤ maxLen → news.length = m * k → (olds ++ news ++ more).length = cap' * k → St w0 F0 w' F (⟨g, olds ++ news ++ more, E⟩ :: L) M → WL P ops Q rest (a.put d (.slice (some ⟨g, 0, none⟩) nm cap')) w') : WL P ops Q (⟨d, .call ⟨.builtin .append, #[s, x], #[T, I]⟩, t, pos, after, guard⟩ :: rest) a w := by
  subst hnm
  subst hsize
  subst hby
  have hsmall : n + m ≤ 9223372036854775807 := by simp only [maxLen] at h63; omega
  have hold := run_firstCells_some (P := P) w.drew inf.size n b n cap olds hlo ho
  have hmb : m * inf.bytes ≤ 281474976710656 := by
    have := Nat.mul_le_mul_right inf.bytes (show m ≤ n + m by omega)
    omega
  have hrun := Lib.run_append_grow_zeros (P := P) w T I t E inf z .i64 .i64 ht htI hi hz (some b) n cap olds hold m hm hk hgrow (by omega) hmb (growslice_fits hgrow hbytes)
  have hge := grownCap_ge w (n + m) cap E
  have hcm : grownCap w (n + m) cap E ≤ maxLen := grownCap_le_maxLen w (n + m) cap E h63
  have S2 := (S.tells (show Below w.heap.size w w.drew from (Below.refl _ _).drew)).alloc (olds.toArray ++ Builtin.zeroCells z.cells m ++ Builtin.zeroCells z.cells (grownCap w (n + m) cap E - (n + m))) E
  have e : (olds.toArray ++ Builtin.zeroCells z.cells m ++ Builtin.zeroCells z.cells (grownCap w (n + m) cap E - (n + m))).toList = olds ++ (Builtin.zeroCells z.cells m).toList ++ (Builtin.zeroCells z.cells (grownCap w (n + m) cap E - (n + m))).toList := by simp
  rw [e] at S2
  have hnl : (Builtin.zeroCells z.cells m).toList.length = m * inf.size := by rw [Array.length_toList, size_zeroCells, hzs]
  refine do_ hw _ ?_ (h _ _ _ _ _ hge hcm hnl ?_ S2)
  · simp only [execOp, resolve, invoke, builtin, Sem.run_bind, Sem.run_pure, Result.andThen_ok, List.map_toArray, List.map_cons, List.map_nil, hs, hx, hrun]
    rfl
  · have hzl : (Builtin.zeroCells z.cells (grownCap w (n + m) cap E - (n + m))).toList.length = (grownCap w (n + m) cap E - (n + m)) * inf.size := by rw [Array.length_toList, size_zeroCells, hzs]
    rw [List.length_append, List.length_append, hlo, hnl, hzl, ← Nat.add_mul, ← Nat.add_mul]
    congr 1
    omega
/-- 'append' where there is room, onto a block of the call's own. -/
theorem stRoom {ops : Array Oper} {Q : Exit → Act → World → Prop} {a : Act} {rest : List Oper} {d : Option Tmp} {t T E : TypeId} {x s : Operand} {pos : String} {after : Array Edge} {guard : Option (Nat × Bool)} {i g n m cap cp : Nat} {ad : Addr} {c : List Value} {T' : TypeId} (nm : Nat) (news : List Value) (S : St w0 F0 w F L M)
    (hw : Region.wanted ⟨d, .call ⟨.builtin .append, #[s, x], #[T, T]⟩, t, pos, after, guard⟩ (yielded ops a.tmps) = true)
    (inf : TypeInfo) (ht : P.underlying T = some (.slice E)) (hi : P.info? E = some inf) (hsize : inf.size = k)
    (hs : a.eval s = .slice (some ⟨g, 0, none⟩) n cap) (hx : a.eval x = .slice (some ad) m cp) (hL : L[i]? = some ⟨g, c, T'⟩) (hln : news.length = m * k) (hn : ∀ q u, news[q]? = some u → w.cell? (ad.add q) = some u) (h1 : ∀ u ∈ news, u.oneCell' = true)
    (hnm : n + m = nm) (hroom : nm ≤ cap) (hfit : n * k + news.length ≤ c.length)
    (h : ∀ w', St w0 F0 w' F (L.set i ⟨g, splice c (n * k) news, T'⟩) M → WL P ops Q rest (a.put d (.slice (some ⟨g, 0, none⟩) nm cap)) w') : WL P ops Q (⟨d, .call ⟨.builtin .append, #[s, x], #[T, T]⟩, t, pos, after, guard⟩ :: rest) a w := by
  subst hnm
  subst hsize
  have ht0 := S.there hL (n * inf.size) news.length hfit
  have hrun := run_append_room_cells (P := P) w T t E inf ht hi g 0 n cap ad m cp news hln hn h1 hroom (fun j hj => by simpa using (ht0 j hj).1) (fun j hj => by simpa using (ht0 j hj).2)
  rw [Nat.zero_add] at hrun
  refine do_ hw _ ?_ (h _ (S.store hL (n * inf.size) news hfit))
  simp only [execOp, resolve, invoke, builtin, Sem.run_bind, Sem.run_pure, Result.andThen_ok, List.map_toArray, List.map_cons, List.map_nil, hs, hx, hrun]
end
/-- A call that turns the caller's own. -/
theorem stOwn {P : Program} {w0 w : World} {F0 F : Fz} {ops : Array Oper} {Q : Exit → Act → World → Prop} {a : Act} {rest : List Oper} {o : Oper} {k : FuncId} {vs : Array Value} {L : List Blk} {M : Value → List RowP} (hw : Region.wanted o (yielded ops a.tmps) = true)
    (hr : (execOp a.eval o).run P w = .ok (.enter k vs) w) (hc : Calls P k vs w fun e w' => ∃ v, e = .returned v ∧ St w0 F0 w' F L (M v))
    (h : ∀ v w', St w0 F0 w' F L (M v) → WL P ops Q rest (a.put o.dst v) w') : WL P ops Q (o :: rest) a w :=
  doC hw hr hc fun e w' ⟨v, he, hS⟩ => ⟨v, he, h v w' hS⟩
end Go.Proofs.Yteefnnnbbmbmcaa
