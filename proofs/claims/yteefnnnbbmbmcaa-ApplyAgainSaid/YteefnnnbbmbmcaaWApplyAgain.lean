/- Walk of ApplyAgain -/
import Derived.Test.YteefnnnbbmbmcaaK6
namespace Go.Proofs.Yteefnnnbbmbmcaa
open Go.RowKit
set_option maxRecDepth 100000
set_option linter.unusedVariables false
set_option linter.unusedSimpArgs false
/-- 'append(s, t...)' where there is no room: a new block. -/
theorem stGrow2 {P : Program} {w0 w : World} {F0 F : Fz} {L : List Blk} {M : List RowP} {k : Nat} {ops : Array Oper} {Q : Exit → Act → World → Prop} {a : Act} {rest : List Oper} {d : Option Tmp} {t T E : TypeId} {x s : Operand} {pos : String} {after : Array Edge} {guard : Option (Nat × Bool)} {n m cap cp : Nat} {b ad : Addr} (nm : Nat) (olds news : List Value) (S : St w0 F0 w F L M)
    (hw : Region.wanted ⟨d, .call ⟨.builtin .append, #[s, x], #[T, T]⟩, t, pos, after, guard⟩ (yielded ops a.tmps) = true)
    (inf : TypeInfo) (z : Value) (bytes : Nat) (ht : P.underlying T = some (.slice E)) (hi : P.info? E = some inf) (hz : inf.zero = some z) (hsize : inf.size = k) (hby : inf.bytes = bytes) (hzs : z.cells.size = k)
    (hs : a.eval s = .slice (some b) n cap) (hx : a.eval x = .slice (some ad) m cp) (hlo : olds.length = n * k) (ho : ∀ q u, olds[q]? = some u → w.cell? (b.add q) = some u) (hln : news.length = m * k) (hn : ∀ q u, news[q]? = some u → w.cell? (ad.add q) = some u)
    (hnm : n + m = nm) (hgrow : cap < nm) (h63 : nm ≤ maxLen) (hbytes : nm * bytes ≤ 140737488355328)
    (h : ∀ g cap' more w', nm ≤ cap' → cap' ≤ maxLen → (olds ++ news ++ more).length = cap' * k → St w0 F0 w' F (⟨g, olds ++ news ++ more, E⟩ :: L) M → WL P ops Q rest (a.put d (.slice (some ⟨g, 0, none⟩) nm cap')) w') : WL P ops Q (⟨d, .call ⟨.builtin .append, #[s, x], #[T, T]⟩, t, pos, after, guard⟩ :: rest) a w := by
  subst hnm
  subst hsize
  subst hby
  have hsmall : n + m ≤ 9223372036854775807 := by simp only [maxLen] at h63; omega
  have hrun := run_append_grow (P := P) w T t E inf z ht hi hz b n cap olds hlo ho ad m cp news hln hn hgrow (by omega) (growslice_fits hgrow hbytes)
  have hge := grownCap_ge w (n + m) cap E
  have hcm : grownCap w (n + m) cap E ≤ maxLen := grownCap_le_maxLen w (n + m) cap E h63
  have S2 := (S.tells (show Below w.heap.size w w.drew from (Below.refl _ _).drew)).alloc (olds.toArray ++ news.toArray ++ Builtin.zeroCells z.cells (grownCap w (n + m) cap E - (n + m))) E
  have e : (olds.toArray ++ news.toArray ++ Builtin.zeroCells z.cells (grownCap w (n + m) cap E - (n + m))).toList = olds ++ news ++ (Builtin.zeroCells z.cells (grownCap w (n + m) cap E - (n + m))).toList := by simp
  rw [e] at S2
  refine do_ hw _ ?_ (h _ _ _ _ hge hcm ?_ S2)
  · simp only [execOp, resolve, invoke, builtin, Sem.run_bind, Sem.run_pure, Result.andThen_ok, List.map_toArray, List.map_cons, List.map_nil, hs, hx, hrun]
    rfl
  · have hzl : (Builtin.zeroCells z.cells (grownCap w (n + m) cap E - (n + m))).toList.length = (grownCap w (n + m) cap E - (n + m)) * inf.size := by rw [Array.length_toList, size_zeroCells, hzs]
    rw [List.length_append, List.length_append, hlo, hln, hzl, ← Nat.add_mul, ← Nat.add_mul]
    congr 1
    omega
/-- The beginning of a block of structs that is done with. -/
theorem sl_of_head {α : Type} {k : Nat} {R : Fz → List Value → α → Prop} {F : Fz} {n cap : Nat} {c : List Value} {el : List (List Value)} {l : List α} (h : ∀ j v, c[j]? = some v → cellF F n j = some v) {more : List Value} (e : c = el.flatten ++ more) (hR : AllR (R F) el l) (hk : ∀ x ∈ el, x.length = k) (hl : l.length ≤ cap) (hc : cap ≤ maxLen) : Sl k R F (.slice (some ⟨n, 0, none⟩) l.length cap) l := by
  subst e
  refine ⟨el, Rw.of_cells hl hc fun j u hu => ?_, hR, hk⟩
  rw [Nat.zero_add]
  refine h j u ?_
  rw [List.getElem?_append_left (List.getElem?_eq_some_iff.1 hu).1]
  exact hu
/-- The same writes again, if their names differ. -/
theorem apply_again {f g : Forest} {ws : List Wr} (hf : ForestOk 60 f) (hw : ∀ w ∈ ws, WrOk w) (hd : ws.Pairwise fun a b => a.name ≠ b.name) (h : applyF f ws = some g) : applyF g ws = some g := by
  have key : ∀ (us : List Wr) (x : Forest), ForestOk 60 x → (∀ w ∈ us, WrOk w) → (∀ w ∈ us, getF x w.name w.key = if w.gone = true then none else some w.value) → applyF x us = some x := by
    intro us
    induction us with
    | nil => intro x _ _ _; rfl
    | cons w us ih =>
      intro x hx hok hget
      have hw0 := hok w (by simp)
      have hg := hget w (by simp)
      have hnext : nextT w (treeF x w.name) = treeF x w.name := by
        have hr := (treeF_ok hx w.name).rise
        refine tree_ext ?_ hr fun k => ?_
        · unfold nextT; split
          · exact rise_delT hr _
          · exact rise_putT hr _ _
        · rw [nextT_get hr]
          by_cases hk : w.key = k
          · subst hk; rw [if_pos rfl]; exact hg.symm
          · rw [if_neg hk]
      have hwrite : writeF x w = some x := by
        unfold writeF
        dsimp only
        rw [hnext]
        have hl := (treeF_ok hx w.name).len
        rw [if_neg (by omega)]
        have hgt := treeF_getT hx w.name
        by_cases he : treeF x w.name = []
        · rw [if_pos he]
          rw [if_pos he] at hgt
          rw [delT_none hx.rise hgt]
        · rw [if_neg he]
          rw [if_neg he] at hgt
          have hput : putT x w.name (treeF x w.name) = x := by
            refine tree_ext (rise_putT hx.rise _ _) hx.rise fun k => ?_
            rw [getT_putT hx.rise]
            by_cases hk : w.name = k
            · subst hk; rw [if_pos rfl, hgt]
            · rw [if_neg hk]
          rw [hput, if_neg (by have := hx.len; omega)]
      unfold applyF
      rw [hwrite]
      exact ih x hx (fun y hy => hok y (by simp [hy])) fun y hy => hget y (by simp [hy])
  refine key ws g (applyF_ok60 hf hw h) hw fun w hm => ?_
  rw [getF_applyF hf hw h]
  have hl : lastW ws w.name w.key = some w := by
    clear h hw
    induction ws with
    | nil => simp at hm
    | cons x ws ih =>
      rw [lastW_cons]
      obtain ⟨h1, h2⟩ := List.pairwise_cons.1 hd
      rcases List.mem_cons.1 hm with rfl | hm
      · have : lastW ws w.name w.key = none := by
          unfold lastW
          rw [List.find?_eq_none]
          intro y hy
          have := h1 y (by simpa using hy)
          simp [Ne.symm this]
        rw [this]
        simp
      · rw [ih h2 hm]
  rw [hl]
theorem bad_tenant : forestE [([], [])] = 1 := by decide
set_option maxHeartbeats 8000000 in
theorem applyAgain_walk (W : World) (v0 : Value) (l0 : List Pl) (z0 : Pls (whole W) v0 l0) (p1 : Pl) (v10 : Value) (z10 : Bs (whole W) v10 p1.name) (v11 : Value) (z11 : Bs (whole W) v11 p1.key) (v12 : Value) (z12 : Bs (whole W) v12 p1.value) (p2 : Pl) (v20 : Value) (z20 : Bs (whole W) v20 p2.name) (v21 : Value) (z21 : Bs (whole W) v21 p2.key) (v22 : Value) (z22 : Bs (whole W) v22 p2.value) :
    Calls Try.prog 20 #[v0, .agg #[v10, v11, v12, .bool p1.gone], .agg #[v20, v21, v22, .bool p2.gone]] W (Tells W (.bool true)) := by
  obtain ⟨a0, c0, rfl, q0, q0'⟩ := Sl.shape z0
  obtain ⟨a10, c10, rfl, _⟩ := z10.shape
  obtain ⟨a11, c11, rfl, _⟩ := z11.shape
  obtain ⟨a12, c12, rfl, _⟩ := z12.shape
  obtain ⟨a20, c20, rfl, _⟩ := z20.shape
  obtain ⟨a21, c21, rfl, _⟩ := z21.shape
  obtain ⟨a22, c22, rfl, _⟩ := z22.shape
  have okf : ForestOk 60 (forestW (writesN l0 20)) := (forestW_ok (writesN_ok l0 20)).mono (by have := writesN_len l0 20; omega)
  obtain ⟨i67, hi67, hz67, hs67, hb67⟩ := info_parts info_67
  have S := St.start (Sat.whole W)
  go_enter Try.func20, Try.ntmps20
  refine wp_seq_k (fun K1 hK1 => ?_)
  refine region_wl ?_
  refine stNew S (v := fun n => .pointer (some ⟨n, 0, none⟩)) rfl (ex_box (v := (.agg #[(.slice a10 p1.name.length c10), (.slice a11 p1.key.length c11), (.slice a12 p1.value.length c12), (.bool p1.gone)])) rfl) (fun n2 w3 S4 => ?_)
  simp only [Act.put, List.setIfInBounds_toArray, List.set_cons_succ, List.set_cons_zero]
  have S4 : St W (whole W) w3 (whole W) [⟨n2, [(.slice a10 p1.name.length c10), (.slice a11 p1.key.length c11), (.slice a12 p1.value.length c12), (.bool p1.gone)], 70⟩] [] := S4
  refine stNew S4 (v := fun n => .pointer (some ⟨n, 0, none⟩)) rfl (ex_box (v := (.agg #[(.slice a20 p2.name.length c20), (.slice a21 p2.key.length c21), (.slice a22 p2.value.length c22), (.bool p2.gone)])) rfl) (fun n5 w6 S7 => ?_)
  simp only [Act.put, List.setIfInBounds_toArray, List.set_cons_succ, List.set_cons_zero]
  have S7 : St W (whole W) w6 (whole W) [⟨n5, [(.slice a20 p2.name.length c20), (.slice a21 p2.key.length c21), (.slice a22 p2.value.length c22), (.bool p2.gone)], 70⟩, ⟨n2, [(.slice a10 p1.name.length c10), (.slice a11 p1.key.length c11), (.slice a12 p1.value.length c12), (.bool p1.gone)], 70⟩] [] := S7
  refine do_ rfl (.bool false) (ex_assign _) ?_
  simp only [Act.put, List.setIfInBounds_toArray, List.set_cons_succ, List.set_cons_zero]
  refine wl_nil ?_
  (try simp only [Exit.then, Exit.inBlock, ↓reduceIte, Nat.reduceEqDiff])
  refine hK1 _ _ ?_
  refine wp_seq_k (fun K8 hK8 => ?_)
  refine region_wl ?_
  refine do_ rfl (.slice a0 l0.length c0) (ex_move _) ?_
  simp only [Act.put, List.setIfInBounds_toArray, List.set_cons_succ, List.set_cons_zero]
  refine stGives S7 rfl (ex_fn (vs := #[(.slice a0 l0.length c0), (.int .i64 20)]) (map2 rfl rfl) rfl (ent_57 _ _)) (forest_spec _ _ _ l0 20 (S7).sat z0 (by omega)) ?_
  intro v14 w9 F11 S10 le12 R13
  obtain ⟨a15, c16, rfl, h17, h18⟩ := Sl.shape R13
  unfold maxLen at h18
  have R13 : Tns _ (.slice a15 (forestW (writesN l0 20)).length c16) (forestW (writesN l0 20)) := R13
  simp only [Act.put, List.setIfInBounds_toArray, List.set_cons_succ, List.set_cons_zero]
  have S10 : St W (whole W) w9 F11 [⟨n5, [(.slice a20 p2.name.length c20), (.slice a21 p2.key.length c21), (.slice a22 p2.value.length c22), (.bool p2.gone)], 70⟩, ⟨n2, [(.slice a10 p1.name.length c10), (.slice a11 p1.key.length c11), (.slice a12 p1.value.length c12), (.bool p1.gone)], 70⟩] [] := S10
  refine do_ rfl (.slice a15 (forestW (writesN l0 20)).length c16) (ex_assign _) ?_
  simp only [Act.put, List.setIfInBounds_toArray, List.set_cons_succ, List.set_cons_zero]
  refine wl_nil ?_
  (try simp only [Exit.then, Exit.inBlock, ↓reduceIte, Nat.reduceEqDiff])
  refine hK8 _ _ ?_
  refine wp_seq_k (fun K19 hK19 => ?_)
  refine region_wl ?_
  refine do_ rfl (.agg #[(.slice a10 p1.name.length c10), (.slice a11 p1.key.length c11), (.slice a12 p1.value.length c12), (.bool p1.gone)]) (ex_load rfl (loadN (cs := [(.slice a10 p1.name.length c10), (.slice a11 p1.key.length c11), (.slice a12 p1.value.length c12), (.bool p1.gone)]) Try.underlying70 rfl (size_70) (St.range S10 (i := 1) rfl 0 [(.slice a10 p1.name.length c10), (.slice a11 p1.key.length c11), (.slice a12 p1.value.length c12), (.bool p1.gone)] (sub_range 0 rfl)))) ?_
  simp only [Act.put, List.setIfInBounds_toArray, List.set_cons_succ, List.set_cons_zero]
  refine stGives S10 rfl (ex_fn (vs := #[(.agg #[(.slice a10 p1.name.length c10), (.slice a11 p1.key.length c11), (.slice a12 p1.value.length c12), (.bool p1.gone)])]) (map1 rfl) rfl (ent_56 _ _)) (keepWrite_spec _ _ _ p1 (S10).sat ⟨_, _, _, _, _, _, rfl, (z10.mono le12), (z11.mono le12), (z12.mono le12)⟩) ?_
  intro v25 w20 F22 S21 le23 R24
  obtain ⟨xa26, xc27, xa28, xc29, xa30, xc31, rfl, r32, r33, r34⟩ := R24
  simp only [Act.put, List.setIfInBounds_toArray, List.set_cons_succ, List.set_cons_zero]
  have S21 : St W (whole W) w20 F22 [⟨n5, [(.slice a20 p2.name.length c20), (.slice a21 p2.key.length c21), (.slice a22 p2.value.length c22), (.bool p2.gone)], 70⟩, ⟨n2, [(.slice a10 p1.name.length c10), (.slice a11 p1.key.length c11), (.slice a12 p1.value.length c12), (.bool p1.gone)], 70⟩] [] := S21
  refine stNew S21 (v := fun n => .slice (some ⟨n, 0, none⟩) 1 1) rfl (ex_lit (ps := #[(0, (.agg #[(.slice xa26 (writeP p1).name.length xc27), (.slice xa28 (writeP p1).key.length xc29), (.bool (writeP p1).gone), (.slice xa30 (writeP p1).value.length xc31)]))]) (cells := #[(.slice xa26 (writeP p1).name.length xc27), (.slice xa28 (writeP p1).key.length xc29), (.bool (writeP p1).gone), (.slice xa30 (writeP p1).value.length xc31)]) (E := 67) (bmap1 rfl) (fun w => by kernel_rfl)) (fun n35 w36 S37 => ?_)
  simp only [Act.put, List.setIfInBounds_toArray, List.set_cons_succ, List.set_cons_zero]
  have S37 : St W (whole W) w36 F22 [⟨n35, [(.slice xa26 (writeP p1).name.length xc27), (.slice xa28 (writeP p1).key.length xc29), (.bool (writeP p1).gone), (.slice xa30 (writeP p1).value.length xc31)], 67⟩, ⟨n5, [(.slice a20 p2.name.length c20), (.slice a21 p2.key.length c21), (.slice a22 p2.value.length c22), (.bool p2.gone)], 70⟩, ⟨n2, [(.slice a10 p1.name.length c10), (.slice a11 p1.key.length c11), (.slice a12 p1.value.length c12), (.bool p1.gone)], 70⟩] [] := S37
  refine do_ rfl (.slice (some ⟨n35, 0, none⟩) 1 1) (ex_assign _) ?_
  simp only [Act.put, List.setIfInBounds_toArray, List.set_cons_succ, List.set_cons_zero]
  refine wl_nil ?_
  (try simp only [Exit.then, Exit.inBlock, ↓reduceIte, Nat.reduceEqDiff])
  refine hK19 _ _ ?_
  refine wp_seq_k (fun K38 hK38 => ?_)
  refine region_wl ?_
  refine do_ rfl (.agg #[(.slice a20 p2.name.length c20), (.slice a21 p2.key.length c21), (.slice a22 p2.value.length c22), (.bool p2.gone)]) (ex_load rfl (loadN (cs := [(.slice a20 p2.name.length c20), (.slice a21 p2.key.length c21), (.slice a22 p2.value.length c22), (.bool p2.gone)]) Try.underlying70 rfl (size_70) (St.range S37 (i := 1) rfl 0 [(.slice a20 p2.name.length c20), (.slice a21 p2.key.length c21), (.slice a22 p2.value.length c22), (.bool p2.gone)] (sub_range 0 rfl)))) ?_
  simp only [Act.put, List.setIfInBounds_toArray, List.set_cons_succ, List.set_cons_zero]
  refine stGives S37 rfl (ex_fn (vs := #[(.agg #[(.slice a20 p2.name.length c20), (.slice a21 p2.key.length c21), (.slice a22 p2.value.length c22), (.bool p2.gone)])]) (map1 rfl) rfl (ent_56 _ _)) (keepWrite_spec _ _ _ p2 (S37).sat ⟨_, _, _, _, _, _, rfl, (z20.mono (le12.trans le23)), (z21.mono (le12.trans le23)), (z22.mono (le12.trans le23))⟩) ?_
  intro v44 w39 F41 S40 le42 R43
  obtain ⟨xa45, xc46, xa47, xc48, xa49, xc50, rfl, r51, r52, r53⟩ := R43
  simp only [Act.put, List.setIfInBounds_toArray, List.set_cons_succ, List.set_cons_zero]
  have S40 : St W (whole W) w39 F41 [⟨n35, [(.slice xa26 (writeP p1).name.length xc27), (.slice xa28 (writeP p1).key.length xc29), (.bool (writeP p1).gone), (.slice xa30 (writeP p1).value.length xc31)], 67⟩, ⟨n5, [(.slice a20 p2.name.length c20), (.slice a21 p2.key.length c21), (.slice a22 p2.value.length c22), (.bool p2.gone)], 70⟩, ⟨n2, [(.slice a10 p1.name.length c10), (.slice a11 p1.key.length c11), (.slice a12 p1.value.length c12), (.bool p1.gone)], 70⟩] [] := S40
  refine stNew S40 (v := fun n => .pointer (some ⟨n, 0, none⟩)) rfl (ex_alloc (zero_67 _)) (fun n54 w55 S56 => ?_)
  simp only [Act.put, List.setIfInBounds_toArray, List.set_cons_succ, List.set_cons_zero]
  have S56 : St W (whole W) w55 F41 [⟨n54, [(.slice none 0 0), (.slice none 0 0), (.bool false), (.slice none 0 0)], 67⟩, ⟨n35, [(.slice xa26 (writeP p1).name.length xc27), (.slice xa28 (writeP p1).key.length xc29), (.bool (writeP p1).gone), (.slice xa30 (writeP p1).value.length xc31)], 67⟩, ⟨n5, [(.slice a20 p2.name.length c20), (.slice a21 p2.key.length c21), (.slice a22 p2.value.length c22), (.bool p2.gone)], 70⟩, ⟨n2, [(.slice a10 p1.name.length c10), (.slice a11 p1.key.length c11), (.slice a12 p1.value.length c12), (.bool p1.gone)], 70⟩] [] := S56
  refine stStore (i := 0) (v := (.agg #[(.slice xa45 (writeP p2).name.length xc46), (.slice xa47 (writeP p2).key.length xc48), (.bool (writeP p2).gone), (.slice xa49 (writeP p2).value.length xc50)])) S56 rfl rfl rfl rfl (size_67) (allc4 rfl rfl rfl rfl) (Nat.le_of_ble_eq_true rfl) (fun w57 S58 => ?_)
  simp only [Act.put, List.setIfInBounds_toArray, List.set_cons_succ, List.set_cons_zero]
  have S58 : St W (whole W) w57 F41 [⟨n54, [(.slice xa45 (writeP p2).name.length xc46), (.slice xa47 (writeP p2).key.length xc48), (.bool (writeP p2).gone), (.slice xa49 (writeP p2).value.length xc50)], 67⟩, ⟨n35, [(.slice xa26 (writeP p1).name.length xc27), (.slice xa28 (writeP p1).key.length xc29), (.bool (writeP p1).gone), (.slice xa30 (writeP p1).value.length xc31)], 67⟩, ⟨n5, [(.slice a20 p2.name.length c20), (.slice a21 p2.key.length c21), (.slice a22 p2.value.length c22), (.bool p2.gone)], 70⟩, ⟨n2, [(.slice a10 p1.name.length c10), (.slice a11 p1.key.length c11), (.slice a12 p1.value.length c12), (.bool p1.gone)], 70⟩] [] := S58
  refine wl_nil ?_
  (try simp only [Exit.then, Exit.inBlock, ↓reduceIte, Nat.reduceEqDiff])
  refine hK38 _ _ ?_
  refine wp_seq_k (fun K59 hK59 => ?_)
  refine wp_seq_k (fun K60 hK60 => ?_)
  obtain ⟨S61, le62, hc63⟩ := St.freezeBlk S58 (i := 1) rfl
  have r65 : Wrs _ (.slice (some ⟨n35, 0, none⟩) 1 1) [(writeP p1)] := sl_of_block (R := WrC) (l := [(writeP p1)]) (el := [[(.slice xa26 (writeP p1).name.length xc27), (.slice xa28 (writeP p1).key.length xc29), (.bool (writeP p1).gone), (.slice xa30 (writeP p1).value.length xc31)]]) hc63 rfl ⟨⟨_, _, _, _, rfl, ((r32.mono le42).mono le62), ((r33.mono le42).mono le62), rfl, ((r34.mono le42).mono le62)⟩, trivial⟩ (by simp) (by unfold maxLen; simp)
  generalize addF F41 w57 n35 = F64 at *
  have S61 : St W (whole W) w57 F64 [⟨n54, [(.slice xa45 (writeP p2).name.length xc46), (.slice xa47 (writeP p2).key.length xc48), (.bool (writeP p2).gone), (.slice xa49 (writeP p2).value.length xc50)], 67⟩, ⟨n5, [(.slice a20 p2.name.length c20), (.slice a21 p2.key.length c21), (.slice a22 p2.value.length c22), (.bool p2.gone)], 70⟩, ⟨n2, [(.slice a10 p1.name.length c10), (.slice a11 p1.key.length c11), (.slice a12 p1.value.length c12), (.bool p1.gone)], 70⟩] [] := S61
  obtain ⟨b66, o67, ha68, xa69, xc70, xa71, xc72, xa73, xc74, c75, c76, c77, c78, r79, r80, r81⟩ := Wrs.get r65 (rfl : [(writeP p1)][0]? = some (writeP p1))
  cases ha68
  by_cases hn : (writeP p2).name = (writeP p1).name
  · refine region_gw F64 6 [] (by kernel_rfl) (by kernel_rfl) ?_
    simp only [List.take_succ_cons, List.take_zero]
    refine gw_pure rfl rfl (.pointer (some ⟨n54, 0, none⟩)) (fun w82 hCw82 => pureAt_of (ex_field (q := ⟨n54, 0, none⟩) rfl (fa_67_0 _ _))) ?_
    simp only [Act.put, List.setIfInBounds_toArray, List.set_cons_succ, List.set_cons_zero]
    refine gw_pure rfl rfl (.slice xa45 (writeP p2).name.length xc46) (fun w82 hCw82 => pureAt_of (ex_load rfl (load1 (nagg_27 _) (St.cell (St.tells S61 hCw82) (i := 0) rfl rfl)))) ?_
    simp only [Act.put, List.setIfInBounds_toArray, List.set_cons_succ, List.set_cons_zero]
    refine gw_pure rfl rfl (.slice (some ⟨n35, 0, none⟩) 1 1) (fun w82 hCw82 => pureAt_of (ex_move _)) ?_
    simp only [Act.put, List.setIfInBounds_toArray, List.set_cons_succ, List.set_cons_zero]
    refine gw_pure rfl rfl (.pointer (some ⟨n35, 0 + 0 * 4, none⟩)) (fun w82 hCw82 => pureAt_of (ex_at (i := 0) (sz := 4) Try.underlying75 (sizeof_67 _) rfl rfl rfl (by omega) rfl)) ?_
    simp only [Act.put, List.setIfInBounds_toArray, List.set_cons_succ, List.set_cons_zero]
    refine gw_pure rfl rfl (.pointer (some ⟨n35, 0 + 0 * 4, none⟩)) (fun w82 hCw82 => pureAt_of (ex_field (q := ⟨n35, 0 + 0 * 4, none⟩) rfl (fa_67_0 _ _))) ?_
    simp only [Act.put, List.setIfInBounds_toArray, List.set_cons_succ, List.set_cons_zero]
    refine gw_pure rfl rfl (.slice xa69 (writeP p1).name.length xc70) (fun w82 hCw82 => pureAt_of (ex_load rfl (load1 (nagg_27 _) (St.fz (St.tells S61 hCw82) c75)))) ?_
    simp only [Act.put, List.setIfInBounds_toArray, List.set_cons_succ, List.set_cons_zero]
    refine gw_nil ?_
    intro w83 hC85 hF86
    clear hF86
    have S84 := St.tells S61 hC85
    simp only [List.drop_succ_cons, List.drop_zero]
    have S84 : St W (whole W) w83 F64 [⟨n54, [(.slice xa45 (writeP p2).name.length xc46), (.slice xa47 (writeP p2).key.length xc48), (.bool (writeP p2).gone), (.slice xa49 (writeP p2).value.length xc50)], 67⟩, ⟨n5, [(.slice a20 p2.name.length c20), (.slice a21 p2.key.length c21), (.slice a22 p2.value.length c22), (.bool p2.gone)], 70⟩, ⟨n2, [(.slice a10 p1.name.length c10), (.slice a11 p1.key.length c11), (.slice a12 p1.value.length c12), (.bool p1.gone)], 70⟩] [] := S84
    refine stTells (v := (.bool true)) S84 rfl (ex_fn (vs := #[(.slice xa45 (writeP p2).name.length xc46), (.slice xa69 (writeP p1).name.length xc70)]) (map2 rfl rfl) rfl (ent_46 _ _)) (tells_bool (tells_same (same_spec _ _ _ _ ((writeP p2).name) ((writeP p1).name) (S84).sat (r51.mono le62) r79)) (beq_iff_eq.2 (hn))) (fun w87 S88 => ?_)
    simp only [Act.put, List.setIfInBounds_toArray, List.set_cons_succ, List.set_cons_zero]
    have S88 : St W (whole W) w87 F64 [⟨n54, [(.slice xa45 (writeP p2).name.length xc46), (.slice xa47 (writeP p2).key.length xc48), (.bool (writeP p2).gone), (.slice xa49 (writeP p2).value.length xc50)], 67⟩, ⟨n5, [(.slice a20 p2.name.length c20), (.slice a21 p2.key.length c21), (.slice a22 p2.value.length c22), (.bool p2.gone)], 70⟩, ⟨n2, [(.slice a10 p1.name.length c10), (.slice a11 p1.key.length c11), (.slice a12 p1.value.length c12), (.bool p1.gone)], 70⟩] [] := S88
    refine do_ rfl (.bool false) (ex_not (b := true) rfl rfl) ?_
    simp only [Act.put, List.setIfInBounds_toArray, List.set_cons_succ, List.set_cons_zero]
    refine wl_nil ?_
    (try simp only [Exit.then, Exit.inBlock, ↓reduceIte, Nat.reduceEqDiff])
    refine hK60 _ _ ?_
    refine wp_cond_false rfl ?_
    refine wp_skip ?_
    (try simp only [Exit.then, Exit.inBlock, ↓reduceIte, Nat.reduceEqDiff])
    refine hK59 _ _ ?_
    refine wp_seq_k (fun K89 hK89 => ?_)
    have hws : ∀ w ∈ [(writeP p1)], WrOk w := by intro w hw; simp at hw; subst hw; exact writeP_ok _
    have hdd : [(writeP p1)].Pairwise fun a b : Wr => a.name ≠ b.name := by simp
    have hae := applyE_ok (l := (forestW (writesN l0 20))) (ws := [(writeP p1)]) hws (by simp)
    cases he : applyF (forestW (writesN l0 20)) [(writeP p1)] with
    | none =>
      rw [he] at hae
      refine region_wl ?_
      refine do_ rfl (.slice a15 (forestW (writesN l0 20)).length c16) (ex_move _) ?_
      simp only [Act.put, List.setIfInBounds_toArray, List.set_cons_succ, List.set_cons_zero]
      refine do_ rfl (.slice (some ⟨n35, 0, none⟩) 1 1) (ex_move _) ?_
      simp only [Act.put, List.setIfInBounds_toArray, List.set_cons_succ, List.set_cons_zero]
      refine stGives S88 rfl (ex_fn (vs := #[(.slice a15 (forestW (writesN l0 20)).length c16), (.slice (some ⟨n35, 0, none⟩) 1 1)]) (map2 rfl rfl) rfl (ent_59 _ _)) (apply_is (S88).sat (R13.mono ((le23.trans le42).trans le62)) r65 okf hws hae) ?_
      intro v95 w90 F92 S91 le93 R94
      obtain ⟨_, rfl, r98⟩ := R94
      obtain ⟨a96, c97, rfl, h99, h100⟩ := Sl.shape r98
      unfold maxLen at h100
      simp only [Act.put, List.setIfInBounds_toArray, List.set_cons_succ, List.set_cons_zero]
      have S91 : St W (whole W) w90 F92 [⟨n54, [(.slice xa45 (writeP p2).name.length xc46), (.slice xa47 (writeP p2).key.length xc48), (.bool (writeP p2).gone), (.slice xa49 (writeP p2).value.length xc50)], 67⟩, ⟨n5, [(.slice a20 p2.name.length c20), (.slice a21 p2.key.length c21), (.slice a22 p2.value.length c22), (.bool p2.gone)], 70⟩, ⟨n2, [(.slice a10 p1.name.length c10), (.slice a11 p1.key.length c11), (.slice a12 p1.value.length c12), (.bool p1.gone)], 70⟩] [] := S91
      refine do_ rfl (.tuple #[(.slice a96 ([] : Forest).length c97), (.int .i64 11)]) (ex_move _) ?_
      simp only [Act.put, List.setIfInBounds_toArray, List.set_cons_succ, List.set_cons_zero]
      refine do_ rfl (.slice a96 ([] : Forest).length c97) (ex_extract rfl rfl) ?_
      simp only [Act.put, List.setIfInBounds_toArray, List.set_cons_succ, List.set_cons_zero]
      refine do_ rfl (.int .i64 11) (ex_extract rfl rfl) ?_
      simp only [Act.put, List.setIfInBounds_toArray, List.set_cons_succ, List.set_cons_zero]
      refine do_ rfl (.slice a96 ([] : Forest).length c97) (ex_assign _) ?_
      simp only [Act.put, List.setIfInBounds_toArray, List.set_cons_succ, List.set_cons_zero]
      refine do_ rfl (.int .i64 11) (ex_assign _) ?_
      simp only [Act.put, List.setIfInBounds_toArray, List.set_cons_succ, List.set_cons_zero]
      refine wl_nil ?_
      (try simp only [Exit.then, Exit.inBlock, ↓reduceIte, Nat.reduceEqDiff])
      refine hK89 _ _ ?_
      refine wp_seq_k (fun K101 hK101 => ?_)
      refine wp_seq_k (fun K102 hK102 => ?_)
      refine region_wl ?_
      refine do_ rfl (.int .i64 11) (ex_move _) ?_
      simp only [Act.put, List.setIfInBounds_toArray, List.set_cons_succ, List.set_cons_zero]
      refine do_ rfl (.bool true) (ex_neq (b := true) rfl rfl (by decide)) ?_
      simp only [Act.put, List.setIfInBounds_toArray, List.set_cons_succ, List.set_cons_zero]
      refine wl_nil ?_
      (try simp only [Exit.then, Exit.inBlock, ↓reduceIte, Nat.reduceEqDiff])
      refine hK102 _ _ ?_
      refine wp_cond_true rfl ?_
      refine wp_seq_k (fun K103 hK103 => ?_)
      refine region_wl ?_
      refine do_ rfl (.int .i64 11) (ex_move _) ?_
      simp only [Act.put, List.setIfInBounds_toArray, List.set_cons_succ, List.set_cons_zero]
      refine do_ rfl (.bool true) (ex_eql (b := true) rfl rfl (by decide)) ?_
      simp only [Act.put, List.setIfInBounds_toArray, List.set_cons_succ, List.set_cons_zero]
      refine do_ rfl (.bool true) (ex_assign _) ?_
      simp only [Act.put, List.setIfInBounds_toArray, List.set_cons_succ, List.set_cons_zero]
      refine wl_nil ?_
      (try simp only [Exit.then, Exit.inBlock, ↓reduceIte, Nat.reduceEqDiff])
      refine hK103 _ _ ?_
      refine wp_ret ?_
      (try simp only [Exit.then, Exit.inBlock, ↓reduceIte, Nat.reduceEqDiff])
      refine bodyPost_ret (v := (.bool true)) ?_ rfl ?_
      · exact res_t rfl rfl
      · exact ⟨rfl, S91.gr.below⟩
    | some g =>
      rw [he] at hae
      have okg := applyF_ok60 okf hws he
      have hag := applyE_ok (l := g) (ws := [(writeP p1)]) hws (by simp)
      rw [apply_again okf hws hdd he] at hag
      have haz : applyE g [] = (0, g) := rfl
      refine region_wl ?_
      refine do_ rfl (.slice a15 (forestW (writesN l0 20)).length c16) (ex_move _) ?_
      simp only [Act.put, List.setIfInBounds_toArray, List.set_cons_succ, List.set_cons_zero]
      refine do_ rfl (.slice (some ⟨n35, 0, none⟩) 1 1) (ex_move _) ?_
      simp only [Act.put, List.setIfInBounds_toArray, List.set_cons_succ, List.set_cons_zero]
      refine stGives S88 rfl (ex_fn (vs := #[(.slice a15 (forestW (writesN l0 20)).length c16), (.slice (some ⟨n35, 0, none⟩) 1 1)]) (map2 rfl rfl) rfl (ent_59 _ _)) (apply_is (S88).sat (R13.mono ((le23.trans le42).trans le62)) r65 okf hws hae) ?_
      intro v109 w104 F106 S105 le107 R108
      obtain ⟨_, rfl, r112⟩ := R108
      obtain ⟨a110, c111, rfl, h113, h114⟩ := Sl.shape r112
      unfold maxLen at h114
      have h113 : g.length ≤ c111 := h113
      have r112 : Tns _ (.slice a110 g.length c111) g := r112
      simp only [Act.put, List.setIfInBounds_toArray, List.set_cons_succ, List.set_cons_zero]
      have S105 : St W (whole W) w104 F106 [⟨n54, [(.slice xa45 (writeP p2).name.length xc46), (.slice xa47 (writeP p2).key.length xc48), (.bool (writeP p2).gone), (.slice xa49 (writeP p2).value.length xc50)], 67⟩, ⟨n5, [(.slice a20 p2.name.length c20), (.slice a21 p2.key.length c21), (.slice a22 p2.value.length c22), (.bool p2.gone)], 70⟩, ⟨n2, [(.slice a10 p1.name.length c10), (.slice a11 p1.key.length c11), (.slice a12 p1.value.length c12), (.bool p1.gone)], 70⟩] [] := S105
      refine do_ rfl (.tuple #[(.slice a110 g.length c111), (.int .i64 0)]) (ex_move _) ?_
      simp only [Act.put, List.setIfInBounds_toArray, List.set_cons_succ, List.set_cons_zero]
      refine do_ rfl (.slice a110 g.length c111) (ex_extract rfl rfl) ?_
      simp only [Act.put, List.setIfInBounds_toArray, List.set_cons_succ, List.set_cons_zero]
      refine do_ rfl (.int .i64 0) (ex_extract rfl rfl) ?_
      simp only [Act.put, List.setIfInBounds_toArray, List.set_cons_succ, List.set_cons_zero]
      refine do_ rfl (.slice a110 g.length c111) (ex_assign _) ?_
      simp only [Act.put, List.setIfInBounds_toArray, List.set_cons_succ, List.set_cons_zero]
      refine do_ rfl (.int .i64 0) (ex_assign _) ?_
      simp only [Act.put, List.setIfInBounds_toArray, List.set_cons_succ, List.set_cons_zero]
      refine wl_nil ?_
      (try simp only [Exit.then, Exit.inBlock, ↓reduceIte, Nat.reduceEqDiff])
      refine hK89 _ _ ?_
      refine wp_seq_k (fun K115 hK115 => ?_)
      refine wp_seq_k (fun K116 hK116 => ?_)
      refine region_wl ?_
      refine do_ rfl (.int .i64 0) (ex_move _) ?_
      simp only [Act.put, List.setIfInBounds_toArray, List.set_cons_succ, List.set_cons_zero]
      refine do_ rfl (.bool false) (ex_neq (b := false) rfl rfl (by decide)) ?_
      simp only [Act.put, List.setIfInBounds_toArray, List.set_cons_succ, List.set_cons_zero]
      refine wl_nil ?_
      (try simp only [Exit.then, Exit.inBlock, ↓reduceIte, Nat.reduceEqDiff])
      refine hK116 _ _ ?_
      refine wp_cond_false rfl ?_
      refine wp_skip ?_
      (try simp only [Exit.then, Exit.inBlock, ↓reduceIte, Nat.reduceEqDiff])
      refine hK115 _ _ ?_
      refine wp_seq_k (fun K117 hK117 => ?_)
      refine region_wl ?_
      refine do_ rfl (.slice a110 g.length c111) (ex_move _) ?_
      simp only [Act.put, List.setIfInBounds_toArray, List.set_cons_succ, List.set_cons_zero]
      refine do_ rfl (.slice (some ⟨n35, 0, none⟩) 1 1) (ex_move _) ?_
      simp only [Act.put, List.setIfInBounds_toArray, List.set_cons_succ, List.set_cons_zero]
      refine stGives S105 rfl (ex_fn (vs := #[(.slice a110 g.length c111), (.slice (some ⟨n35, 0, none⟩) 1 1)]) (map2 rfl rfl) rfl (ent_59 _ _)) (apply_is (S105).sat r112 (r65.mono le107) okg hws hag) ?_
      intro v123 w118 F120 S119 le121 R122
      obtain ⟨_, rfl, r126⟩ := R122
      obtain ⟨a124, c125, rfl, h127, h128⟩ := Sl.shape r126
      unfold maxLen at h128
      have h127 : g.length ≤ c125 := h127
      have r126 : Tns _ (.slice a124 g.length c125) g := r126
      simp only [Act.put, List.setIfInBounds_toArray, List.set_cons_succ, List.set_cons_zero]
      have S119 : St W (whole W) w118 F120 [⟨n54, [(.slice xa45 (writeP p2).name.length xc46), (.slice xa47 (writeP p2).key.length xc48), (.bool (writeP p2).gone), (.slice xa49 (writeP p2).value.length xc50)], 67⟩, ⟨n5, [(.slice a20 p2.name.length c20), (.slice a21 p2.key.length c21), (.slice a22 p2.value.length c22), (.bool p2.gone)], 70⟩, ⟨n2, [(.slice a10 p1.name.length c10), (.slice a11 p1.key.length c11), (.slice a12 p1.value.length c12), (.bool p1.gone)], 70⟩] [] := S119
      refine do_ rfl (.tuple #[(.slice a124 g.length c125), (.int .i64 0)]) (ex_move _) ?_
      simp only [Act.put, List.setIfInBounds_toArray, List.set_cons_succ, List.set_cons_zero]
      refine do_ rfl (.slice a124 g.length c125) (ex_extract rfl rfl) ?_
      simp only [Act.put, List.setIfInBounds_toArray, List.set_cons_succ, List.set_cons_zero]
      refine do_ rfl (.int .i64 0) (ex_extract rfl rfl) ?_
      simp only [Act.put, List.setIfInBounds_toArray, List.set_cons_succ, List.set_cons_zero]
      refine do_ rfl (.slice a124 g.length c125) (ex_assign _) ?_
      simp only [Act.put, List.setIfInBounds_toArray, List.set_cons_succ, List.set_cons_zero]
      refine do_ rfl (.int .i64 0) (ex_assign _) ?_
      simp only [Act.put, List.setIfInBounds_toArray, List.set_cons_succ, List.set_cons_zero]
      refine wl_nil ?_
      (try simp only [Exit.then, Exit.inBlock, ↓reduceIte, Nat.reduceEqDiff])
      refine hK117 _ _ ?_
      refine wp_seq_k (fun K129 hK129 => ?_)
      refine region_wl ?_
      refine do_ rfl (.slice a110 g.length c111) (ex_move _) ?_
      simp only [Act.put, List.setIfInBounds_toArray, List.set_cons_succ, List.set_cons_zero]
      refine stGives S119 rfl (ex_fn (vs := #[(.slice a110 g.length c111), (.slice none 0 0)]) (map2 rfl rfl) rfl (ent_59 _ _)) (apply_is (S119).sat (r112.mono le121) (Sl.nil _ _ _) okg (by simp) haz) ?_
      intro v135 w130 F132 S131 le133 R134
      obtain ⟨_, rfl, r138⟩ := R134
      obtain ⟨a136, c137, rfl, h139, h140⟩ := Sl.shape r138
      unfold maxLen at h140
      have h139 : g.length ≤ c137 := h139
      have r138 : Tns _ (.slice a136 g.length c137) g := r138
      simp only [Act.put, List.setIfInBounds_toArray, List.set_cons_succ, List.set_cons_zero]
      have S131 : St W (whole W) w130 F132 [⟨n54, [(.slice xa45 (writeP p2).name.length xc46), (.slice xa47 (writeP p2).key.length xc48), (.bool (writeP p2).gone), (.slice xa49 (writeP p2).value.length xc50)], 67⟩, ⟨n5, [(.slice a20 p2.name.length c20), (.slice a21 p2.key.length c21), (.slice a22 p2.value.length c22), (.bool p2.gone)], 70⟩, ⟨n2, [(.slice a10 p1.name.length c10), (.slice a11 p1.key.length c11), (.slice a12 p1.value.length c12), (.bool p1.gone)], 70⟩] [] := S131
      refine do_ rfl (.tuple #[(.slice a136 g.length c137), (.int .i64 0)]) (ex_move _) ?_
      simp only [Act.put, List.setIfInBounds_toArray, List.set_cons_succ, List.set_cons_zero]
      refine do_ rfl (.slice a136 g.length c137) (ex_extract rfl rfl) ?_
      simp only [Act.put, List.setIfInBounds_toArray, List.set_cons_succ, List.set_cons_zero]
      refine do_ rfl (.int .i64 0) (ex_extract rfl rfl) ?_
      simp only [Act.put, List.setIfInBounds_toArray, List.set_cons_succ, List.set_cons_zero]
      refine do_ rfl (.slice a136 g.length c137) (ex_assign _) ?_
      simp only [Act.put, List.setIfInBounds_toArray, List.set_cons_succ, List.set_cons_zero]
      refine do_ rfl (.int .i64 0) (ex_assign _) ?_
      simp only [Act.put, List.setIfInBounds_toArray, List.set_cons_succ, List.set_cons_zero]
      refine wl_nil ?_
      (try simp only [Exit.then, Exit.inBlock, ↓reduceIte, Nat.reduceEqDiff])
      refine hK129 _ _ ?_
      refine wp_seq_k (fun K141 hK141 => ?_)
      refine region_wl ?_
      refine do_ rfl (.int .i64 0) (ex_move _) ?_
      simp only [Act.put, List.setIfInBounds_toArray, List.set_cons_succ, List.set_cons_zero]
      refine do_ rfl (.bool true) (ex_eql (b := true) rfl rfl (by decide)) ?_
      simp only [Act.put, List.setIfInBounds_toArray, List.set_cons_succ, List.set_cons_zero]
      refine do_ rfl (.bool true) (ex_move _) ?_
      simp only [Act.put, List.setIfInBounds_toArray, List.set_cons_succ, List.set_cons_zero]
      refine do_ rfl (.int .i64 0) (ex_move _) ?_
      simp only [Act.put, List.setIfInBounds_toArray, List.set_cons_succ, List.set_cons_zero]
      refine do_ rfl (.bool true) (ex_eql (b := true) rfl rfl (by decide)) ?_
      simp only [Act.put, List.setIfInBounds_toArray, List.set_cons_succ, List.set_cons_zero]
      refine do_ rfl (.bool true) (ex_pick (b := true) rfl) ?_
      simp only [Act.put, List.setIfInBounds_toArray, List.set_cons_succ, List.set_cons_zero]
      refine do_ rfl (.bool true) (ex_move _) ?_
      simp only [Act.put, List.setIfInBounds_toArray, List.set_cons_succ, List.set_cons_zero]
      refine do_ rfl (.slice a110 g.length c111) (ex_move _) ?_
      simp only [Act.put, List.setIfInBounds_toArray, List.set_cons_succ, List.set_cons_zero]
      refine do_ rfl (.slice a124 g.length c125) (ex_move _) ?_
      simp only [Act.put, List.setIfInBounds_toArray, List.set_cons_succ, List.set_cons_zero]
      refine stTells (v := (.bool true)) S131 rfl (ex_fn (vs := #[(.slice a110 g.length c111), (.slice a124 g.length c125)]) (map2 rfl rfl) rfl (ent_60 _ _)) (tells_bool (sameForest_spec _ _ _ _ g g (S131).sat (r112.mono (le121.trans le133)) (r126.mono le133) (by have := ForestOk.len okg; omega) (fun t ht => by have := (ForestOk.tree okg t ht).len; omega)) (decide_eq_true (rfl))) (fun w142 S143 => ?_)
      simp only [Act.put, List.setIfInBounds_toArray, List.set_cons_succ, List.set_cons_zero]
      have S143 : St W (whole W) w142 F132 [⟨n54, [(.slice xa45 (writeP p2).name.length xc46), (.slice xa47 (writeP p2).key.length xc48), (.bool (writeP p2).gone), (.slice xa49 (writeP p2).value.length xc50)], 67⟩, ⟨n5, [(.slice a20 p2.name.length c20), (.slice a21 p2.key.length c21), (.slice a22 p2.value.length c22), (.bool p2.gone)], 70⟩, ⟨n2, [(.slice a10 p1.name.length c10), (.slice a11 p1.key.length c11), (.slice a12 p1.value.length c12), (.bool p1.gone)], 70⟩] [] := S143
      refine do_ rfl (.bool true) (ex_pick (b := true) rfl) ?_
      simp only [Act.put, List.setIfInBounds_toArray, List.set_cons_succ, List.set_cons_zero]
      refine do_ rfl (.bool true) (ex_move _) ?_
      simp only [Act.put, List.setIfInBounds_toArray, List.set_cons_succ, List.set_cons_zero]
      refine do_ rfl (.slice a110 g.length c111) (ex_move _) ?_
      simp only [Act.put, List.setIfInBounds_toArray, List.set_cons_succ, List.set_cons_zero]
      refine do_ rfl (.slice a136 g.length c137) (ex_move _) ?_
      simp only [Act.put, List.setIfInBounds_toArray, List.set_cons_succ, List.set_cons_zero]
      refine stTells (v := (.bool true)) S143 rfl (ex_fn (vs := #[(.slice a110 g.length c111), (.slice a136 g.length c137)]) (map2 rfl rfl) rfl (ent_60 _ _)) (tells_bool (sameForest_spec _ _ _ _ g g (S143).sat (r112.mono (le121.trans le133)) r138 (by have := ForestOk.len okg; omega) (fun t ht => by have := (ForestOk.tree okg t ht).len; omega)) (decide_eq_true (rfl))) (fun w144 S145 => ?_)
      simp only [Act.put, List.setIfInBounds_toArray, List.set_cons_succ, List.set_cons_zero]
      have S145 : St W (whole W) w144 F132 [⟨n54, [(.slice xa45 (writeP p2).name.length xc46), (.slice xa47 (writeP p2).key.length xc48), (.bool (writeP p2).gone), (.slice xa49 (writeP p2).value.length xc50)], 67⟩, ⟨n5, [(.slice a20 p2.name.length c20), (.slice a21 p2.key.length c21), (.slice a22 p2.value.length c22), (.bool p2.gone)], 70⟩, ⟨n2, [(.slice a10 p1.name.length c10), (.slice a11 p1.key.length c11), (.slice a12 p1.value.length c12), (.bool p1.gone)], 70⟩] [] := S145
      refine do_ rfl (.bool true) (ex_pick (b := true) rfl) ?_
      simp only [Act.put, List.setIfInBounds_toArray, List.set_cons_succ, List.set_cons_zero]
      refine do_ rfl (.bool true) (ex_move _) ?_
      simp only [Act.put, List.setIfInBounds_toArray, List.set_cons_succ, List.set_cons_zero]
      refine do_ rfl (.agg #[(.slice none 0 0), (.slice none 0 0)]) (ex_build (ps := #[]) (bmap0) (by kernel_rfl)) ?_
      simp only [Act.put, List.setIfInBounds_toArray, List.set_cons_succ, List.set_cons_zero]
      refine stNew S145 (v := fun n => .slice (some ⟨n, 0, none⟩) 1 1) rfl (ex_lit (ps := #[(0, (.agg #[(.slice none 0 0), (.slice none 0 0)]))]) (cells := #[(.slice none 0 0), (.slice none 0 0)]) (E := 83) (bmap1 rfl) (fun w => by kernel_rfl)) (fun n146 w147 S148 => ?_)
      simp only [Act.put, List.setIfInBounds_toArray, List.set_cons_succ, List.set_cons_zero]
      have S148 : St W (whole W) w147 F132 [⟨n146, [(.slice none 0 0), (.slice none 0 0)], 83⟩, ⟨n54, [(.slice xa45 (writeP p2).name.length xc46), (.slice xa47 (writeP p2).key.length xc48), (.bool (writeP p2).gone), (.slice xa49 (writeP p2).value.length xc50)], 67⟩, ⟨n5, [(.slice a20 p2.name.length c20), (.slice a21 p2.key.length c21), (.slice a22 p2.value.length c22), (.bool p2.gone)], 70⟩, ⟨n2, [(.slice a10 p1.name.length c10), (.slice a11 p1.key.length c11), (.slice a12 p1.value.length c12), (.bool p1.gone)], 70⟩] [] := S148
      obtain ⟨S149, le150, hc151⟩ := St.freezeBlk S148 (i := 0) rfl
      have r153 : Tns _ (.slice (some ⟨n146, 0, none⟩) 1 1) [([], [])] := sl_of_block (R := TnC) (l := [([], [])]) (el := [[(.slice none 0 0), (.slice none 0 0)]]) hc151 rfl ⟨⟨_, _, rfl, Bs.nil _, Sl.nil _ _ _⟩, trivial⟩ (by simp) (by unfold maxLen; simp)
      generalize addF F132 w147 n146 = F152 at *
      have S149 : St W (whole W) w147 F152 [⟨n54, [(.slice xa45 (writeP p2).name.length xc46), (.slice xa47 (writeP p2).key.length xc48), (.bool (writeP p2).gone), (.slice xa49 (writeP p2).value.length xc50)], 67⟩, ⟨n5, [(.slice a20 p2.name.length c20), (.slice a21 p2.key.length c21), (.slice a22 p2.value.length c22), (.bool p2.gone)], 70⟩, ⟨n2, [(.slice a10 p1.name.length c10), (.slice a11 p1.key.length c11), (.slice a12 p1.value.length c12), (.bool p1.gone)], 70⟩] [] := S149
      refine stTells (v := (.int .i64 1)) S149 rfl (ex_fn (vs := #[(.slice (some ⟨n146, 0, none⟩) 1 1)]) (map1 rfl) rfl (ent_61 _ _)) (bad_tenant ▸ forestCheck_spec _ _ _ [([], [])] (S149).sat r153) (fun w154 S155 => ?_)
      simp only [Act.put, List.setIfInBounds_toArray, List.set_cons_succ, List.set_cons_zero]
      have S155 : St W (whole W) w154 F152 [⟨n54, [(.slice xa45 (writeP p2).name.length xc46), (.slice xa47 (writeP p2).key.length xc48), (.bool (writeP p2).gone), (.slice xa49 (writeP p2).value.length xc50)], 67⟩, ⟨n5, [(.slice a20 p2.name.length c20), (.slice a21 p2.key.length c21), (.slice a22 p2.value.length c22), (.bool p2.gone)], 70⟩, ⟨n2, [(.slice a10 p1.name.length c10), (.slice a11 p1.key.length c11), (.slice a12 p1.value.length c12), (.bool p1.gone)], 70⟩] [] := S155
      refine do_ rfl (.bool true) (ex_eql (b := true) rfl rfl (by decide)) ?_
      simp only [Act.put, List.setIfInBounds_toArray, List.set_cons_succ, List.set_cons_zero]
      refine do_ rfl (.bool true) (ex_pick (b := true) rfl) ?_
      simp only [Act.put, List.setIfInBounds_toArray, List.set_cons_succ, List.set_cons_zero]
      refine do_ rfl (.bool true) (ex_assign _) ?_
      simp only [Act.put, List.setIfInBounds_toArray, List.set_cons_succ, List.set_cons_zero]
      refine wl_nil ?_
      (try simp only [Exit.then, Exit.inBlock, ↓reduceIte, Nat.reduceEqDiff])
      refine hK141 _ _ ?_
      refine wp_ret ?_
      (try simp only [Exit.then, Exit.inBlock, ↓reduceIte, Nat.reduceEqDiff])
      refine bodyPost_ret (v := (.bool true)) ?_ rfl ?_
      · exact res_t rfl rfl
      · exact ⟨rfl, S155.gr.below⟩
  · refine region_gw F64 6 [] (by kernel_rfl) (by kernel_rfl) ?_
    simp only [List.take_succ_cons, List.take_zero]
    refine gw_pure rfl rfl (.pointer (some ⟨n54, 0, none⟩)) (fun w156 hCw156 => pureAt_of (ex_field (q := ⟨n54, 0, none⟩) rfl (fa_67_0 _ _))) ?_
    simp only [Act.put, List.setIfInBounds_toArray, List.set_cons_succ, List.set_cons_zero]
    refine gw_pure rfl rfl (.slice xa45 (writeP p2).name.length xc46) (fun w156 hCw156 => pureAt_of (ex_load rfl (load1 (nagg_27 _) (St.cell (St.tells S61 hCw156) (i := 0) rfl rfl)))) ?_
    simp only [Act.put, List.setIfInBounds_toArray, List.set_cons_succ, List.set_cons_zero]
    refine gw_pure rfl rfl (.slice (some ⟨n35, 0, none⟩) 1 1) (fun w156 hCw156 => pureAt_of (ex_move _)) ?_
    simp only [Act.put, List.setIfInBounds_toArray, List.set_cons_succ, List.set_cons_zero]
    refine gw_pure rfl rfl (.pointer (some ⟨n35, 0 + 0 * 4, none⟩)) (fun w156 hCw156 => pureAt_of (ex_at (i := 0) (sz := 4) Try.underlying75 (sizeof_67 _) rfl rfl rfl (by omega) rfl)) ?_
    simp only [Act.put, List.setIfInBounds_toArray, List.set_cons_succ, List.set_cons_zero]
    refine gw_pure rfl rfl (.pointer (some ⟨n35, 0 + 0 * 4, none⟩)) (fun w156 hCw156 => pureAt_of (ex_field (q := ⟨n35, 0 + 0 * 4, none⟩) rfl (fa_67_0 _ _))) ?_
    simp only [Act.put, List.setIfInBounds_toArray, List.set_cons_succ, List.set_cons_zero]
    refine gw_pure rfl rfl (.slice xa69 (writeP p1).name.length xc70) (fun w156 hCw156 => pureAt_of (ex_load rfl (load1 (nagg_27 _) (St.fz (St.tells S61 hCw156) c75)))) ?_
    simp only [Act.put, List.setIfInBounds_toArray, List.set_cons_succ, List.set_cons_zero]
    refine gw_nil ?_
    intro w157 hC159 hF160
    clear hF160
    have S158 := St.tells S61 hC159
    simp only [List.drop_succ_cons, List.drop_zero]
    have S158 : St W (whole W) w157 F64 [⟨n54, [(.slice xa45 (writeP p2).name.length xc46), (.slice xa47 (writeP p2).key.length xc48), (.bool (writeP p2).gone), (.slice xa49 (writeP p2).value.length xc50)], 67⟩, ⟨n5, [(.slice a20 p2.name.length c20), (.slice a21 p2.key.length c21), (.slice a22 p2.value.length c22), (.bool p2.gone)], 70⟩, ⟨n2, [(.slice a10 p1.name.length c10), (.slice a11 p1.key.length c11), (.slice a12 p1.value.length c12), (.bool p1.gone)], 70⟩] [] := S158
    refine stTells (v := (.bool false)) S158 rfl (ex_fn (vs := #[(.slice xa45 (writeP p2).name.length xc46), (.slice xa69 (writeP p1).name.length xc70)]) (map2 rfl rfl) rfl (ent_46 _ _)) (tells_bool (tells_same (same_spec _ _ _ _ ((writeP p2).name) ((writeP p1).name) (S158).sat (r51.mono le62) r79)) (beq_eq_false_iff_ne.2 (hn))) (fun w161 S162 => ?_)
    simp only [Act.put, List.setIfInBounds_toArray, List.set_cons_succ, List.set_cons_zero]
    have S162 : St W (whole W) w161 F64 [⟨n54, [(.slice xa45 (writeP p2).name.length xc46), (.slice xa47 (writeP p2).key.length xc48), (.bool (writeP p2).gone), (.slice xa49 (writeP p2).value.length xc50)], 67⟩, ⟨n5, [(.slice a20 p2.name.length c20), (.slice a21 p2.key.length c21), (.slice a22 p2.value.length c22), (.bool p2.gone)], 70⟩, ⟨n2, [(.slice a10 p1.name.length c10), (.slice a11 p1.key.length c11), (.slice a12 p1.value.length c12), (.bool p1.gone)], 70⟩] [] := S162
    refine do_ rfl (.bool true) (ex_not (b := false) rfl rfl) ?_
    simp only [Act.put, List.setIfInBounds_toArray, List.set_cons_succ, List.set_cons_zero]
    refine wl_nil ?_
    (try simp only [Exit.then, Exit.inBlock, ↓reduceIte, Nat.reduceEqDiff])
    refine hK60 _ _ ?_
    refine wp_cond_true rfl ?_
    refine region_wl ?_
    refine do_ rfl (.slice (some ⟨n35, 0, none⟩) 1 1) (ex_move _) ?_
    simp only [Act.put, List.setIfInBounds_toArray, List.set_cons_succ, List.set_cons_zero]
    refine do_ rfl (.agg #[(.slice xa45 (writeP p2).name.length xc46), (.slice xa47 (writeP p2).key.length xc48), (.bool (writeP p2).gone), (.slice xa49 (writeP p2).value.length xc50)]) (ex_load rfl (loadN (cs := [(.slice xa45 (writeP p2).name.length xc46), (.slice xa47 (writeP p2).key.length xc48), (.bool (writeP p2).gone), (.slice xa49 (writeP p2).value.length xc50)]) Try.underlying67 rfl (size_67) (St.range S162 (i := 0) rfl 0 [(.slice xa45 (writeP p2).name.length xc46), (.slice xa47 (writeP p2).key.length xc48), (.bool (writeP p2).gone), (.slice xa49 (writeP p2).value.length xc50)] (sub_range 0 rfl)))) ?_
    simp only [Act.put, List.setIfInBounds_toArray, List.set_cons_succ, List.set_cons_zero]
    refine stNew S162 (v := fun n => .slice (some ⟨n, 0, none⟩) 1 1) rfl (ex_lit (ps := #[(0, (.agg #[(.slice xa45 (writeP p2).name.length xc46), (.slice xa47 (writeP p2).key.length xc48), (.bool (writeP p2).gone), (.slice xa49 (writeP p2).value.length xc50)]))]) (cells := #[(.slice xa45 (writeP p2).name.length xc46), (.slice xa47 (writeP p2).key.length xc48), (.bool (writeP p2).gone), (.slice xa49 (writeP p2).value.length xc50)]) (E := 67) (bmap1 rfl) (fun w => by kernel_rfl)) (fun n163 w164 S165 => ?_)
    simp only [Act.put, List.setIfInBounds_toArray, List.set_cons_succ, List.set_cons_zero]
    have S165 : St W (whole W) w164 F64 [⟨n163, [(.slice xa45 (writeP p2).name.length xc46), (.slice xa47 (writeP p2).key.length xc48), (.bool (writeP p2).gone), (.slice xa49 (writeP p2).value.length xc50)], 67⟩, ⟨n54, [(.slice xa45 (writeP p2).name.length xc46), (.slice xa47 (writeP p2).key.length xc48), (.bool (writeP p2).gone), (.slice xa49 (writeP p2).value.length xc50)], 67⟩, ⟨n5, [(.slice a20 p2.name.length c20), (.slice a21 p2.key.length c21), (.slice a22 p2.value.length c22), (.bool p2.gone)], 70⟩, ⟨n2, [(.slice a10 p1.name.length c10), (.slice a11 p1.key.length c11), (.slice a12 p1.value.length c12), (.bool p1.gone)], 70⟩] [] := S165
    have hold : ∀ q u, ([(.slice xa69 (writeP p1).name.length xc70), (.slice xa71 (writeP p1).key.length xc72), (.bool (writeP p1).gone), (.slice xa73 (writeP p1).value.length xc74)] : List Value)[q]? = some u → w164.cell? ((⟨n35, 0, none⟩ : Addr).add q) = some u := by
      have hr := range4 (St.fz S165 c75) (St.fz S165 c76) (St.fz S165 c77) (St.fz S165 c78)
      intro q u hu
      rw [Addr.add_mid]
      have := hr q u hu
      simpa using this
    refine stGrow2 (k := 4) (n := 1) (m := 1) 2 [(.slice xa69 (writeP p1).name.length xc70), (.slice xa71 (writeP p1).key.length xc72), (.bool (writeP p1).gone), (.slice xa73 (writeP p1).value.length xc74)] [(.slice xa45 (writeP p2).name.length xc46), (.slice xa47 (writeP p2).key.length xc48), (.bool (writeP p2).gone), (.slice xa49 (writeP p2).value.length xc50)] S165 rfl i67 (.agg #[(.slice none 0 0), (.slice none 0 0), (.bool false), (.slice none 0 0)]) 80 Try.underlying75 hi67 hz67 hs67 hb67 rfl rfl rfl rfl hold rfl (S165.src0 (i := 0) rfl) rfl (by decide) (by unfold maxLen; omega) (by decide) ?_
    intro g166 cp167 mo168 w169 h171 h172 h173 S170
    simp only [Act.put, List.setIfInBounds_toArray, List.set_cons_succ, List.set_cons_zero]
    have S170 : St W (whole W) w169 F64 [⟨g166, ([(.slice xa69 (writeP p1).name.length xc70), (.slice xa71 (writeP p1).key.length xc72), (.bool (writeP p1).gone), (.slice xa73 (writeP p1).value.length xc74)] ++ [(.slice xa45 (writeP p2).name.length xc46), (.slice xa47 (writeP p2).key.length xc48), (.bool (writeP p2).gone), (.slice xa49 (writeP p2).value.length xc50)] ++ mo168), 67⟩, ⟨n163, [(.slice xa45 (writeP p2).name.length xc46), (.slice xa47 (writeP p2).key.length xc48), (.bool (writeP p2).gone), (.slice xa49 (writeP p2).value.length xc50)], 67⟩, ⟨n54, [(.slice xa45 (writeP p2).name.length xc46), (.slice xa47 (writeP p2).key.length xc48), (.bool (writeP p2).gone), (.slice xa49 (writeP p2).value.length xc50)], 67⟩, ⟨n5, [(.slice a20 p2.name.length c20), (.slice a21 p2.key.length c21), (.slice a22 p2.value.length c22), (.bool p2.gone)], 70⟩, ⟨n2, [(.slice a10 p1.name.length c10), (.slice a11 p1.key.length c11), (.slice a12 p1.value.length c12), (.bool p1.gone)], 70⟩] [] := S170
    obtain ⟨S174, le175, hc176⟩ := St.freezeBlk S170 (i := 0) rfl
    have r178 : Wrs _ (.slice (some ⟨g166, 0, none⟩) 2 cp167) [(writeP p1), (writeP p2)] := sl_of_head (R := WrC) (l := [(writeP p1), (writeP p2)]) (el := [[(.slice xa69 (writeP p1).name.length xc70), (.slice xa71 (writeP p1).key.length xc72), (.bool (writeP p1).gone), (.slice xa73 (writeP p1).value.length xc74)], [(.slice xa45 (writeP p2).name.length xc46), (.slice xa47 (writeP p2).key.length xc48), (.bool (writeP p2).gone), (.slice xa49 (writeP p2).value.length xc50)]]) (more := mo168) hc176 (by simp) ⟨⟨_, _, _, _, rfl, (r79.mono le175), (r80.mono le175), rfl, (r81.mono le175)⟩, ⟨_, _, _, _, rfl, ((r51.mono le62).mono le175), ((r52.mono le62).mono le175), rfl, ((r53.mono le62).mono le175)⟩, trivial⟩ (by simp) h171 h172
    generalize addF F64 w169 g166 = F177 at *
    have S174 : St W (whole W) w169 F177 [⟨n163, [(.slice xa45 (writeP p2).name.length xc46), (.slice xa47 (writeP p2).key.length xc48), (.bool (writeP p2).gone), (.slice xa49 (writeP p2).value.length xc50)], 67⟩, ⟨n54, [(.slice xa45 (writeP p2).name.length xc46), (.slice xa47 (writeP p2).key.length xc48), (.bool (writeP p2).gone), (.slice xa49 (writeP p2).value.length xc50)], 67⟩, ⟨n5, [(.slice a20 p2.name.length c20), (.slice a21 p2.key.length c21), (.slice a22 p2.value.length c22), (.bool p2.gone)], 70⟩, ⟨n2, [(.slice a10 p1.name.length c10), (.slice a11 p1.key.length c11), (.slice a12 p1.value.length c12), (.bool p1.gone)], 70⟩] [] := S174
    refine do_ rfl (.slice (some ⟨g166, 0, none⟩) 2 cp167) (ex_assign _) ?_
    simp only [Act.put, List.setIfInBounds_toArray, List.set_cons_succ, List.set_cons_zero]
    refine wl_nil ?_
    (try simp only [Exit.then, Exit.inBlock, ↓reduceIte, Nat.reduceEqDiff])
    refine hK59 _ _ ?_
    refine wp_seq_k (fun K179 hK179 => ?_)
    have hws : ∀ w ∈ [(writeP p1), (writeP p2)], WrOk w := by intro w hw; simp at hw; rcases hw with rfl | rfl; exact writeP_ok _; exact writeP_ok _
    have hdd : [(writeP p1), (writeP p2)].Pairwise fun a b : Wr => a.name ≠ b.name := by simpa using fun h => hn h.symm
    have hae := applyE_ok (l := (forestW (writesN l0 20))) (ws := [(writeP p1), (writeP p2)]) hws (by simp)
    cases he : applyF (forestW (writesN l0 20)) [(writeP p1), (writeP p2)] with
    | none =>
      rw [he] at hae
      refine region_wl ?_
      refine do_ rfl (.slice a15 (forestW (writesN l0 20)).length c16) (ex_move _) ?_
      simp only [Act.put, List.setIfInBounds_toArray, List.set_cons_succ, List.set_cons_zero]
      refine do_ rfl (.slice (some ⟨g166, 0, none⟩) 2 cp167) (ex_move _) ?_
      simp only [Act.put, List.setIfInBounds_toArray, List.set_cons_succ, List.set_cons_zero]
      refine stGives S174 rfl (ex_fn (vs := #[(.slice a15 (forestW (writesN l0 20)).length c16), (.slice (some ⟨g166, 0, none⟩) 2 cp167)]) (map2 rfl rfl) rfl (ent_59 _ _)) (apply_is (S174).sat (R13.mono (((le23.trans le42).trans le62).trans le175)) r178 okf hws hae) ?_
      intro v185 w180 F182 S181 le183 R184
      obtain ⟨_, rfl, r188⟩ := R184
      obtain ⟨a186, c187, rfl, h189, h190⟩ := Sl.shape r188
      unfold maxLen at h190
      simp only [Act.put, List.setIfInBounds_toArray, List.set_cons_succ, List.set_cons_zero]
      have S181 : St W (whole W) w180 F182 [⟨n163, [(.slice xa45 (writeP p2).name.length xc46), (.slice xa47 (writeP p2).key.length xc48), (.bool (writeP p2).gone), (.slice xa49 (writeP p2).value.length xc50)], 67⟩, ⟨n54, [(.slice xa45 (writeP p2).name.length xc46), (.slice xa47 (writeP p2).key.length xc48), (.bool (writeP p2).gone), (.slice xa49 (writeP p2).value.length xc50)], 67⟩, ⟨n5, [(.slice a20 p2.name.length c20), (.slice a21 p2.key.length c21), (.slice a22 p2.value.length c22), (.bool p2.gone)], 70⟩, ⟨n2, [(.slice a10 p1.name.length c10), (.slice a11 p1.key.length c11), (.slice a12 p1.value.length c12), (.bool p1.gone)], 70⟩] [] := S181
      refine do_ rfl (.tuple #[(.slice a186 ([] : Forest).length c187), (.int .i64 11)]) (ex_move _) ?_
      simp only [Act.put, List.setIfInBounds_toArray, List.set_cons_succ, List.set_cons_zero]
      refine do_ rfl (.slice a186 ([] : Forest).length c187) (ex_extract rfl rfl) ?_
      simp only [Act.put, List.setIfInBounds_toArray, List.set_cons_succ, List.set_cons_zero]
      refine do_ rfl (.int .i64 11) (ex_extract rfl rfl) ?_
      simp only [Act.put, List.setIfInBounds_toArray, List.set_cons_succ, List.set_cons_zero]
      refine do_ rfl (.slice a186 ([] : Forest).length c187) (ex_assign _) ?_
      simp only [Act.put, List.setIfInBounds_toArray, List.set_cons_succ, List.set_cons_zero]
      refine do_ rfl (.int .i64 11) (ex_assign _) ?_
      simp only [Act.put, List.setIfInBounds_toArray, List.set_cons_succ, List.set_cons_zero]
      refine wl_nil ?_
      (try simp only [Exit.then, Exit.inBlock, ↓reduceIte, Nat.reduceEqDiff])
      refine hK179 _ _ ?_
      refine wp_seq_k (fun K191 hK191 => ?_)
      refine wp_seq_k (fun K192 hK192 => ?_)
      refine region_wl ?_
      refine do_ rfl (.int .i64 11) (ex_move _) ?_
      simp only [Act.put, List.setIfInBounds_toArray, List.set_cons_succ, List.set_cons_zero]
      refine do_ rfl (.bool true) (ex_neq (b := true) rfl rfl (by decide)) ?_
      simp only [Act.put, List.setIfInBounds_toArray, List.set_cons_succ, List.set_cons_zero]
      refine wl_nil ?_
      (try simp only [Exit.then, Exit.inBlock, ↓reduceIte, Nat.reduceEqDiff])
      refine hK192 _ _ ?_
      refine wp_cond_true rfl ?_
      refine wp_seq_k (fun K193 hK193 => ?_)
      refine region_wl ?_
      refine do_ rfl (.int .i64 11) (ex_move _) ?_
      simp only [Act.put, List.setIfInBounds_toArray, List.set_cons_succ, List.set_cons_zero]
      refine do_ rfl (.bool true) (ex_eql (b := true) rfl rfl (by decide)) ?_
      simp only [Act.put, List.setIfInBounds_toArray, List.set_cons_succ, List.set_cons_zero]
      refine do_ rfl (.bool true) (ex_assign _) ?_
      simp only [Act.put, List.setIfInBounds_toArray, List.set_cons_succ, List.set_cons_zero]
      refine wl_nil ?_
      (try simp only [Exit.then, Exit.inBlock, ↓reduceIte, Nat.reduceEqDiff])
      refine hK193 _ _ ?_
      refine wp_ret ?_
      (try simp only [Exit.then, Exit.inBlock, ↓reduceIte, Nat.reduceEqDiff])
      refine bodyPost_ret (v := (.bool true)) ?_ rfl ?_
      · exact res_t rfl rfl
      · exact ⟨rfl, S181.gr.below⟩
    | some g =>
      rw [he] at hae
      have okg := applyF_ok60 okf hws he
      have hag := applyE_ok (l := g) (ws := [(writeP p1), (writeP p2)]) hws (by simp)
      rw [apply_again okf hws hdd he] at hag
      have haz : applyE g [] = (0, g) := rfl
      refine region_wl ?_
      refine do_ rfl (.slice a15 (forestW (writesN l0 20)).length c16) (ex_move _) ?_
      simp only [Act.put, List.setIfInBounds_toArray, List.set_cons_succ, List.set_cons_zero]
      refine do_ rfl (.slice (some ⟨g166, 0, none⟩) 2 cp167) (ex_move _) ?_
      simp only [Act.put, List.setIfInBounds_toArray, List.set_cons_succ, List.set_cons_zero]
      refine stGives S174 rfl (ex_fn (vs := #[(.slice a15 (forestW (writesN l0 20)).length c16), (.slice (some ⟨g166, 0, none⟩) 2 cp167)]) (map2 rfl rfl) rfl (ent_59 _ _)) (apply_is (S174).sat (R13.mono (((le23.trans le42).trans le62).trans le175)) r178 okf hws hae) ?_
      intro v199 w194 F196 S195 le197 R198
      obtain ⟨_, rfl, r202⟩ := R198
      obtain ⟨a200, c201, rfl, h203, h204⟩ := Sl.shape r202
      unfold maxLen at h204
      have h203 : g.length ≤ c201 := h203
      have r202 : Tns _ (.slice a200 g.length c201) g := r202
      simp only [Act.put, List.setIfInBounds_toArray, List.set_cons_succ, List.set_cons_zero]
      have S195 : St W (whole W) w194 F196 [⟨n163, [(.slice xa45 (writeP p2).name.length xc46), (.slice xa47 (writeP p2).key.length xc48), (.bool (writeP p2).gone), (.slice xa49 (writeP p2).value.length xc50)], 67⟩, ⟨n54, [(.slice xa45 (writeP p2).name.length xc46), (.slice xa47 (writeP p2).key.length xc48), (.bool (writeP p2).gone), (.slice xa49 (writeP p2).value.length xc50)], 67⟩, ⟨n5, [(.slice a20 p2.name.length c20), (.slice a21 p2.key.length c21), (.slice a22 p2.value.length c22), (.bool p2.gone)], 70⟩, ⟨n2, [(.slice a10 p1.name.length c10), (.slice a11 p1.key.length c11), (.slice a12 p1.value.length c12), (.bool p1.gone)], 70⟩] [] := S195
      refine do_ rfl (.tuple #[(.slice a200 g.length c201), (.int .i64 0)]) (ex_move _) ?_
      simp only [Act.put, List.setIfInBounds_toArray, List.set_cons_succ, List.set_cons_zero]
      refine do_ rfl (.slice a200 g.length c201) (ex_extract rfl rfl) ?_
      simp only [Act.put, List.setIfInBounds_toArray, List.set_cons_succ, List.set_cons_zero]
      refine do_ rfl (.int .i64 0) (ex_extract rfl rfl) ?_
      simp only [Act.put, List.setIfInBounds_toArray, List.set_cons_succ, List.set_cons_zero]
      refine do_ rfl (.slice a200 g.length c201) (ex_assign _) ?_
      simp only [Act.put, List.setIfInBounds_toArray, List.set_cons_succ, List.set_cons_zero]
      refine do_ rfl (.int .i64 0) (ex_assign _) ?_
      simp only [Act.put, List.setIfInBounds_toArray, List.set_cons_succ, List.set_cons_zero]
      refine wl_nil ?_
      (try simp only [Exit.then, Exit.inBlock, ↓reduceIte, Nat.reduceEqDiff])
      refine hK179 _ _ ?_
      refine wp_seq_k (fun K205 hK205 => ?_)
      refine wp_seq_k (fun K206 hK206 => ?_)
      refine region_wl ?_
      refine do_ rfl (.int .i64 0) (ex_move _) ?_
      simp only [Act.put, List.setIfInBounds_toArray, List.set_cons_succ, List.set_cons_zero]
      refine do_ rfl (.bool false) (ex_neq (b := false) rfl rfl (by decide)) ?_
      simp only [Act.put, List.setIfInBounds_toArray, List.set_cons_succ, List.set_cons_zero]
      refine wl_nil ?_
      (try simp only [Exit.then, Exit.inBlock, ↓reduceIte, Nat.reduceEqDiff])
      refine hK206 _ _ ?_
      refine wp_cond_false rfl ?_
      refine wp_skip ?_
      (try simp only [Exit.then, Exit.inBlock, ↓reduceIte, Nat.reduceEqDiff])
      refine hK205 _ _ ?_
      refine wp_seq_k (fun K207 hK207 => ?_)
      refine region_wl ?_
      refine do_ rfl (.slice a200 g.length c201) (ex_move _) ?_
      simp only [Act.put, List.setIfInBounds_toArray, List.set_cons_succ, List.set_cons_zero]
      refine do_ rfl (.slice (some ⟨g166, 0, none⟩) 2 cp167) (ex_move _) ?_
      simp only [Act.put, List.setIfInBounds_toArray, List.set_cons_succ, List.set_cons_zero]
      refine stGives S195 rfl (ex_fn (vs := #[(.slice a200 g.length c201), (.slice (some ⟨g166, 0, none⟩) 2 cp167)]) (map2 rfl rfl) rfl (ent_59 _ _)) (apply_is (S195).sat r202 (r178.mono le197) okg hws hag) ?_
      intro v213 w208 F210 S209 le211 R212
      obtain ⟨_, rfl, r216⟩ := R212
      obtain ⟨a214, c215, rfl, h217, h218⟩ := Sl.shape r216
      unfold maxLen at h218
      have h217 : g.length ≤ c215 := h217
      have r216 : Tns _ (.slice a214 g.length c215) g := r216
      simp only [Act.put, List.setIfInBounds_toArray, List.set_cons_succ, List.set_cons_zero]
      have S209 : St W (whole W) w208 F210 [⟨n163, [(.slice xa45 (writeP p2).name.length xc46), (.slice xa47 (writeP p2).key.length xc48), (.bool (writeP p2).gone), (.slice xa49 (writeP p2).value.length xc50)], 67⟩, ⟨n54, [(.slice xa45 (writeP p2).name.length xc46), (.slice xa47 (writeP p2).key.length xc48), (.bool (writeP p2).gone), (.slice xa49 (writeP p2).value.length xc50)], 67⟩, ⟨n5, [(.slice a20 p2.name.length c20), (.slice a21 p2.key.length c21), (.slice a22 p2.value.length c22), (.bool p2.gone)], 70⟩, ⟨n2, [(.slice a10 p1.name.length c10), (.slice a11 p1.key.length c11), (.slice a12 p1.value.length c12), (.bool p1.gone)], 70⟩] [] := S209
      refine do_ rfl (.tuple #[(.slice a214 g.length c215), (.int .i64 0)]) (ex_move _) ?_
      simp only [Act.put, List.setIfInBounds_toArray, List.set_cons_succ, List.set_cons_zero]
      refine do_ rfl (.slice a214 g.length c215) (ex_extract rfl rfl) ?_
      simp only [Act.put, List.setIfInBounds_toArray, List.set_cons_succ, List.set_cons_zero]
      refine do_ rfl (.int .i64 0) (ex_extract rfl rfl) ?_
      simp only [Act.put, List.setIfInBounds_toArray, List.set_cons_succ, List.set_cons_zero]
      refine do_ rfl (.slice a214 g.length c215) (ex_assign _) ?_
      simp only [Act.put, List.setIfInBounds_toArray, List.set_cons_succ, List.set_cons_zero]
      refine do_ rfl (.int .i64 0) (ex_assign _) ?_
      simp only [Act.put, List.setIfInBounds_toArray, List.set_cons_succ, List.set_cons_zero]
      refine wl_nil ?_
      (try simp only [Exit.then, Exit.inBlock, ↓reduceIte, Nat.reduceEqDiff])
      refine hK207 _ _ ?_
      refine wp_seq_k (fun K219 hK219 => ?_)
      refine region_wl ?_
      refine do_ rfl (.slice a200 g.length c201) (ex_move _) ?_
      simp only [Act.put, List.setIfInBounds_toArray, List.set_cons_succ, List.set_cons_zero]
      refine stGives S209 rfl (ex_fn (vs := #[(.slice a200 g.length c201), (.slice none 0 0)]) (map2 rfl rfl) rfl (ent_59 _ _)) (apply_is (S209).sat (r202.mono le211) (Sl.nil _ _ _) okg (by simp) haz) ?_
      intro v225 w220 F222 S221 le223 R224
      obtain ⟨_, rfl, r228⟩ := R224
      obtain ⟨a226, c227, rfl, h229, h230⟩ := Sl.shape r228
      unfold maxLen at h230
      have h229 : g.length ≤ c227 := h229
      have r228 : Tns _ (.slice a226 g.length c227) g := r228
      simp only [Act.put, List.setIfInBounds_toArray, List.set_cons_succ, List.set_cons_zero]
      have S221 : St W (whole W) w220 F222 [⟨n163, [(.slice xa45 (writeP p2).name.length xc46), (.slice xa47 (writeP p2).key.length xc48), (.bool (writeP p2).gone), (.slice xa49 (writeP p2).value.length xc50)], 67⟩, ⟨n54, [(.slice xa45 (writeP p2).name.length xc46), (.slice xa47 (writeP p2).key.length xc48), (.bool (writeP p2).gone), (.slice xa49 (writeP p2).value.length xc50)], 67⟩, ⟨n5, [(.slice a20 p2.name.length c20), (.slice a21 p2.key.length c21), (.slice a22 p2.value.length c22), (.bool p2.gone)], 70⟩, ⟨n2, [(.slice a10 p1.name.length c10), (.slice a11 p1.key.length c11), (.slice a12 p1.value.length c12), (.bool p1.gone)], 70⟩] [] := S221
      refine do_ rfl (.tuple #[(.slice a226 g.length c227), (.int .i64 0)]) (ex_move _) ?_
      simp only [Act.put, List.setIfInBounds_toArray, List.set_cons_succ, List.set_cons_zero]
      refine do_ rfl (.slice a226 g.length c227) (ex_extract rfl rfl) ?_
      simp only [Act.put, List.setIfInBounds_toArray, List.set_cons_succ, List.set_cons_zero]
      refine do_ rfl (.int .i64 0) (ex_extract rfl rfl) ?_
      simp only [Act.put, List.setIfInBounds_toArray, List.set_cons_succ, List.set_cons_zero]
      refine do_ rfl (.slice a226 g.length c227) (ex_assign _) ?_
      simp only [Act.put, List.setIfInBounds_toArray, List.set_cons_succ, List.set_cons_zero]
      refine do_ rfl (.int .i64 0) (ex_assign _) ?_
      simp only [Act.put, List.setIfInBounds_toArray, List.set_cons_succ, List.set_cons_zero]
      refine wl_nil ?_
      (try simp only [Exit.then, Exit.inBlock, ↓reduceIte, Nat.reduceEqDiff])
      refine hK219 _ _ ?_
      refine wp_seq_k (fun K231 hK231 => ?_)
      refine region_wl ?_
      refine do_ rfl (.int .i64 0) (ex_move _) ?_
      simp only [Act.put, List.setIfInBounds_toArray, List.set_cons_succ, List.set_cons_zero]
      refine do_ rfl (.bool true) (ex_eql (b := true) rfl rfl (by decide)) ?_
      simp only [Act.put, List.setIfInBounds_toArray, List.set_cons_succ, List.set_cons_zero]
      refine do_ rfl (.bool true) (ex_move _) ?_
      simp only [Act.put, List.setIfInBounds_toArray, List.set_cons_succ, List.set_cons_zero]
      refine do_ rfl (.int .i64 0) (ex_move _) ?_
      simp only [Act.put, List.setIfInBounds_toArray, List.set_cons_succ, List.set_cons_zero]
      refine do_ rfl (.bool true) (ex_eql (b := true) rfl rfl (by decide)) ?_
      simp only [Act.put, List.setIfInBounds_toArray, List.set_cons_succ, List.set_cons_zero]
      refine do_ rfl (.bool true) (ex_pick (b := true) rfl) ?_
      simp only [Act.put, List.setIfInBounds_toArray, List.set_cons_succ, List.set_cons_zero]
      refine do_ rfl (.bool true) (ex_move _) ?_
      simp only [Act.put, List.setIfInBounds_toArray, List.set_cons_succ, List.set_cons_zero]
      refine do_ rfl (.slice a200 g.length c201) (ex_move _) ?_
      simp only [Act.put, List.setIfInBounds_toArray, List.set_cons_succ, List.set_cons_zero]
      refine do_ rfl (.slice a214 g.length c215) (ex_move _) ?_
      simp only [Act.put, List.setIfInBounds_toArray, List.set_cons_succ, List.set_cons_zero]
      refine stTells (v := (.bool true)) S221 rfl (ex_fn (vs := #[(.slice a200 g.length c201), (.slice a214 g.length c215)]) (map2 rfl rfl) rfl (ent_60 _ _)) (tells_bool (sameForest_spec _ _ _ _ g g (S221).sat (r202.mono (le211.trans le223)) (r216.mono le223) (by have := ForestOk.len okg; omega) (fun t ht => by have := (ForestOk.tree okg t ht).len; omega)) (decide_eq_true (rfl))) (fun w232 S233 => ?_)
      simp only [Act.put, List.setIfInBounds_toArray, List.set_cons_succ, List.set_cons_zero]
      have S233 : St W (whole W) w232 F222 [⟨n163, [(.slice xa45 (writeP p2).name.length xc46), (.slice xa47 (writeP p2).key.length xc48), (.bool (writeP p2).gone), (.slice xa49 (writeP p2).value.length xc50)], 67⟩, ⟨n54, [(.slice xa45 (writeP p2).name.length xc46), (.slice xa47 (writeP p2).key.length xc48), (.bool (writeP p2).gone), (.slice xa49 (writeP p2).value.length xc50)], 67⟩, ⟨n5, [(.slice a20 p2.name.length c20), (.slice a21 p2.key.length c21), (.slice a22 p2.value.length c22), (.bool p2.gone)], 70⟩, ⟨n2, [(.slice a10 p1.name.length c10), (.slice a11 p1.key.length c11), (.slice a12 p1.value.length c12), (.bool p1.gone)], 70⟩] [] := S233
      refine do_ rfl (.bool true) (ex_pick (b := true) rfl) ?_
      simp only [Act.put, List.setIfInBounds_toArray, List.set_cons_succ, List.set_cons_zero]
      refine do_ rfl (.bool true) (ex_move _) ?_
      simp only [Act.put, List.setIfInBounds_toArray, List.set_cons_succ, List.set_cons_zero]
      refine do_ rfl (.slice a200 g.length c201) (ex_move _) ?_
      simp only [Act.put, List.setIfInBounds_toArray, List.set_cons_succ, List.set_cons_zero]
      refine do_ rfl (.slice a226 g.length c227) (ex_move _) ?_
      simp only [Act.put, List.setIfInBounds_toArray, List.set_cons_succ, List.set_cons_zero]
      refine stTells (v := (.bool true)) S233 rfl (ex_fn (vs := #[(.slice a200 g.length c201), (.slice a226 g.length c227)]) (map2 rfl rfl) rfl (ent_60 _ _)) (tells_bool (sameForest_spec _ _ _ _ g g (S233).sat (r202.mono (le211.trans le223)) r228 (by have := ForestOk.len okg; omega) (fun t ht => by have := (ForestOk.tree okg t ht).len; omega)) (decide_eq_true (rfl))) (fun w234 S235 => ?_)
      simp only [Act.put, List.setIfInBounds_toArray, List.set_cons_succ, List.set_cons_zero]
      have S235 : St W (whole W) w234 F222 [⟨n163, [(.slice xa45 (writeP p2).name.length xc46), (.slice xa47 (writeP p2).key.length xc48), (.bool (writeP p2).gone), (.slice xa49 (writeP p2).value.length xc50)], 67⟩, ⟨n54, [(.slice xa45 (writeP p2).name.length xc46), (.slice xa47 (writeP p2).key.length xc48), (.bool (writeP p2).gone), (.slice xa49 (writeP p2).value.length xc50)], 67⟩, ⟨n5, [(.slice a20 p2.name.length c20), (.slice a21 p2.key.length c21), (.slice a22 p2.value.length c22), (.bool p2.gone)], 70⟩, ⟨n2, [(.slice a10 p1.name.length c10), (.slice a11 p1.key.length c11), (.slice a12 p1.value.length c12), (.bool p1.gone)], 70⟩] [] := S235
      refine do_ rfl (.bool true) (ex_pick (b := true) rfl) ?_
      simp only [Act.put, List.setIfInBounds_toArray, List.set_cons_succ, List.set_cons_zero]
      refine do_ rfl (.bool true) (ex_move _) ?_
      simp only [Act.put, List.setIfInBounds_toArray, List.set_cons_succ, List.set_cons_zero]
      refine do_ rfl (.agg #[(.slice none 0 0), (.slice none 0 0)]) (ex_build (ps := #[]) (bmap0) (by kernel_rfl)) ?_
      simp only [Act.put, List.setIfInBounds_toArray, List.set_cons_succ, List.set_cons_zero]
      refine stNew S235 (v := fun n => .slice (some ⟨n, 0, none⟩) 1 1) rfl (ex_lit (ps := #[(0, (.agg #[(.slice none 0 0), (.slice none 0 0)]))]) (cells := #[(.slice none 0 0), (.slice none 0 0)]) (E := 83) (bmap1 rfl) (fun w => by kernel_rfl)) (fun n236 w237 S238 => ?_)
      simp only [Act.put, List.setIfInBounds_toArray, List.set_cons_succ, List.set_cons_zero]
      have S238 : St W (whole W) w237 F222 [⟨n236, [(.slice none 0 0), (.slice none 0 0)], 83⟩, ⟨n163, [(.slice xa45 (writeP p2).name.length xc46), (.slice xa47 (writeP p2).key.length xc48), (.bool (writeP p2).gone), (.slice xa49 (writeP p2).value.length xc50)], 67⟩, ⟨n54, [(.slice xa45 (writeP p2).name.length xc46), (.slice xa47 (writeP p2).key.length xc48), (.bool (writeP p2).gone), (.slice xa49 (writeP p2).value.length xc50)], 67⟩, ⟨n5, [(.slice a20 p2.name.length c20), (.slice a21 p2.key.length c21), (.slice a22 p2.value.length c22), (.bool p2.gone)], 70⟩, ⟨n2, [(.slice a10 p1.name.length c10), (.slice a11 p1.key.length c11), (.slice a12 p1.value.length c12), (.bool p1.gone)], 70⟩] [] := S238
      obtain ⟨S239, le240, hc241⟩ := St.freezeBlk S238 (i := 0) rfl
      have r243 : Tns _ (.slice (some ⟨n236, 0, none⟩) 1 1) [([], [])] := sl_of_block (R := TnC) (l := [([], [])]) (el := [[(.slice none 0 0), (.slice none 0 0)]]) hc241 rfl ⟨⟨_, _, rfl, Bs.nil _, Sl.nil _ _ _⟩, trivial⟩ (by simp) (by unfold maxLen; simp)
      generalize addF F222 w237 n236 = F242 at *
      have S239 : St W (whole W) w237 F242 [⟨n163, [(.slice xa45 (writeP p2).name.length xc46), (.slice xa47 (writeP p2).key.length xc48), (.bool (writeP p2).gone), (.slice xa49 (writeP p2).value.length xc50)], 67⟩, ⟨n54, [(.slice xa45 (writeP p2).name.length xc46), (.slice xa47 (writeP p2).key.length xc48), (.bool (writeP p2).gone), (.slice xa49 (writeP p2).value.length xc50)], 67⟩, ⟨n5, [(.slice a20 p2.name.length c20), (.slice a21 p2.key.length c21), (.slice a22 p2.value.length c22), (.bool p2.gone)], 70⟩, ⟨n2, [(.slice a10 p1.name.length c10), (.slice a11 p1.key.length c11), (.slice a12 p1.value.length c12), (.bool p1.gone)], 70⟩] [] := S239
      refine stTells (v := (.int .i64 1)) S239 rfl (ex_fn (vs := #[(.slice (some ⟨n236, 0, none⟩) 1 1)]) (map1 rfl) rfl (ent_61 _ _)) (bad_tenant ▸ forestCheck_spec _ _ _ [([], [])] (S239).sat r243) (fun w244 S245 => ?_)
      simp only [Act.put, List.setIfInBounds_toArray, List.set_cons_succ, List.set_cons_zero]
      have S245 : St W (whole W) w244 F242 [⟨n163, [(.slice xa45 (writeP p2).name.length xc46), (.slice xa47 (writeP p2).key.length xc48), (.bool (writeP p2).gone), (.slice xa49 (writeP p2).value.length xc50)], 67⟩, ⟨n54, [(.slice xa45 (writeP p2).name.length xc46), (.slice xa47 (writeP p2).key.length xc48), (.bool (writeP p2).gone), (.slice xa49 (writeP p2).value.length xc50)], 67⟩, ⟨n5, [(.slice a20 p2.name.length c20), (.slice a21 p2.key.length c21), (.slice a22 p2.value.length c22), (.bool p2.gone)], 70⟩, ⟨n2, [(.slice a10 p1.name.length c10), (.slice a11 p1.key.length c11), (.slice a12 p1.value.length c12), (.bool p1.gone)], 70⟩] [] := S245
      refine do_ rfl (.bool true) (ex_eql (b := true) rfl rfl (by decide)) ?_
      simp only [Act.put, List.setIfInBounds_toArray, List.set_cons_succ, List.set_cons_zero]
      refine do_ rfl (.bool true) (ex_pick (b := true) rfl) ?_
      simp only [Act.put, List.setIfInBounds_toArray, List.set_cons_succ, List.set_cons_zero]
      refine do_ rfl (.bool true) (ex_assign _) ?_
      simp only [Act.put, List.setIfInBounds_toArray, List.set_cons_succ, List.set_cons_zero]
      refine wl_nil ?_
      (try simp only [Exit.then, Exit.inBlock, ↓reduceIte, Nat.reduceEqDiff])
      refine hK231 _ _ ?_
      refine wp_ret ?_
      (try simp only [Exit.then, Exit.inBlock, ↓reduceIte, Nat.reduceEqDiff])
      refine bodyPost_ret (v := (.bool true)) ?_ rfl ?_
      · exact res_t rfl rfl
      · exact ⟨rfl, S245.gr.below⟩
end Go.Proofs.Yteefnnnbbmbmcaa
