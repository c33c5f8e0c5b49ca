/- The walk of WriteSeen -/
import Derived.Test.YtcpngkkconalhaaZ13
import Derived.Test.YtcpngkkconalhaaZ8
namespace Go.Proofs.Ytcpngkkconalhaa
open Go.RowKit
set_option maxRecDepth 100000
set_option linter.unusedVariables false
set_option linter.unusedSimpArgs false
set_option maxHeartbeats 8000000 in
theorem writeSeen_walk (W : World) (v0 : Value) (l0 : List Pl) (z0 : Pls (whole W) v0 l0) (v1 : Value) (l1 : List Pl) (z1 : Pls (whole W) v1 l1) (p2 : Pl) (v20 : Value) (z20 : Bs (whole W) v20 p2.name) (v21 : Value) (z21 : Bs (whole W) v21 p2.key) (v22 : Value) (z22 : Bs (whole W) v22 p2.value) (p3 : Pl) (v30 : Value) (z30 : Bs (whole W) v30 p3.name) (v31 : Value) (z31 : Bs (whole W) v31 p3.key) (v32 : Value) (z32 : Bs (whole W) v32 p3.value) :
    Calls Try.prog 14 #[v0, v1, .agg #[v20, v21, v22, .bool p2.gone], .agg #[v30, v31, v32, .bool p3.gone]] W (Tells W (.bool true)) := by
 obtain ⟨a0, c0, rfl, q0, q0'⟩ := Sl.shape z0
 obtain ⟨a1, c1, rfl, q1, q1'⟩ := Sl.shape z1
 obtain ⟨a20, c20, rfl, _⟩ := z20.shape
 obtain ⟨a21, c21, rfl, _⟩ := z21.shape
 obtain ⟨a22, c22, rfl, _⟩ := z22.shape
 obtain ⟨a30, c30, rfl, _⟩ := z30.shape
 obtain ⟨a31, c31, rfl, _⟩ := z31.shape
 obtain ⟨a32, c32, rfl, _⟩ := z32.shape
 have okf : ForestOk 20 (forestW (writesN l0 20)) := (forestW_ok (writesN_ok l0 20)).mono (by have := writesN_len l0 20; omega)
 have okf60 : ForestOk 60 (forestW (writesN l0 20)) := ForestOk.mono okf (by omega)
 have S := St.start (Sat.whole W)
 go_enter Try.func14, Try.ntmps14
 refine wp_seq_k (fun K1 hK1 => region_wl ?_)
 refine stNew S (v := fun n => .pointer (some ⟨n, 0, none⟩)) rfl (ex_box (v := (.agg #[(.slice a20 p2.name.length c20), (.slice a21 p2.key.length c21), (.slice a22 p2.value.length c22), (.bool p2.gone)])) rfl) (fun n2 w3 S4 => ?_)
 simp only [pS, pN, pA, pC, pZ]
 have S4 : St W (whole W) w3 (whole W) [⟨n2, [(.slice a20 p2.name.length c20), (.slice a21 p2.key.length c21), (.slice a22 p2.value.length c22), (.bool p2.gone)], 30⟩] [] := S4
 refine stNew S4 (v := fun n => .pointer (some ⟨n, 0, none⟩)) rfl (ex_box (v := (.agg #[(.slice a30 p3.name.length c30), (.slice a31 p3.key.length c31), (.slice a32 p3.value.length c32), (.bool p3.gone)])) rfl) (fun n5 w6 S7 => ?_)
 simp only [pS, pN, pA, pC, pZ]
 have S7 : St W (whole W) w6 (whole W) [⟨n5, [(.slice a30 p3.name.length c30), (.slice a31 p3.key.length c31), (.slice a32 p3.value.length c32), (.bool p3.gone)], 30⟩, ⟨n2, [(.slice a20 p2.name.length c20), (.slice a21 p2.key.length c21), (.slice a22 p2.value.length c22), (.bool p2.gone)], 30⟩] [] := S7
 refine do_ rfl (.bool false) (ex_assign _) ?_
 simp only [pS, pN, pA, pC, pZ]
 refine wl_nil (hK1 _ _ ?_)
 refine wp_seq_k (fun K8 hK8 => region_wl ?_)
 refine do_ rfl (.slice a0 l0.length c0) (ex_move _) ?_
 simp only [pS, pN, pA, pC, pZ]
 refine stGives S7 rfl (ex_fn (vs := #[(.slice a0 l0.length c0), (.int .i64 20)]) (map2 rfl rfl) rfl (ent_27 _ _)) (forest_spec _ _ _ l0 20 (S7).sat z0 (by omega)) ?_
 intro v14 w9 F11 S10 le12 R13
 obtain ⟨a15, c16, rfl, h17, h18⟩ := Sl.shape R13
 unfold maxLen at h18
 have R13 : Tns _ (.slice a15 (forestW (writesN l0 20)).length c16) (forestW (writesN l0 20)) := R13
 simp only [pS, pN, pA, pC, pZ]
 refine do_ rfl (.slice a15 (forestW (writesN l0 20)).length c16) (ex_assign _) ?_
 simp only [pS, pN, pA, pC, pZ]
 refine wl_nil (hK8 _ _ ?_)
 refine wp_seq_k (fun K19 hK19 => region_wl ?_)
 refine do_ rfl (.slice a1 l1.length c1) (ex_move _) ?_
 simp only [pS, pN, pA, pC, pZ]
 refine stGives S10 rfl (ex_fn (vs := #[(.slice a1 l1.length c1), (.slice none 0 0)]) (map2 rfl rfl) rfl (ent_41 _ _)) (txnOf_spec _ _ _ _ l1 [] (S10).sat (z1.mono le12) (Sl.nil _ _ _)) ?_
 intro v25 w20 F22 S21 le23 R24
 obtain ⟨_, rfl, R26⟩ := R24
 obtain ⟨xa27, xc28, xa29, xc30, rfl, r31, r32⟩ := R26
 simp only [pS, pN, pA, pC, pZ]
 refine do_ rfl (.tuple #[(.agg #[(.int .i64 (txO l1 []).start), (.slice xa27 (txO l1 []).reads.length xc28), (.slice xa29 (txO l1 []).writes.length xc30)]), (.bool true)]) (ex_move _) ?_
 simp only [pS, pN, pA, pC, pZ]
 refine do_ rfl (.agg #[(.int .i64 (txO l1 []).start), (.slice xa27 (txO l1 []).reads.length xc28), (.slice xa29 (txO l1 []).writes.length xc30)]) (ex_extract rfl rfl) ?_
 simp only [pS, pN, pA, pC, pZ]
 refine do_ rfl (.bool true) (ex_extract rfl rfl) ?_
 simp only [pS, pN, pA, pC, pZ]
 refine stNew S21 (v := fun n => .pointer (some ⟨n, 0, none⟩)) rfl (ex_alloc (zero_75 _)) (fun n33 w34 S35 => ?_)
 simp only [pS, pN, pA, pC, pZ]
 have S35 : St W (whole W) w34 F22 [⟨n33, [(.int .i64 0), (.slice none 0 0), (.slice none 0 0)], 75⟩, ⟨n5, [(.slice a30 p3.name.length c30), (.slice a31 p3.key.length c31), (.slice a32 p3.value.length c32), (.bool p3.gone)], 30⟩, ⟨n2, [(.slice a20 p2.name.length c20), (.slice a21 p2.key.length c21), (.slice a22 p2.value.length c22), (.bool p2.gone)], 30⟩] [] := S35
 refine stStore (i := 0) (v := (.agg #[(.int .i64 (txO l1 []).start), (.slice xa27 (txO l1 []).reads.length xc28), (.slice xa29 (txO l1 []).writes.length xc30)])) S35 rfl rfl rfl rfl (size_75) (allc3 rfl rfl rfl) (Nat.le_of_ble_eq_true rfl) (fun w36 S37 => ?_)
 simp only [pS, pN, pA, pC, pZ]
 have S37 : St W (whole W) w36 F22 [⟨n33, [(.int .i64 (txO l1 []).start), (.slice xa27 (txO l1 []).reads.length xc28), (.slice xa29 (txO l1 []).writes.length xc30)], 75⟩, ⟨n5, [(.slice a30 p3.name.length c30), (.slice a31 p3.key.length c31), (.slice a32 p3.value.length c32), (.bool p3.gone)], 30⟩, ⟨n2, [(.slice a20 p2.name.length c20), (.slice a21 p2.key.length c21), (.slice a22 p2.value.length c22), (.bool p2.gone)], 30⟩] [] := S37
 refine do_ rfl (.bool true) (ex_assign _) ?_
 simp only [pS, pN, pA, pC, pZ]
 refine wl_nil (hK19 _ _ ?_)
 refine wp_seq_k (fun K38 hK38 => region_wl ?_)
 refine do_ rfl (.agg #[(.slice a20 p2.name.length c20), (.slice a21 p2.key.length c21), (.slice a22 p2.value.length c22), (.bool p2.gone)]) (ex_load rfl (loadN (cs := [(.slice a20 p2.name.length c20), (.slice a21 p2.key.length c21), (.slice a22 p2.value.length c22), (.bool p2.gone)]) Try.underlying30 rfl (size_30) (St.range S37 (i := 2) rfl 0 [(.slice a20 p2.name.length c20), (.slice a21 p2.key.length c21), (.slice a22 p2.value.length c22), (.bool p2.gone)] (sub_range 0 rfl)))) ?_
 simp only [pS, pN, pA, pC, pZ]
 refine stGives S37 rfl (ex_fn (vs := #[(.agg #[(.slice a20 p2.name.length c20), (.slice a21 p2.key.length c21), (.slice a22 p2.value.length c22), (.bool p2.gone)])]) (map1 rfl) rfl (ent_19 _ _)) (keepWrite_spec _ _ _ p2 (S37).sat ⟨_, _, _, _, _, _, rfl, (z20.mono (le12.trans le23)), (z21.mono (le12.trans le23)), (z22.mono (le12.trans le23))⟩) ?_
 intro v44 w39 F41 S40 le42 R43
 obtain ⟨xa45, xc46, xa47, xc48, xa49, xc50, rfl, r51, r52, r53⟩ := R43
 simp only [pS, pN, pA, pC, pZ]
 refine stNew S40 (v := fun n => .pointer (some ⟨n, 0, none⟩)) rfl (ex_alloc (zero_27 _)) (fun n54 w55 S56 => ?_)
 simp only [pS, pN, pA, pC, pZ]
 have S56 : St W (whole W) w55 F41 [⟨n54, [(.slice none 0 0), (.slice none 0 0), (.bool false), (.slice none 0 0)], 27⟩, ⟨n33, [(.int .i64 (txO l1 []).start), (.slice xa27 (txO l1 []).reads.length xc28), (.slice xa29 (txO l1 []).writes.length xc30)], 75⟩, ⟨n5, [(.slice a30 p3.name.length c30), (.slice a31 p3.key.length c31), (.slice a32 p3.value.length c32), (.bool p3.gone)], 30⟩, ⟨n2, [(.slice a20 p2.name.length c20), (.slice a21 p2.key.length c21), (.slice a22 p2.value.length c22), (.bool p2.gone)], 30⟩] [] := S56
 refine stStore (i := 0) (v := (.agg #[(.slice xa45 (writeP p2).name.length xc46), (.slice xa47 (writeP p2).key.length xc48), (.bool (writeP p2).gone), (.slice xa49 (writeP p2).value.length xc50)])) S56 rfl rfl rfl rfl (size_27) (allc4 rfl rfl rfl rfl) (Nat.le_of_ble_eq_true rfl) (fun w57 S58 => ?_)
 simp only [pS, pN, pA, pC, pZ]
 have S58 : St W (whole W) w57 F41 [⟨n54, [(.slice xa45 (writeP p2).name.length xc46), (.slice xa47 (writeP p2).key.length xc48), (.bool (writeP p2).gone), (.slice xa49 (writeP p2).value.length xc50)], 27⟩, ⟨n33, [(.int .i64 (txO l1 []).start), (.slice xa27 (txO l1 []).reads.length xc28), (.slice xa29 (txO l1 []).writes.length xc30)], 75⟩, ⟨n5, [(.slice a30 p3.name.length c30), (.slice a31 p3.key.length c31), (.slice a32 p3.value.length c32), (.bool p3.gone)], 30⟩, ⟨n2, [(.slice a20 p2.name.length c20), (.slice a21 p2.key.length c21), (.slice a22 p2.value.length c22), (.bool p2.gone)], 30⟩] [] := S58
 refine wl_nil (hK38 _ _ ?_)
 refine wp_seq_k (fun K59 hK59 => region_wl ?_)
 refine do_ rfl (.agg #[(.slice a30 p3.name.length c30), (.slice a31 p3.key.length c31), (.slice a32 p3.value.length c32), (.bool p3.gone)]) (ex_load rfl (loadN (cs := [(.slice a30 p3.name.length c30), (.slice a31 p3.key.length c31), (.slice a32 p3.value.length c32), (.bool p3.gone)]) Try.underlying30 rfl (size_30) (St.range S58 (i := 2) rfl 0 [(.slice a30 p3.name.length c30), (.slice a31 p3.key.length c31), (.slice a32 p3.value.length c32), (.bool p3.gone)] (sub_range 0 rfl)))) ?_
 simp only [pS, pN, pA, pC, pZ]
 refine stGives S58 rfl (ex_fn (vs := #[(.agg #[(.slice a30 p3.name.length c30), (.slice a31 p3.key.length c31), (.slice a32 p3.value.length c32), (.bool p3.gone)])]) (map1 rfl) rfl (ent_19 _ _)) (keepWrite_spec _ _ _ p3 (S58).sat ⟨_, _, _, _, _, _, rfl, (z30.mono ((le12.trans le23).trans le42)), (z31.mono ((le12.trans le23).trans le42)), (z32.mono ((le12.trans le23).trans le42))⟩) ?_
 intro v65 w60 F62 S61 le63 R64
 obtain ⟨xa66, xc67, xa68, xc69, xa70, xc71, rfl, r72, r73, r74⟩ := R64
 simp only [pS, pN, pA, pC, pZ]
 refine stNew S61 (v := fun n => .pointer (some ⟨n, 0, none⟩)) rfl (ex_alloc (zero_27 _)) (fun n75 w76 S77 => ?_)
 simp only [pS, pN, pA, pC, pZ]
 have S77 : St W (whole W) w76 F62 [⟨n75, [(.slice none 0 0), (.slice none 0 0), (.bool false), (.slice none 0 0)], 27⟩, ⟨n54, [(.slice xa45 (writeP p2).name.length xc46), (.slice xa47 (writeP p2).key.length xc48), (.bool (writeP p2).gone), (.slice xa49 (writeP p2).value.length xc50)], 27⟩, ⟨n33, [(.int .i64 (txO l1 []).start), (.slice xa27 (txO l1 []).reads.length xc28), (.slice xa29 (txO l1 []).writes.length xc30)], 75⟩, ⟨n5, [(.slice a30 p3.name.length c30), (.slice a31 p3.key.length c31), (.slice a32 p3.value.length c32), (.bool p3.gone)], 30⟩, ⟨n2, [(.slice a20 p2.name.length c20), (.slice a21 p2.key.length c21), (.slice a22 p2.value.length c22), (.bool p2.gone)], 30⟩] [] := S77
 refine stStore (i := 0) (v := (.agg #[(.slice xa66 (writeP p3).name.length xc67), (.slice xa68 (writeP p3).key.length xc69), (.bool (writeP p3).gone), (.slice xa70 (writeP p3).value.length xc71)])) S77 rfl rfl rfl rfl (size_27) (allc4 rfl rfl rfl rfl) (Nat.le_of_ble_eq_true rfl) (fun w78 S79 => ?_)
 simp only [pS, pN, pA, pC, pZ]
 have S79 : St W (whole W) w78 F62 [⟨n75, [(.slice xa66 (writeP p3).name.length xc67), (.slice xa68 (writeP p3).key.length xc69), (.bool (writeP p3).gone), (.slice xa70 (writeP p3).value.length xc71)], 27⟩, ⟨n54, [(.slice xa45 (writeP p2).name.length xc46), (.slice xa47 (writeP p2).key.length xc48), (.bool (writeP p2).gone), (.slice xa49 (writeP p2).value.length xc50)], 27⟩, ⟨n33, [(.int .i64 (txO l1 []).start), (.slice xa27 (txO l1 []).reads.length xc28), (.slice xa29 (txO l1 []).writes.length xc30)], 75⟩, ⟨n5, [(.slice a30 p3.name.length c30), (.slice a31 p3.key.length c31), (.slice a32 p3.value.length c32), (.bool p3.gone)], 30⟩, ⟨n2, [(.slice a20 p2.name.length c20), (.slice a21 p2.key.length c21), (.slice a22 p2.value.length c22), (.bool p2.gone)], 30⟩] [] := S79
 refine wl_nil (hK59 _ _ ?_)
 refine wp_seq_k (fun K80 hK80 => ?_)
 have hT := txO_ok l1 []
 obtain ⟨A, hA⟩ := writeX_room (t := (txO l1 [])) (w := (writeP p2)) (by omega)
 have hAk := writeX_ok hT.1 (writeP_ok p2) hA
 have hself : lookX (forestW (writesN l0 20)) A (writeP p2).name (writeP p2).key = (if (writeP p2).gone then none else some (writeP p2).value, true) := by unfold lookX; rw [own_self hA]
 refine region_wl ?_
 refine do_ rfl (.agg #[(.int .i64 (txO l1 []).start), (.slice xa27 (txO l1 []).reads.length xc28), (.slice xa29 (txO l1 []).writes.length xc30)]) (ex_load rfl (loadN (cs := [(.int .i64 (txO l1 []).start), (.slice xa27 (txO l1 []).reads.length xc28), (.slice xa29 (txO l1 []).writes.length xc30)]) Try.underlying75 rfl (size_75) (St.range S79 (i := 2) rfl 0 [(.int .i64 (txO l1 []).start), (.slice xa27 (txO l1 []).reads.length xc28), (.slice xa29 (txO l1 []).writes.length xc30)] (sub_range 0 rfl)))) ?_
 simp only [pS, pN, pA, pC, pZ]
 refine do_ rfl (.agg #[(.slice xa45 (writeP p2).name.length xc46), (.slice xa47 (writeP p2).key.length xc48), (.bool (writeP p2).gone), (.slice xa49 (writeP p2).value.length xc50)]) (ex_load rfl (loadN (cs := [(.slice xa45 (writeP p2).name.length xc46), (.slice xa47 (writeP p2).key.length xc48), (.bool (writeP p2).gone), (.slice xa49 (writeP p2).value.length xc50)]) Try.underlying27 rfl (size_27) (St.range S79 (i := 1) rfl 0 [(.slice xa45 (writeP p2).name.length xc46), (.slice xa47 (writeP p2).key.length xc48), (.bool (writeP p2).gone), (.slice xa49 (writeP p2).value.length xc50)] (sub_range 0 rfl)))) ?_
 simp only [pS, pN, pA, pC, pZ]
 refine stGives S79 rfl (ex_fn (vs := #[(.agg #[(.int .i64 (txO l1 []).start), (.slice xa27 (txO l1 []).reads.length xc28), (.slice xa29 (txO l1 []).writes.length xc30)]), (.agg #[(.slice xa45 (writeP p2).name.length xc46), (.slice xa47 (writeP p2).key.length xc48), (.bool (writeP p2).gone), (.slice xa49 (writeP p2).value.length xc50)])]) (map2 rfl rfl) rfl (ent_42 _ _)) (txnWriteIs_spec _ _ _ _ (txO l1 []) (writeP p2) A (S79).sat ⟨_, _, _, _, rfl, (r31.mono (le42.trans le63)), (r32.mono (le42.trans le63))⟩ ⟨_, _, _, _, _, _, rfl, (r51.mono le63), (r52.mono le63), (r53.mono le63)⟩ hT.1 (writeP_ok p2) hA) ?_
 intro v86 w81 F83 S82 le84 R85
 obtain ⟨_, rfl, R87⟩ := R85
 obtain ⟨xa88, xc89, xa90, xc91, rfl, r92, r93⟩ := R87
 simp only [pS, pN, pA, pC, pZ]
 refine do_ rfl (.tuple #[(.agg #[(.int .i64 A.start), (.slice xa88 A.reads.length xc89), (.slice xa90 A.writes.length xc91)]), (.int .i64 0)]) (ex_move _) ?_
 simp only [pS, pN, pA, pC, pZ]
 refine do_ rfl (.agg #[(.int .i64 A.start), (.slice xa88 A.reads.length xc89), (.slice xa90 A.writes.length xc91)]) (ex_extract rfl rfl) ?_
 simp only [pS, pN, pA, pC, pZ]
 refine do_ rfl (.int .i64 0) (ex_extract rfl rfl) ?_
 simp only [pS, pN, pA, pC, pZ]
 refine stNew S82 (v := fun n => .pointer (some ⟨n, 0, none⟩)) rfl (ex_alloc (zero_75 _)) (fun n94 w95 S96 => ?_)
 simp only [pS, pN, pA, pC, pZ]
 have S96 : St W (whole W) w95 F83 [⟨n94, [(.int .i64 0), (.slice none 0 0), (.slice none 0 0)], 75⟩, ⟨n75, [(.slice xa66 (writeP p3).name.length xc67), (.slice xa68 (writeP p3).key.length xc69), (.bool (writeP p3).gone), (.slice xa70 (writeP p3).value.length xc71)], 27⟩, ⟨n54, [(.slice xa45 (writeP p2).name.length xc46), (.slice xa47 (writeP p2).key.length xc48), (.bool (writeP p2).gone), (.slice xa49 (writeP p2).value.length xc50)], 27⟩, ⟨n33, [(.int .i64 (txO l1 []).start), (.slice xa27 (txO l1 []).reads.length xc28), (.slice xa29 (txO l1 []).writes.length xc30)], 75⟩, ⟨n5, [(.slice a30 p3.name.length c30), (.slice a31 p3.key.length c31), (.slice a32 p3.value.length c32), (.bool p3.gone)], 30⟩, ⟨n2, [(.slice a20 p2.name.length c20), (.slice a21 p2.key.length c21), (.slice a22 p2.value.length c22), (.bool p2.gone)], 30⟩] [] := S96
 refine stStore (i := 0) (v := (.agg #[(.int .i64 A.start), (.slice xa88 A.reads.length xc89), (.slice xa90 A.writes.length xc91)])) S96 rfl rfl rfl rfl (size_75) (allc3 rfl rfl rfl) (Nat.le_of_ble_eq_true rfl) (fun w97 S98 => ?_)
 simp only [pS, pN, pA, pC, pZ]
 have S98 : St W (whole W) w97 F83 [⟨n94, [(.int .i64 A.start), (.slice xa88 A.reads.length xc89), (.slice xa90 A.writes.length xc91)], 75⟩, ⟨n75, [(.slice xa66 (writeP p3).name.length xc67), (.slice xa68 (writeP p3).key.length xc69), (.bool (writeP p3).gone), (.slice xa70 (writeP p3).value.length xc71)], 27⟩, ⟨n54, [(.slice xa45 (writeP p2).name.length xc46), (.slice xa47 (writeP p2).key.length xc48), (.bool (writeP p2).gone), (.slice xa49 (writeP p2).value.length xc50)], 27⟩, ⟨n33, [(.int .i64 (txO l1 []).start), (.slice xa27 (txO l1 []).reads.length xc28), (.slice xa29 (txO l1 []).writes.length xc30)], 75⟩, ⟨n5, [(.slice a30 p3.name.length c30), (.slice a31 p3.key.length c31), (.slice a32 p3.value.length c32), (.bool p3.gone)], 30⟩, ⟨n2, [(.slice a20 p2.name.length c20), (.slice a21 p2.key.length c21), (.slice a22 p2.value.length c22), (.bool p2.gone)], 30⟩] [] := S98
 refine do_ rfl (.int .i64 0) (ex_assign _) ?_
 simp only [pS, pN, pA, pC, pZ]
 refine wl_nil (hK80 _ _ ?_)
 refine wp_seq_k (fun K99 hK99 => ?_)
 refine wp_seq_k (fun K100 hK100 => region_wl ?_)
 refine do_ rfl (.int .i64 0) (ex_move _) ?_
 simp only [pS, pN, pA, pC, pZ]
 refine do_ rfl (.bool false) (ex_neq (b := false) rfl rfl (by decide)) ?_
 simp only [pS, pN, pA, pC, pZ]
 refine do_ rfl (.bool false) (ex_move _) ?_
 simp only [pS, pN, pA, pC, pZ]
 refine do_ rfl (.bool true) (ex_move _) ?_
 simp only [pS, pN, pA, pC, pZ]
 refine do_ rfl (.bool false) (ex_not (b := true) rfl rfl) ?_
 simp only [pS, pN, pA, pC, pZ]
 refine do_ rfl (.bool false) (ex_pick (b := false) rfl) ?_
 simp only [pS, pN, pA, pC, pZ]
 refine wl_nil (hK100 _ _ ?_)
 refine wp_cond_false rfl ?_
 refine wp_skip ?_
 refine hK99 _ _ ?_
 refine wp_seq_k (fun K101 hK101 => region_wl ?_)
 refine do_ rfl (.slice a15 (forestW (writesN l0 20)).length c16) (ex_move _) ?_
 simp only [pS, pN, pA, pC, pZ]
 refine do_ rfl (.agg #[(.int .i64 A.start), (.slice xa88 A.reads.length xc89), (.slice xa90 A.writes.length xc91)]) (ex_load rfl (loadN (cs := [(.int .i64 A.start), (.slice xa88 A.reads.length xc89), (.slice xa90 A.writes.length xc91)]) Try.underlying75 rfl (size_75) (St.range S98 (i := 0) rfl 0 [(.int .i64 A.start), (.slice xa88 A.reads.length xc89), (.slice xa90 A.writes.length xc91)] (sub_range 0 rfl)))) ?_
 simp only [pS, pN, pA, pC, pZ]
 refine do_ rfl (.pointer (some ⟨n54, 0, none⟩)) (ex_field (q := ⟨n54, 0, none⟩) rfl (fa_27_0 _ _)) ?_
 simp only [pS, pN, pA, pC, pZ]
 refine do_ rfl (.slice xa45 (writeP p2).name.length xc46) (ex_load rfl (load1 (nagg_25 _) (St.cell S98 (i := 2) rfl rfl))) ?_
 simp only [pS, pN, pA, pC, pZ]
 refine do_ rfl (.pointer (some ⟨n54, 1, none⟩)) (ex_field (q := ⟨n54, 1, none⟩) rfl (fa_27_1 _ _)) ?_
 simp only [pS, pN, pA, pC, pZ]
 refine do_ rfl (.slice xa47 (writeP p2).key.length xc48) (ex_load rfl (load1 (nagg_25 _) (St.cell S98 (i := 2) rfl rfl))) ?_
 simp only [pS, pN, pA, pC, pZ]
 refine stGives S98 rfl (ex_fn (vs := #[(.slice a15 (forestW (writesN l0 20)).length c16), (.agg #[(.int .i64 A.start), (.slice xa88 A.reads.length xc89), (.slice xa90 A.writes.length xc91)]), (.slice xa45 (writeP p2).name.length xc46), (.slice xa47 (writeP p2).key.length xc48)]) (map4 rfl rfl rfl rfl) rfl (ent_48 _ _)) (lookIs_spec _ _ _ _ _ _ (forestW (writesN l0 20)) A ((writeP p2).name) ((writeP p2).key) (S98).sat (R13.mono (((le23.trans le42).trans le63).trans le84)) ⟨_, _, _, _, rfl, r92, r93⟩ (r51.mono (le63.trans le84)) (r52.mono (le63.trans le84)) okf60 hAk (WrOk.name (writeP_ok p2)) ⟨WrOk.key1 (writeP_ok p2), WrOk.key2 (writeP_ok p2)⟩ hself) ?_
 intro v107 w102 F104 S103 le105 R106
 obtain ⟨_, rfl, r111⟩ := R106
 obtain ⟨a108, c109, rfl, r110⟩ := FndV.fd r111 (writeP_ok p2)
 have r110 : Bs _ (.slice a108 (writeP p2).value.length c109) (writeP p2).value := r110
 simp only [pS, pN, pA, pC, pZ]
 refine do_ rfl (.tuple #[(.agg #[(.bool (!(writeP p2).gone)), (.slice a108 (writeP p2).value.length c109)]), (.bool true), (.int .i64 0)]) (ex_move _) ?_
 simp only [pS, pN, pA, pC, pZ]
 refine do_ rfl (.agg #[(.bool (!(writeP p2).gone)), (.slice a108 (writeP p2).value.length c109)]) (ex_extract rfl rfl) ?_
 simp only [pS, pN, pA, pC, pZ]
 refine do_ rfl (.bool true) (ex_extract rfl rfl) ?_
 simp only [pS, pN, pA, pC, pZ]
 refine do_ rfl (.int .i64 0) (ex_extract rfl rfl) ?_
 simp only [pS, pN, pA, pC, pZ]
 refine stNew S103 (v := fun n => .pointer (some ⟨n, 0, none⟩)) rfl (ex_alloc (zero_38 _)) (fun n112 w113 S114 => ?_)
 simp only [pS, pN, pA, pC, pZ]
 have S114 : St W (whole W) w113 F104 [⟨n112, [(.bool false), (.slice none 0 0)], 38⟩, ⟨n94, [(.int .i64 A.start), (.slice xa88 A.reads.length xc89), (.slice xa90 A.writes.length xc91)], 75⟩, ⟨n75, [(.slice xa66 (writeP p3).name.length xc67), (.slice xa68 (writeP p3).key.length xc69), (.bool (writeP p3).gone), (.slice xa70 (writeP p3).value.length xc71)], 27⟩, ⟨n54, [(.slice xa45 (writeP p2).name.length xc46), (.slice xa47 (writeP p2).key.length xc48), (.bool (writeP p2).gone), (.slice xa49 (writeP p2).value.length xc50)], 27⟩, ⟨n33, [(.int .i64 (txO l1 []).start), (.slice xa27 (txO l1 []).reads.length xc28), (.slice xa29 (txO l1 []).writes.length xc30)], 75⟩, ⟨n5, [(.slice a30 p3.name.length c30), (.slice a31 p3.key.length c31), (.slice a32 p3.value.length c32), (.bool p3.gone)], 30⟩, ⟨n2, [(.slice a20 p2.name.length c20), (.slice a21 p2.key.length c21), (.slice a22 p2.value.length c22), (.bool p2.gone)], 30⟩] [] := S114
 refine stStore (i := 0) (v := (.agg #[(.bool (!(writeP p2).gone)), (.slice a108 (writeP p2).value.length c109)])) S114 rfl rfl rfl rfl (size_38) (allc2 rfl rfl) (Nat.le_of_ble_eq_true rfl) (fun w115 S116 => ?_)
 simp only [pS, pN, pA, pC, pZ]
 have S116 : St W (whole W) w115 F104 [⟨n112, [(.bool (!(writeP p2).gone)), (.slice a108 (writeP p2).value.length c109)], 38⟩, ⟨n94, [(.int .i64 A.start), (.slice xa88 A.reads.length xc89), (.slice xa90 A.writes.length xc91)], 75⟩, ⟨n75, [(.slice xa66 (writeP p3).name.length xc67), (.slice xa68 (writeP p3).key.length xc69), (.bool (writeP p3).gone), (.slice xa70 (writeP p3).value.length xc71)], 27⟩, ⟨n54, [(.slice xa45 (writeP p2).name.length xc46), (.slice xa47 (writeP p2).key.length xc48), (.bool (writeP p2).gone), (.slice xa49 (writeP p2).value.length xc50)], 27⟩, ⟨n33, [(.int .i64 (txO l1 []).start), (.slice xa27 (txO l1 []).reads.length xc28), (.slice xa29 (txO l1 []).writes.length xc30)], 75⟩, ⟨n5, [(.slice a30 p3.name.length c30), (.slice a31 p3.key.length c31), (.slice a32 p3.value.length c32), (.bool p3.gone)], 30⟩, ⟨n2, [(.slice a20 p2.name.length c20), (.slice a21 p2.key.length c21), (.slice a22 p2.value.length c22), (.bool p2.gone)], 30⟩] [] := S116
 refine do_ rfl (.bool true) (ex_assign _) ?_
 simp only [pS, pN, pA, pC, pZ]
 refine do_ rfl (.int .i64 0) (ex_assign _) ?_
 simp only [pS, pN, pA, pC, pZ]
 refine wl_nil (hK101 _ _ ?_)
 refine wp_seq_k (fun K117 hK117 => ?_)
 by_cases e1 : (writeP p2).name = (writeP p3).name
 ·by_cases e2 : (writeP p2).key = (writeP p3).key
  ·refine region_wl ?_
   refine do_ rfl (.slice a15 (forestW (writesN l0 20)).length c16) (ex_move _) ?_
   simp only [pS, pN, pA, pC, pZ]
   refine do_ rfl (.agg #[(.int .i64 A.start), (.slice xa88 A.reads.length xc89), (.slice xa90 A.writes.length xc91)]) (ex_load rfl (loadN (cs := [(.int .i64 A.start), (.slice xa88 A.reads.length xc89), (.slice xa90 A.writes.length xc91)]) Try.underlying75 rfl (size_75) (St.range S116 (i := 1) rfl 0 [(.int .i64 A.start), (.slice xa88 A.reads.length xc89), (.slice xa90 A.writes.length xc91)] (sub_range 0 rfl)))) ?_
   simp only [pS, pN, pA, pC, pZ]
   refine do_ rfl (.pointer (some ⟨n75, 0, none⟩)) (ex_field (q := ⟨n75, 0, none⟩) rfl (fa_27_0 _ _)) ?_
   simp only [pS, pN, pA, pC, pZ]
   refine do_ rfl (.slice xa66 (writeP p3).name.length xc67) (ex_load rfl (load1 (nagg_25 _) (St.cell S116 (i := 2) rfl rfl))) ?_
   simp only [pS, pN, pA, pC, pZ]
   refine do_ rfl (.pointer (some ⟨n75, 1, none⟩)) (ex_field (q := ⟨n75, 1, none⟩) rfl (fa_27_1 _ _)) ?_
   simp only [pS, pN, pA, pC, pZ]
   refine do_ rfl (.slice xa68 (writeP p3).key.length xc69) (ex_load rfl (load1 (nagg_25 _) (St.cell S116 (i := 2) rfl rfl))) ?_
   simp only [pS, pN, pA, pC, pZ]
   refine stGives S116 rfl (ex_fn (vs := #[(.slice a15 (forestW (writesN l0 20)).length c16), (.agg #[(.int .i64 A.start), (.slice xa88 A.reads.length xc89), (.slice xa90 A.writes.length xc91)]), (.slice xa66 (writeP p3).name.length xc67), (.slice xa68 (writeP p3).key.length xc69)]) (map4 rfl rfl rfl rfl) rfl (ent_48 _ _)) (lookIs_spec _ _ _ _ _ _ (forestW (writesN l0 20)) A ((writeP p3).name) ((writeP p3).key) (S116).sat (R13.mono ((((le23.trans le42).trans le63).trans le84).trans le105)) ⟨_, _, _, _, rfl, (r92.mono le105), (r93.mono le105)⟩ (r72.mono (le84.trans le105)) (r73.mono (le84.trans le105)) okf60 hAk (WrOk.name (writeP_ok p3)) ⟨WrOk.key1 (writeP_ok p3), WrOk.key2 (writeP_ok p3)⟩ rfl) ?_
   intro v123 w118 F120 S119 le121 R122
   obtain ⟨_, rfl, a124, c125, rfl, r126⟩ := R122
   have r126 : Bs _ (.slice a124 ((lookX (forestW (writesN l0 20)) A (writeP p3).name (writeP p3).key).1.getD []).length c125) ((lookX (forestW (writesN l0 20)) A (writeP p3).name (writeP p3).key).1.getD []) := r126
   simp only [pS, pN, pA, pC, pZ]
   refine do_ rfl (.tuple #[(.agg #[(.bool (lookX (forestW (writesN l0 20)) A (writeP p3).name (writeP p3).key).1.isSome), (.slice a124 ((lookX (forestW (writesN l0 20)) A (writeP p3).name (writeP p3).key).1.getD []).length c125)]), (.bool (lookX (forestW (writesN l0 20)) A (writeP p3).name (writeP p3).key).2), (.int .i64 0)]) (ex_move _) ?_
   simp only [pS, pN, pA, pC, pZ]
   refine do_ rfl (.agg #[(.bool (lookX (forestW (writesN l0 20)) A (writeP p3).name (writeP p3).key).1.isSome), (.slice a124 ((lookX (forestW (writesN l0 20)) A (writeP p3).name (writeP p3).key).1.getD []).length c125)]) (ex_extract rfl rfl) ?_
   simp only [pS, pN, pA, pC, pZ]
   refine do_ rfl (.bool (lookX (forestW (writesN l0 20)) A (writeP p3).name (writeP p3).key).2) (ex_extract rfl rfl) ?_
   simp only [pS, pN, pA, pC, pZ]
   refine do_ rfl (.int .i64 0) (ex_extract rfl rfl) ?_
   simp only [pS, pN, pA, pC, pZ]
   refine stNew S119 (v := fun n => .pointer (some ⟨n, 0, none⟩)) rfl (ex_alloc (zero_38 _)) (fun n128 w129 S130 => ?_)
   simp only [pS, pN, pA, pC, pZ]
   have S130 : St W (whole W) w129 F120 [⟨n128, [(.bool false), (.slice none 0 0)], 38⟩, ⟨n112, [(.bool (!(writeP p2).gone)), (.slice a108 (writeP p2).value.length c109)], 38⟩, ⟨n94, [(.int .i64 A.start), (.slice xa88 A.reads.length xc89), (.slice xa90 A.writes.length xc91)], 75⟩, ⟨n75, [(.slice xa66 (writeP p3).name.length xc67), (.slice xa68 (writeP p3).key.length xc69), (.bool (writeP p3).gone), (.slice xa70 (writeP p3).value.length xc71)], 27⟩, ⟨n54, [(.slice xa45 (writeP p2).name.length xc46), (.slice xa47 (writeP p2).key.length xc48), (.bool (writeP p2).gone), (.slice xa49 (writeP p2).value.length xc50)], 27⟩, ⟨n33, [(.int .i64 (txO l1 []).start), (.slice xa27 (txO l1 []).reads.length xc28), (.slice xa29 (txO l1 []).writes.length xc30)], 75⟩, ⟨n5, [(.slice a30 p3.name.length c30), (.slice a31 p3.key.length c31), (.slice a32 p3.value.length c32), (.bool p3.gone)], 30⟩, ⟨n2, [(.slice a20 p2.name.length c20), (.slice a21 p2.key.length c21), (.slice a22 p2.value.length c22), (.bool p2.gone)], 30⟩] [] := S130
   refine stStore (i := 0) (v := (.agg #[(.bool (lookX (forestW (writesN l0 20)) A (writeP p3).name (writeP p3).key).1.isSome), (.slice a124 ((lookX (forestW (writesN l0 20)) A (writeP p3).name (writeP p3).key).1.getD []).length c125)])) S130 rfl rfl rfl rfl (size_38) (allc2 rfl rfl) (Nat.le_of_ble_eq_true rfl) (fun w131 S132 => ?_)
   simp only [pS, pN, pA, pC, pZ]
   have S132 : St W (whole W) w131 F120 [⟨n128, [(.bool (lookX (forestW (writesN l0 20)) A (writeP p3).name (writeP p3).key).1.isSome), (.slice a124 ((lookX (forestW (writesN l0 20)) A (writeP p3).name (writeP p3).key).1.getD []).length c125)], 38⟩, ⟨n112, [(.bool (!(writeP p2).gone)), (.slice a108 (writeP p2).value.length c109)], 38⟩, ⟨n94, [(.int .i64 A.start), (.slice xa88 A.reads.length xc89), (.slice xa90 A.writes.length xc91)], 75⟩, ⟨n75, [(.slice xa66 (writeP p3).name.length xc67), (.slice xa68 (writeP p3).key.length xc69), (.bool (writeP p3).gone), (.slice xa70 (writeP p3).value.length xc71)], 27⟩, ⟨n54, [(.slice xa45 (writeP p2).name.length xc46), (.slice xa47 (writeP p2).key.length xc48), (.bool (writeP p2).gone), (.slice xa49 (writeP p2).value.length xc50)], 27⟩, ⟨n33, [(.int .i64 (txO l1 []).start), (.slice xa27 (txO l1 []).reads.length xc28), (.slice xa29 (txO l1 []).writes.length xc30)], 75⟩, ⟨n5, [(.slice a30 p3.name.length c30), (.slice a31 p3.key.length c31), (.slice a32 p3.value.length c32), (.bool p3.gone)], 30⟩, ⟨n2, [(.slice a20 p2.name.length c20), (.slice a21 p2.key.length c21), (.slice a22 p2.value.length c22), (.bool p2.gone)], 30⟩] [] := S132
   refine do_ rfl (.bool (lookX (forestW (writesN l0 20)) A (writeP p3).name (writeP p3).key).2) (ex_assign _) ?_
   simp only [pS, pN, pA, pC, pZ]
   refine do_ rfl (.int .i64 0) (ex_assign _) ?_
   simp only [pS, pN, pA, pC, pZ]
   refine wl_nil (hK117 _ _ ?_)
   refine wp_seq_k (fun K133 hK133 => region_wl ?_)
   refine do_ rfl (.slice a15 (forestW (writesN l0 20)).length c16) (ex_move _) ?_
   simp only [pS, pN, pA, pC, pZ]
   refine do_ rfl (.agg #[(.int .i64 (txO l1 []).start), (.slice xa27 (txO l1 []).reads.length xc28), (.slice xa29 (txO l1 []).writes.length xc30)]) (ex_load rfl (loadN (cs := [(.int .i64 (txO l1 []).start), (.slice xa27 (txO l1 []).reads.length xc28), (.slice xa29 (txO l1 []).writes.length xc30)]) Try.underlying75 rfl (size_75) (St.range S132 (i := 5) rfl 0 [(.int .i64 (txO l1 []).start), (.slice xa27 (txO l1 []).reads.length xc28), (.slice xa29 (txO l1 []).writes.length xc30)] (sub_range 0 rfl)))) ?_
   simp only [pS, pN, pA, pC, pZ]
   refine do_ rfl (.pointer (some ⟨n75, 0, none⟩)) (ex_field (q := ⟨n75, 0, none⟩) rfl (fa_27_0 _ _)) ?_
   simp only [pS, pN, pA, pC, pZ]
   refine do_ rfl (.slice xa66 (writeP p3).name.length xc67) (ex_load rfl (load1 (nagg_25 _) (St.cell S132 (i := 3) rfl rfl))) ?_
   simp only [pS, pN, pA, pC, pZ]
   refine do_ rfl (.pointer (some ⟨n75, 1, none⟩)) (ex_field (q := ⟨n75, 1, none⟩) rfl (fa_27_1 _ _)) ?_
   simp only [pS, pN, pA, pC, pZ]
   refine do_ rfl (.slice xa68 (writeP p3).key.length xc69) (ex_load rfl (load1 (nagg_25 _) (St.cell S132 (i := 3) rfl rfl))) ?_
   simp only [pS, pN, pA, pC, pZ]
   refine stGives S132 rfl (ex_fn (vs := #[(.slice a15 (forestW (writesN l0 20)).length c16), (.agg #[(.int .i64 (txO l1 []).start), (.slice xa27 (txO l1 []).reads.length xc28), (.slice xa29 (txO l1 []).writes.length xc30)]), (.slice xa66 (writeP p3).name.length xc67), (.slice xa68 (writeP p3).key.length xc69)]) (map4 rfl rfl rfl rfl) rfl (ent_48 _ _)) (lookIs_spec _ _ _ _ _ _ (forestW (writesN l0 20)) (txO l1 []) ((writeP p3).name) ((writeP p3).key) (S132).sat (R13.mono (((((le23.trans le42).trans le63).trans le84).trans le105).trans le121)) ⟨_, _, _, _, rfl, (r31.mono ((((le42.trans le63).trans le84).trans le105).trans le121)), (r32.mono ((((le42.trans le63).trans le84).trans le105).trans le121))⟩ (r72.mono ((le84.trans le105).trans le121)) (r73.mono ((le84.trans le105).trans le121)) okf60 hT.1 (WrOk.name (writeP_ok p3)) ⟨WrOk.key1 (writeP_ok p3), WrOk.key2 (writeP_ok p3)⟩ rfl) ?_
   intro v139 w134 F136 S135 le137 R138
   obtain ⟨_, rfl, a140, c141, rfl, r142⟩ := R138
   have r142 : Bs _ (.slice a140 ((lookX (forestW (writesN l0 20)) (txO l1 []) (writeP p3).name (writeP p3).key).1.getD []).length c141) ((lookX (forestW (writesN l0 20)) (txO l1 []) (writeP p3).name (writeP p3).key).1.getD []) := r142
   simp only [pS, pN, pA, pC, pZ]
   refine do_ rfl (.tuple #[(.agg #[(.bool (lookX (forestW (writesN l0 20)) (txO l1 []) (writeP p3).name (writeP p3).key).1.isSome), (.slice a140 ((lookX (forestW (writesN l0 20)) (txO l1 []) (writeP p3).name (writeP p3).key).1.getD []).length c141)]), (.bool (lookX (forestW (writesN l0 20)) (txO l1 []) (writeP p3).name (writeP p3).key).2), (.int .i64 0)]) (ex_move _) ?_
   simp only [pS, pN, pA, pC, pZ]
   refine do_ rfl (.agg #[(.bool (lookX (forestW (writesN l0 20)) (txO l1 []) (writeP p3).name (writeP p3).key).1.isSome), (.slice a140 ((lookX (forestW (writesN l0 20)) (txO l1 []) (writeP p3).name (writeP p3).key).1.getD []).length c141)]) (ex_extract rfl rfl) ?_
   simp only [pS, pN, pA, pC, pZ]
   refine do_ rfl (.bool (lookX (forestW (writesN l0 20)) (txO l1 []) (writeP p3).name (writeP p3).key).2) (ex_extract rfl rfl) ?_
   simp only [pS, pN, pA, pC, pZ]
   refine do_ rfl (.int .i64 0) (ex_extract rfl rfl) ?_
   simp only [pS, pN, pA, pC, pZ]
   refine stNew S135 (v := fun n => .pointer (some ⟨n, 0, none⟩)) rfl (ex_alloc (zero_38 _)) (fun n144 w145 S146 => ?_)
   simp only [pS, pN, pA, pC, pZ]
   have S146 : St W (whole W) w145 F136 [⟨n144, [(.bool false), (.slice none 0 0)], 38⟩, ⟨n128, [(.bool (lookX (forestW (writesN l0 20)) A (writeP p3).name (writeP p3).key).1.isSome), (.slice a124 ((lookX (forestW (writesN l0 20)) A (writeP p3).name (writeP p3).key).1.getD []).length c125)], 38⟩, ⟨n112, [(.bool (!(writeP p2).gone)), (.slice a108 (writeP p2).value.length c109)], 38⟩, ⟨n94, [(.int .i64 A.start), (.slice xa88 A.reads.length xc89), (.slice xa90 A.writes.length xc91)], 75⟩, ⟨n75, [(.slice xa66 (writeP p3).name.length xc67), (.slice xa68 (writeP p3).key.length xc69), (.bool (writeP p3).gone), (.slice xa70 (writeP p3).value.length xc71)], 27⟩, ⟨n54, [(.slice xa45 (writeP p2).name.length xc46), (.slice xa47 (writeP p2).key.length xc48), (.bool (writeP p2).gone), (.slice xa49 (writeP p2).value.length xc50)], 27⟩, ⟨n33, [(.int .i64 (txO l1 []).start), (.slice xa27 (txO l1 []).reads.length xc28), (.slice xa29 (txO l1 []).writes.length xc30)], 75⟩, ⟨n5, [(.slice a30 p3.name.length c30), (.slice a31 p3.key.length c31), (.slice a32 p3.value.length c32), (.bool p3.gone)], 30⟩, ⟨n2, [(.slice a20 p2.name.length c20), (.slice a21 p2.key.length c21), (.slice a22 p2.value.length c22), (.bool p2.gone)], 30⟩] [] := S146
   refine stStore (i := 0) (v := (.agg #[(.bool (lookX (forestW (writesN l0 20)) (txO l1 []) (writeP p3).name (writeP p3).key).1.isSome), (.slice a140 ((lookX (forestW (writesN l0 20)) (txO l1 []) (writeP p3).name (writeP p3).key).1.getD []).length c141)])) S146 rfl rfl rfl rfl (size_38) (allc2 rfl rfl) (Nat.le_of_ble_eq_true rfl) (fun w147 S148 => ?_)
   simp only [pS, pN, pA, pC, pZ]
   have S148 : St W (whole W) w147 F136 [⟨n144, [(.bool (lookX (forestW (writesN l0 20)) (txO l1 []) (writeP p3).name (writeP p3).key).1.isSome), (.slice a140 ((lookX (forestW (writesN l0 20)) (txO l1 []) (writeP p3).name (writeP p3).key).1.getD []).length c141)], 38⟩, ⟨n128, [(.bool (lookX (forestW (writesN l0 20)) A (writeP p3).name (writeP p3).key).1.isSome), (.slice a124 ((lookX (forestW (writesN l0 20)) A (writeP p3).name (writeP p3).key).1.getD []).length c125)], 38⟩, ⟨n112, [(.bool (!(writeP p2).gone)), (.slice a108 (writeP p2).value.length c109)], 38⟩, ⟨n94, [(.int .i64 A.start), (.slice xa88 A.reads.length xc89), (.slice xa90 A.writes.length xc91)], 75⟩, ⟨n75, [(.slice xa66 (writeP p3).name.length xc67), (.slice xa68 (writeP p3).key.length xc69), (.bool (writeP p3).gone), (.slice xa70 (writeP p3).value.length xc71)], 27⟩, ⟨n54, [(.slice xa45 (writeP p2).name.length xc46), (.slice xa47 (writeP p2).key.length xc48), (.bool (writeP p2).gone), (.slice xa49 (writeP p2).value.length xc50)], 27⟩, ⟨n33, [(.int .i64 (txO l1 []).start), (.slice xa27 (txO l1 []).reads.length xc28), (.slice xa29 (txO l1 []).writes.length xc30)], 75⟩, ⟨n5, [(.slice a30 p3.name.length c30), (.slice a31 p3.key.length c31), (.slice a32 p3.value.length c32), (.bool p3.gone)], 30⟩, ⟨n2, [(.slice a20 p2.name.length c20), (.slice a21 p2.key.length c21), (.slice a22 p2.value.length c22), (.bool p2.gone)], 30⟩] [] := S148
   refine do_ rfl (.bool (lookX (forestW (writesN l0 20)) (txO l1 []) (writeP p3).name (writeP p3).key).2) (ex_assign _) ?_
   simp only [pS, pN, pA, pC, pZ]
   refine do_ rfl (.int .i64 0) (ex_assign _) ?_
   simp only [pS, pN, pA, pC, pZ]
   refine wl_nil (hK133 _ _ ?_)
   refine wp_seq_k (fun K149 hK149 => ?_)
   refine wp_seq_k (fun K150 hK150 => region_wl ?_)
   refine do_ rfl (.int .i64 0) (ex_move _) ?_
   simp only [pS, pN, pA, pC, pZ]
   refine do_ rfl (.bool false) (ex_neq (b := false) rfl rfl (by decide)) ?_
   simp only [pS, pN, pA, pC, pZ]
   refine do_ rfl (.bool false) (ex_move _) ?_
   simp only [pS, pN, pA, pC, pZ]
   refine do_ rfl (.int .i64 0) (ex_move _) ?_
   simp only [pS, pN, pA, pC, pZ]
   refine do_ rfl (.bool false) (ex_neq (b := false) rfl rfl (by decide)) ?_
   simp only [pS, pN, pA, pC, pZ]
   refine do_ rfl (.bool false) (ex_pick (b := false) rfl) ?_
   simp only [pS, pN, pA, pC, pZ]
   refine do_ rfl (.bool false) (ex_move _) ?_
   simp only [pS, pN, pA, pC, pZ]
   refine do_ rfl (.int .i64 0) (ex_move _) ?_
   simp only [pS, pN, pA, pC, pZ]
   refine do_ rfl (.bool false) (ex_neq (b := false) rfl rfl (by decide)) ?_
   simp only [pS, pN, pA, pC, pZ]
   refine do_ rfl (.bool false) (ex_pick (b := false) rfl) ?_
   simp only [pS, pN, pA, pC, pZ]
   refine do_ rfl (.bool false) (ex_move _) ?_
   simp only [pS, pN, pA, pC, pZ]
   refine do_ rfl (.bool true) (ex_move _) ?_
   simp only [pS, pN, pA, pC, pZ]
   refine do_ rfl (.bool false) (ex_not (b := true) rfl rfl) ?_
   simp only [pS, pN, pA, pC, pZ]
   refine do_ rfl (.bool false) (ex_pick (b := false) rfl) ?_
   simp only [pS, pN, pA, pC, pZ]
   refine do_ rfl (.bool false) (ex_move _) ?_
   simp only [pS, pN, pA, pC, pZ]
   refine do_ rfl (.pointer (some ⟨n112, 0, none⟩)) (ex_field (q := ⟨n112, 0, none⟩) rfl (fa_38_0 _ _)) ?_
   simp only [pS, pN, pA, pC, pZ]
   refine do_ rfl (.bool (!(writeP p2).gone)) (ex_load rfl (load1 (nagg_4 _) (St.cell S148 (i := 2) rfl rfl))) ?_
   simp only [pS, pN, pA, pC, pZ]
   refine do_ rfl (.pointer (some ⟨n54, 2, none⟩)) (ex_field (q := ⟨n54, 2, none⟩) rfl (fa_27_2 _ _)) ?_
   simp only [pS, pN, pA, pC, pZ]
   refine do_ rfl (.bool (writeP p2).gone) (ex_load rfl (load1 (nagg_4 _) (St.cell S148 (i := 5) rfl rfl))) ?_
   simp only [pS, pN, pA, pC, pZ]
   refine do_ rfl (.bool false) (ex_eqlB Try.underlying4 rfl rfl (by cases (writeP p2).gone <;> rfl)) ?_
   simp only [pS, pN, pA, pC, pZ]
   refine do_ rfl (.bool false) (ex_pick (b := false) rfl) ?_
   simp only [pS, pN, pA, pC, pZ]
   refine do_ rfl (.bool false) (ex_move _) ?_
   simp only [pS, pN, pA, pC, pZ]
   refine do_ rfl (.pointer (some ⟨n112, 1, none⟩)) (ex_field (q := ⟨n112, 1, none⟩) rfl (fa_38_1 _ _)) ?_
   simp only [pS, pN, pA, pC, pZ]
   refine do_ rfl (.slice a108 (writeP p2).value.length c109) (ex_load rfl (load1 (nagg_25 _) (St.cell S148 (i := 2) rfl rfl))) ?_
   simp only [pS, pN, pA, pC, pZ]
   refine do_ rfl (.pointer (some ⟨n54, 3, none⟩)) (ex_field (q := ⟨n54, 3, none⟩) rfl (fa_27_3 _ _)) ?_
   simp only [pS, pN, pA, pC, pZ]
   refine do_ rfl (.slice xa49 (writeP p2).value.length xc50) (ex_load rfl (load1 (nagg_25 _) (St.cell S148 (i := 5) rfl rfl))) ?_
   simp only [pS, pN, pA, pC, pZ]
   refine stTells (v := (.bool true)) S148 rfl (ex_fn (vs := #[(.slice a108 (writeP p2).value.length c109), (.slice xa49 (writeP p2).value.length xc50)]) (map2 rfl rfl) rfl (ent_31 _ _)) (tells_bool (tells_same (same_spec _ _ _ _ ((writeP p2).value) ((writeP p2).value) (S148).sat (r110.mono (le121.trans le137)) (r53.mono ((((le63.trans le84).trans le105).trans le121).trans le137)))) (beq_iff_eq.2 (rfl))) (fun w151 S152 => ?_)
   simp only [pS, pN, pA, pC, pZ]
   refine do_ rfl (.bool false) (ex_not (b := true) rfl rfl) ?_
   simp only [pS, pN, pA, pC, pZ]
   refine do_ rfl (.bool false) (ex_pick (b := false) rfl) ?_
   simp only [pS, pN, pA, pC, pZ]
   refine wl_nil (hK150 _ _ ?_)
   refine wp_cond_false rfl ?_
   refine wp_skip ?_
   refine hK149 _ _ ?_
   refine wp_seq_k (fun K153 hK153 => region_wl ?_)
   refine do_ rfl (.pointer (some ⟨n54, 0, none⟩)) (ex_field (q := ⟨n54, 0, none⟩) rfl (fa_27_0 _ _)) ?_
   simp only [pS, pN, pA, pC, pZ]
   refine do_ rfl (.slice xa45 (writeP p2).name.length xc46) (ex_load rfl (load1 (nagg_25 _) (St.cell S152 (i := 5) rfl rfl))) ?_
   simp only [pS, pN, pA, pC, pZ]
   refine do_ rfl (.pointer (some ⟨n75, 0, none⟩)) (ex_field (q := ⟨n75, 0, none⟩) rfl (fa_27_0 _ _)) ?_
   simp only [pS, pN, pA, pC, pZ]
   refine do_ rfl (.slice xa66 (writeP p3).name.length xc67) (ex_load rfl (load1 (nagg_25 _) (St.cell S152 (i := 4) rfl rfl))) ?_
   simp only [pS, pN, pA, pC, pZ]
   refine stTells (v := (.bool true)) S152 rfl (ex_fn (vs := #[(.slice xa45 (writeP p2).name.length xc46), (.slice xa66 (writeP p3).name.length xc67)]) (map2 rfl rfl) rfl (ent_31 _ _)) (tells_bool (tells_same (same_spec _ _ _ _ ((writeP p2).name) ((writeP p3).name) (S152).sat (r51.mono ((((le63.trans le84).trans le105).trans le121).trans le137)) (r72.mono (((le84.trans le105).trans le121).trans le137)))) (beq_iff_eq.2 (e1))) (fun w154 S155 => ?_)
   simp only [pS, pN, pA, pC, pZ]
   refine do_ rfl (.bool true) (ex_move _) ?_
   simp only [pS, pN, pA, pC, pZ]
   refine do_ rfl (.pointer (some ⟨n54, 1, none⟩)) (ex_field (q := ⟨n54, 1, none⟩) rfl (fa_27_1 _ _)) ?_
   simp only [pS, pN, pA, pC, pZ]
   refine do_ rfl (.slice xa47 (writeP p2).key.length xc48) (ex_load rfl (load1 (nagg_25 _) (St.cell S155 (i := 5) rfl rfl))) ?_
   simp only [pS, pN, pA, pC, pZ]
   refine do_ rfl (.pointer (some ⟨n75, 1, none⟩)) (ex_field (q := ⟨n75, 1, none⟩) rfl (fa_27_1 _ _)) ?_
   simp only [pS, pN, pA, pC, pZ]
   refine do_ rfl (.slice xa68 (writeP p3).key.length xc69) (ex_load rfl (load1 (nagg_25 _) (St.cell S155 (i := 4) rfl rfl))) ?_
   simp only [pS, pN, pA, pC, pZ]
   refine stTells (v := (.bool true)) S155 rfl (ex_fn (vs := #[(.slice xa47 (writeP p2).key.length xc48), (.slice xa68 (writeP p3).key.length xc69)]) (map2 rfl rfl) rfl (ent_31 _ _)) (tells_bool (tells_same (same_spec _ _ _ _ ((writeP p2).key) ((writeP p3).key) (S155).sat (r52.mono ((((le63.trans le84).trans le105).trans le121).trans le137)) (r73.mono (((le84.trans le105).trans le121).trans le137)))) (beq_iff_eq.2 (e2))) (fun w156 S157 => ?_)
   simp only [pS, pN, pA, pC, pZ]
   refine do_ rfl (.bool true) (ex_pick (b := true) rfl) ?_
   simp only [pS, pN, pA, pC, pZ]
   refine do_ rfl (.bool true) (ex_move _) ?_
   simp only [pS, pN, pA, pC, pZ]
   refine doN (wanted_no rfl rfl rfl (c := true) rfl (by decide)) ?_
   simp only [pS, pN, pA, pC, pZ]
   refine doN (wanted_no rfl rfl rfl (c := true) rfl (by decide)) ?_
   simp only [pS, pN, pA, pC, pZ]
   refine doN (wanted_no rfl rfl rfl (c := true) rfl (by decide)) ?_
   simp only [pS, pN, pA, pC, pZ]
   refine doN (wanted_no rfl rfl rfl (c := true) rfl (by decide)) ?_
   simp only [pS, pN, pA, pC, pZ]
   refine doN (wanted_no rfl rfl rfl (c := true) rfl (by decide)) ?_
   simp only [pS, pN, pA, pC, pZ]
   refine doN (wanted_no rfl rfl rfl (c := true) rfl (by decide)) ?_
   simp only [pS, pN, pA, pC, pZ]
   refine doN (wanted_un rfl rfl rfl rfl) ?_
   simp only [pS, pN, pA, pC, pZ]
   refine doN (wanted_un rfl rfl rfl rfl) ?_
   simp only [pS, pN, pA, pC, pZ]
   refine doN (wanted_un rfl rfl rfl rfl) ?_
   simp only [pS, pN, pA, pC, pZ]
   refine doN (wanted_un rfl rfl rfl rfl) ?_
   simp only [pS, pN, pA, pC, pZ]
   refine doN (wanted_un rfl rfl rfl rfl) ?_
   simp only [pS, pN, pA, pC, pZ]
   refine doN (wanted_no rfl rfl rfl (c := true) rfl (by decide)) ?_
   simp only [pS, pN, pA, pC, pZ]
   refine doN (wanted_no rfl rfl rfl (c := true) rfl (by decide)) ?_
   simp only [pS, pN, pA, pC, pZ]
   refine doN (wanted_un rfl rfl rfl rfl) ?_
   simp only [pS, pN, pA, pC, pZ]
   refine doN (wanted_un rfl rfl rfl rfl) ?_
   simp only [pS, pN, pA, pC, pZ]
   refine doN (wanted_un rfl rfl rfl rfl) ?_
   simp only [pS, pN, pA, pC, pZ]
   refine doN (wanted_no rfl rfl rfl (c := true) rfl (by decide)) ?_
   simp only [pS, pN, pA, pC, pZ]
   refine do_ rfl (.bool true) (ex_pick (b := true) rfl) ?_
   simp only [pS, pN, pA, pC, pZ]
   refine do_ rfl (.bool true) (ex_assign _) ?_
   simp only [pS, pN, pA, pC, pZ]
   refine wl_nil (hK153 _ _ ?_)
   refine wp_ret ?_
   (try simp only [Exit.then, Exit.inBlock, ↓reduceIte, Nat.reduceEqDiff])
   refine bodyPost_ret (v := (.bool true)) ?_ rfl ?_
   ·exact res_t rfl rfl
   ·exact ⟨rfl, S157.gr.below⟩
  ·have hels : (lookX (forestW (writesN l0 20)) A (writeP p3).name (writeP p3).key) = (lookX (forestW (writesN l0 20)) (txO l1 []) (writeP p3).name (writeP p3).key) := by unfold lookX; rw [own_else hA (fun h => e2 h.2)]
   refine region_wl ?_
   refine do_ rfl (.slice a15 (forestW (writesN l0 20)).length c16) (ex_move _) ?_
   simp only [pS, pN, pA, pC, pZ]
   refine do_ rfl (.agg #[(.int .i64 A.start), (.slice xa88 A.reads.length xc89), (.slice xa90 A.writes.length xc91)]) (ex_load rfl (loadN (cs := [(.int .i64 A.start), (.slice xa88 A.reads.length xc89), (.slice xa90 A.writes.length xc91)]) Try.underlying75 rfl (size_75) (St.range S116 (i := 1) rfl 0 [(.int .i64 A.start), (.slice xa88 A.reads.length xc89), (.slice xa90 A.writes.length xc91)] (sub_range 0 rfl)))) ?_
   simp only [pS, pN, pA, pC, pZ]
   refine do_ rfl (.pointer (some ⟨n75, 0, none⟩)) (ex_field (q := ⟨n75, 0, none⟩) rfl (fa_27_0 _ _)) ?_
   simp only [pS, pN, pA, pC, pZ]
   refine do_ rfl (.slice xa66 (writeP p3).name.length xc67) (ex_load rfl (load1 (nagg_25 _) (St.cell S116 (i := 2) rfl rfl))) ?_
   simp only [pS, pN, pA, pC, pZ]
   refine do_ rfl (.pointer (some ⟨n75, 1, none⟩)) (ex_field (q := ⟨n75, 1, none⟩) rfl (fa_27_1 _ _)) ?_
   simp only [pS, pN, pA, pC, pZ]
   refine do_ rfl (.slice xa68 (writeP p3).key.length xc69) (ex_load rfl (load1 (nagg_25 _) (St.cell S116 (i := 2) rfl rfl))) ?_
   simp only [pS, pN, pA, pC, pZ]
   refine stGives S116 rfl (ex_fn (vs := #[(.slice a15 (forestW (writesN l0 20)).length c16), (.agg #[(.int .i64 A.start), (.slice xa88 A.reads.length xc89), (.slice xa90 A.writes.length xc91)]), (.slice xa66 (writeP p3).name.length xc67), (.slice xa68 (writeP p3).key.length xc69)]) (map4 rfl rfl rfl rfl) rfl (ent_48 _ _)) (lookIs_spec _ _ _ _ _ _ (forestW (writesN l0 20)) A ((writeP p3).name) ((writeP p3).key) (S116).sat (R13.mono ((((le23.trans le42).trans le63).trans le84).trans le105)) ⟨_, _, _, _, rfl, (r92.mono le105), (r93.mono le105)⟩ (r72.mono (le84.trans le105)) (r73.mono (le84.trans le105)) okf60 hAk (WrOk.name (writeP_ok p3)) ⟨WrOk.key1 (writeP_ok p3), WrOk.key2 (writeP_ok p3)⟩ hels) ?_
   intro v163 w158 F160 S159 le161 R162
   obtain ⟨_, rfl, a164, c165, rfl, r166⟩ := R162
   have r166 : Bs _ (.slice a164 ((lookX (forestW (writesN l0 20)) (txO l1 []) (writeP p3).name (writeP p3).key).1.getD []).length c165) ((lookX (forestW (writesN l0 20)) (txO l1 []) (writeP p3).name (writeP p3).key).1.getD []) := r166
   simp only [pS, pN, pA, pC, pZ]
   refine do_ rfl (.tuple #[(.agg #[(.bool (lookX (forestW (writesN l0 20)) (txO l1 []) (writeP p3).name (writeP p3).key).1.isSome), (.slice a164 ((lookX (forestW (writesN l0 20)) (txO l1 []) (writeP p3).name (writeP p3).key).1.getD []).length c165)]), (.bool (lookX (forestW (writesN l0 20)) (txO l1 []) (writeP p3).name (writeP p3).key).2), (.int .i64 0)]) (ex_move _) ?_
   simp only [pS, pN, pA, pC, pZ]
   refine do_ rfl (.agg #[(.bool (lookX (forestW (writesN l0 20)) (txO l1 []) (writeP p3).name (writeP p3).key).1.isSome), (.slice a164 ((lookX (forestW (writesN l0 20)) (txO l1 []) (writeP p3).name (writeP p3).key).1.getD []).length c165)]) (ex_extract rfl rfl) ?_
   simp only [pS, pN, pA, pC, pZ]
   refine do_ rfl (.bool (lookX (forestW (writesN l0 20)) (txO l1 []) (writeP p3).name (writeP p3).key).2) (ex_extract rfl rfl) ?_
   simp only [pS, pN, pA, pC, pZ]
   refine do_ rfl (.int .i64 0) (ex_extract rfl rfl) ?_
   simp only [pS, pN, pA, pC, pZ]
   refine stNew S159 (v := fun n => .pointer (some ⟨n, 0, none⟩)) rfl (ex_alloc (zero_38 _)) (fun n168 w169 S170 => ?_)
   simp only [pS, pN, pA, pC, pZ]
   have S170 : St W (whole W) w169 F160 [⟨n168, [(.bool false), (.slice none 0 0)], 38⟩, ⟨n112, [(.bool (!(writeP p2).gone)), (.slice a108 (writeP p2).value.length c109)], 38⟩, ⟨n94, [(.int .i64 A.start), (.slice xa88 A.reads.length xc89), (.slice xa90 A.writes.length xc91)], 75⟩, ⟨n75, [(.slice xa66 (writeP p3).name.length xc67), (.slice xa68 (writeP p3).key.length xc69), (.bool (writeP p3).gone), (.slice xa70 (writeP p3).value.length xc71)], 27⟩, ⟨n54, [(.slice xa45 (writeP p2).name.length xc46), (.slice xa47 (writeP p2).key.length xc48), (.bool (writeP p2).gone), (.slice xa49 (writeP p2).value.length xc50)], 27⟩, ⟨n33, [(.int .i64 (txO l1 []).start), (.slice xa27 (txO l1 []).reads.length xc28), (.slice xa29 (txO l1 []).writes.length xc30)], 75⟩, ⟨n5, [(.slice a30 p3.name.length c30), (.slice a31 p3.key.length c31), (.slice a32 p3.value.length c32), (.bool p3.gone)], 30⟩, ⟨n2, [(.slice a20 p2.name.length c20), (.slice a21 p2.key.length c21), (.slice a22 p2.value.length c22), (.bool p2.gone)], 30⟩] [] := S170
   refine stStore (i := 0) (v := (.agg #[(.bool (lookX (forestW (writesN l0 20)) (txO l1 []) (writeP p3).name (writeP p3).key).1.isSome), (.slice a164 ((lookX (forestW (writesN l0 20)) (txO l1 []) (writeP p3).name (writeP p3).key).1.getD []).length c165)])) S170 rfl rfl rfl rfl (size_38) (allc2 rfl rfl) (Nat.le_of_ble_eq_true rfl) (fun w171 S172 => ?_)
   simp only [pS, pN, pA, pC, pZ]
   have S172 : St W (whole W) w171 F160 [⟨n168, [(.bool (lookX (forestW (writesN l0 20)) (txO l1 []) (writeP p3).name (writeP p3).key).1.isSome), (.slice a164 ((lookX (forestW (writesN l0 20)) (txO l1 []) (writeP p3).name (writeP p3).key).1.getD []).length c165)], 38⟩, ⟨n112, [(.bool (!(writeP p2).gone)), (.slice a108 (writeP p2).value.length c109)], 38⟩, ⟨n94, [(.int .i64 A.start), (.slice xa88 A.reads.length xc89), (.slice xa90 A.writes.length xc91)], 75⟩, ⟨n75, [(.slice xa66 (writeP p3).name.length xc67), (.slice xa68 (writeP p3).key.length xc69), (.bool (writeP p3).gone), (.slice xa70 (writeP p3).value.length xc71)], 27⟩, ⟨n54, [(.slice xa45 (writeP p2).name.length xc46), (.slice xa47 (writeP p2).key.length xc48), (.bool (writeP p2).gone), (.slice xa49 (writeP p2).value.length xc50)], 27⟩, ⟨n33, [(.int .i64 (txO l1 []).start), (.slice xa27 (txO l1 []).reads.length xc28), (.slice xa29 (txO l1 []).writes.length xc30)], 75⟩, ⟨n5, [(.slice a30 p3.name.length c30), (.slice a31 p3.key.length c31), (.slice a32 p3.value.length c32), (.bool p3.gone)], 30⟩, ⟨n2, [(.slice a20 p2.name.length c20), (.slice a21 p2.key.length c21), (.slice a22 p2.value.length c22), (.bool p2.gone)], 30⟩] [] := S172
   refine do_ rfl (.bool (lookX (forestW (writesN l0 20)) (txO l1 []) (writeP p3).name (writeP p3).key).2) (ex_assign _) ?_
   simp only [pS, pN, pA, pC, pZ]
   refine do_ rfl (.int .i64 0) (ex_assign _) ?_
   simp only [pS, pN, pA, pC, pZ]
   refine wl_nil (hK117 _ _ ?_)
   refine wp_seq_k (fun K173 hK173 => region_wl ?_)
   refine do_ rfl (.slice a15 (forestW (writesN l0 20)).length c16) (ex_move _) ?_
   simp only [pS, pN, pA, pC, pZ]
   refine do_ rfl (.agg #[(.int .i64 (txO l1 []).start), (.slice xa27 (txO l1 []).reads.length xc28), (.slice xa29 (txO l1 []).writes.length xc30)]) (ex_load rfl (loadN (cs := [(.int .i64 (txO l1 []).start), (.slice xa27 (txO l1 []).reads.length xc28), (.slice xa29 (txO l1 []).writes.length xc30)]) Try.underlying75 rfl (size_75) (St.range S172 (i := 5) rfl 0 [(.int .i64 (txO l1 []).start), (.slice xa27 (txO l1 []).reads.length xc28), (.slice xa29 (txO l1 []).writes.length xc30)] (sub_range 0 rfl)))) ?_
   simp only [pS, pN, pA, pC, pZ]
   refine do_ rfl (.pointer (some ⟨n75, 0, none⟩)) (ex_field (q := ⟨n75, 0, none⟩) rfl (fa_27_0 _ _)) ?_
   simp only [pS, pN, pA, pC, pZ]
   refine do_ rfl (.slice xa66 (writeP p3).name.length xc67) (ex_load rfl (load1 (nagg_25 _) (St.cell S172 (i := 3) rfl rfl))) ?_
   simp only [pS, pN, pA, pC, pZ]
   refine do_ rfl (.pointer (some ⟨n75, 1, none⟩)) (ex_field (q := ⟨n75, 1, none⟩) rfl (fa_27_1 _ _)) ?_
   simp only [pS, pN, pA, pC, pZ]
   refine do_ rfl (.slice xa68 (writeP p3).key.length xc69) (ex_load rfl (load1 (nagg_25 _) (St.cell S172 (i := 3) rfl rfl))) ?_
   simp only [pS, pN, pA, pC, pZ]
   refine stGives S172 rfl (ex_fn (vs := #[(.slice a15 (forestW (writesN l0 20)).length c16), (.agg #[(.int .i64 (txO l1 []).start), (.slice xa27 (txO l1 []).reads.length xc28), (.slice xa29 (txO l1 []).writes.length xc30)]), (.slice xa66 (writeP p3).name.length xc67), (.slice xa68 (writeP p3).key.length xc69)]) (map4 rfl rfl rfl rfl) rfl (ent_48 _ _)) (lookIs_spec _ _ _ _ _ _ (forestW (writesN l0 20)) (txO l1 []) ((writeP p3).name) ((writeP p3).key) (S172).sat (R13.mono (((((le23.trans le42).trans le63).trans le84).trans le105).trans le161)) ⟨_, _, _, _, rfl, (r31.mono ((((le42.trans le63).trans le84).trans le105).trans le161)), (r32.mono ((((le42.trans le63).trans le84).trans le105).trans le161))⟩ (r72.mono ((le84.trans le105).trans le161)) (r73.mono ((le84.trans le105).trans le161)) okf60 hT.1 (WrOk.name (writeP_ok p3)) ⟨WrOk.key1 (writeP_ok p3), WrOk.key2 (writeP_ok p3)⟩ rfl) ?_
   intro v179 w174 F176 S175 le177 R178
   obtain ⟨_, rfl, a180, c181, rfl, r182⟩ := R178
   have r182 : Bs _ (.slice a180 ((lookX (forestW (writesN l0 20)) (txO l1 []) (writeP p3).name (writeP p3).key).1.getD []).length c181) ((lookX (forestW (writesN l0 20)) (txO l1 []) (writeP p3).name (writeP p3).key).1.getD []) := r182
   simp only [pS, pN, pA, pC, pZ]
   refine do_ rfl (.tuple #[(.agg #[(.bool (lookX (forestW (writesN l0 20)) (txO l1 []) (writeP p3).name (writeP p3).key).1.isSome), (.slice a180 ((lookX (forestW (writesN l0 20)) (txO l1 []) (writeP p3).name (writeP p3).key).1.getD []).length c181)]), (.bool (lookX (forestW (writesN l0 20)) (txO l1 []) (writeP p3).name (writeP p3).key).2), (.int .i64 0)]) (ex_move _) ?_
   simp only [pS, pN, pA, pC, pZ]
   refine do_ rfl (.agg #[(.bool (lookX (forestW (writesN l0 20)) (txO l1 []) (writeP p3).name (writeP p3).key).1.isSome), (.slice a180 ((lookX (forestW (writesN l0 20)) (txO l1 []) (writeP p3).name (writeP p3).key).1.getD []).length c181)]) (ex_extract rfl rfl) ?_
   simp only [pS, pN, pA, pC, pZ]
   refine do_ rfl (.bool (lookX (forestW (writesN l0 20)) (txO l1 []) (writeP p3).name (writeP p3).key).2) (ex_extract rfl rfl) ?_
   simp only [pS, pN, pA, pC, pZ]
   refine do_ rfl (.int .i64 0) (ex_extract rfl rfl) ?_
   simp only [pS, pN, pA, pC, pZ]
   refine stNew S175 (v := fun n => .pointer (some ⟨n, 0, none⟩)) rfl (ex_alloc (zero_38 _)) (fun n184 w185 S186 => ?_)
   simp only [pS, pN, pA, pC, pZ]
   have S186 : St W (whole W) w185 F176 [⟨n184, [(.bool false), (.slice none 0 0)], 38⟩, ⟨n168, [(.bool (lookX (forestW (writesN l0 20)) (txO l1 []) (writeP p3).name (writeP p3).key).1.isSome), (.slice a164 ((lookX (forestW (writesN l0 20)) (txO l1 []) (writeP p3).name (writeP p3).key).1.getD []).length c165)], 38⟩, ⟨n112, [(.bool (!(writeP p2).gone)), (.slice a108 (writeP p2).value.length c109)], 38⟩, ⟨n94, [(.int .i64 A.start), (.slice xa88 A.reads.length xc89), (.slice xa90 A.writes.length xc91)], 75⟩, ⟨n75, [(.slice xa66 (writeP p3).name.length xc67), (.slice xa68 (writeP p3).key.length xc69), (.bool (writeP p3).gone), (.slice xa70 (writeP p3).value.length xc71)], 27⟩, ⟨n54, [(.slice xa45 (writeP p2).name.length xc46), (.slice xa47 (writeP p2).key.length xc48), (.bool (writeP p2).gone), (.slice xa49 (writeP p2).value.length xc50)], 27⟩, ⟨n33, [(.int .i64 (txO l1 []).start), (.slice xa27 (txO l1 []).reads.length xc28), (.slice xa29 (txO l1 []).writes.length xc30)], 75⟩, ⟨n5, [(.slice a30 p3.name.length c30), (.slice a31 p3.key.length c31), (.slice a32 p3.value.length c32), (.bool p3.gone)], 30⟩, ⟨n2, [(.slice a20 p2.name.length c20), (.slice a21 p2.key.length c21), (.slice a22 p2.value.length c22), (.bool p2.gone)], 30⟩] [] := S186
   refine stStore (i := 0) (v := (.agg #[(.bool (lookX (forestW (writesN l0 20)) (txO l1 []) (writeP p3).name (writeP p3).key).1.isSome), (.slice a180 ((lookX (forestW (writesN l0 20)) (txO l1 []) (writeP p3).name (writeP p3).key).1.getD []).length c181)])) S186 rfl rfl rfl rfl (size_38) (allc2 rfl rfl) (Nat.le_of_ble_eq_true rfl) (fun w187 S188 => ?_)
   simp only [pS, pN, pA, pC, pZ]
   have S188 : St W (whole W) w187 F176 [⟨n184, [(.bool (lookX (forestW (writesN l0 20)) (txO l1 []) (writeP p3).name (writeP p3).key).1.isSome), (.slice a180 ((lookX (forestW (writesN l0 20)) (txO l1 []) (writeP p3).name (writeP p3).key).1.getD []).length c181)], 38⟩, ⟨n168, [(.bool (lookX (forestW (writesN l0 20)) (txO l1 []) (writeP p3).name (writeP p3).key).1.isSome), (.slice a164 ((lookX (forestW (writesN l0 20)) (txO l1 []) (writeP p3).name (writeP p3).key).1.getD []).length c165)], 38⟩, ⟨n112, [(.bool (!(writeP p2).gone)), (.slice a108 (writeP p2).value.length c109)], 38⟩, ⟨n94, [(.int .i64 A.start), (.slice xa88 A.reads.length xc89), (.slice xa90 A.writes.length xc91)], 75⟩, ⟨n75, [(.slice xa66 (writeP p3).name.length xc67), (.slice xa68 (writeP p3).key.length xc69), (.bool (writeP p3).gone), (.slice xa70 (writeP p3).value.length xc71)], 27⟩, ⟨n54, [(.slice xa45 (writeP p2).name.length xc46), (.slice xa47 (writeP p2).key.length xc48), (.bool (writeP p2).gone), (.slice xa49 (writeP p2).value.length xc50)], 27⟩, ⟨n33, [(.int .i64 (txO l1 []).start), (.slice xa27 (txO l1 []).reads.length xc28), (.slice xa29 (txO l1 []).writes.length xc30)], 75⟩, ⟨n5, [(.slice a30 p3.name.length c30), (.slice a31 p3.key.length c31), (.slice a32 p3.value.length c32), (.bool p3.gone)], 30⟩, ⟨n2, [(.slice a20 p2.name.length c20), (.slice a21 p2.key.length c21), (.slice a22 p2.value.length c22), (.bool p2.gone)], 30⟩] [] := S188
   refine do_ rfl (.bool (lookX (forestW (writesN l0 20)) (txO l1 []) (writeP p3).name (writeP p3).key).2) (ex_assign _) ?_
   simp only [pS, pN, pA, pC, pZ]
   refine do_ rfl (.int .i64 0) (ex_assign _) ?_
   simp only [pS, pN, pA, pC, pZ]
   refine wl_nil (hK173 _ _ ?_)
   refine wp_seq_k (fun K189 hK189 => ?_)
   refine wp_seq_k (fun K190 hK190 => region_wl ?_)
   refine do_ rfl (.int .i64 0) (ex_move _) ?_
   simp only [pS, pN, pA, pC, pZ]
   refine do_ rfl (.bool false) (ex_neq (b := false) rfl rfl (by decide)) ?_
   simp only [pS, pN, pA, pC, pZ]
   refine do_ rfl (.bool false) (ex_move _) ?_
   simp only [pS, pN, pA, pC, pZ]
   refine do_ rfl (.int .i64 0) (ex_move _) ?_
   simp only [pS, pN, pA, pC, pZ]
   refine do_ rfl (.bool false) (ex_neq (b := false) rfl rfl (by decide)) ?_
   simp only [pS, pN, pA, pC, pZ]
   refine do_ rfl (.bool false) (ex_pick (b := false) rfl) ?_
   simp only [pS, pN, pA, pC, pZ]
   refine do_ rfl (.bool false) (ex_move _) ?_
   simp only [pS, pN, pA, pC, pZ]
   refine do_ rfl (.int .i64 0) (ex_move _) ?_
   simp only [pS, pN, pA, pC, pZ]
   refine do_ rfl (.bool false) (ex_neq (b := false) rfl rfl (by decide)) ?_
   simp only [pS, pN, pA, pC, pZ]
   refine do_ rfl (.bool false) (ex_pick (b := false) rfl) ?_
   simp only [pS, pN, pA, pC, pZ]
   refine do_ rfl (.bool false) (ex_move _) ?_
   simp only [pS, pN, pA, pC, pZ]
   refine do_ rfl (.bool true) (ex_move _) ?_
   simp only [pS, pN, pA, pC, pZ]
   refine do_ rfl (.bool false) (ex_not (b := true) rfl rfl) ?_
   simp only [pS, pN, pA, pC, pZ]
   refine do_ rfl (.bool false) (ex_pick (b := false) rfl) ?_
   simp only [pS, pN, pA, pC, pZ]
   refine do_ rfl (.bool false) (ex_move _) ?_
   simp only [pS, pN, pA, pC, pZ]
   refine do_ rfl (.pointer (some ⟨n112, 0, none⟩)) (ex_field (q := ⟨n112, 0, none⟩) rfl (fa_38_0 _ _)) ?_
   simp only [pS, pN, pA, pC, pZ]
   refine do_ rfl (.bool (!(writeP p2).gone)) (ex_load rfl (load1 (nagg_4 _) (St.cell S188 (i := 2) rfl rfl))) ?_
   simp only [pS, pN, pA, pC, pZ]
   refine do_ rfl (.pointer (some ⟨n54, 2, none⟩)) (ex_field (q := ⟨n54, 2, none⟩) rfl (fa_27_2 _ _)) ?_
   simp only [pS, pN, pA, pC, pZ]
   refine do_ rfl (.bool (writeP p2).gone) (ex_load rfl (load1 (nagg_4 _) (St.cell S188 (i := 5) rfl rfl))) ?_
   simp only [pS, pN, pA, pC, pZ]
   refine do_ rfl (.bool false) (ex_eqlB Try.underlying4 rfl rfl (by cases (writeP p2).gone <;> rfl)) ?_
   simp only [pS, pN, pA, pC, pZ]
   refine do_ rfl (.bool false) (ex_pick (b := false) rfl) ?_
   simp only [pS, pN, pA, pC, pZ]
   refine do_ rfl (.bool false) (ex_move _) ?_
   simp only [pS, pN, pA, pC, pZ]
   refine do_ rfl (.pointer (some ⟨n112, 1, none⟩)) (ex_field (q := ⟨n112, 1, none⟩) rfl (fa_38_1 _ _)) ?_
   simp only [pS, pN, pA, pC, pZ]
   refine do_ rfl (.slice a108 (writeP p2).value.length c109) (ex_load rfl (load1 (nagg_25 _) (St.cell S188 (i := 2) rfl rfl))) ?_
   simp only [pS, pN, pA, pC, pZ]
   refine do_ rfl (.pointer (some ⟨n54, 3, none⟩)) (ex_field (q := ⟨n54, 3, none⟩) rfl (fa_27_3 _ _)) ?_
   simp only [pS, pN, pA, pC, pZ]
   refine do_ rfl (.slice xa49 (writeP p2).value.length xc50) (ex_load rfl (load1 (nagg_25 _) (St.cell S188 (i := 5) rfl rfl))) ?_
   simp only [pS, pN, pA, pC, pZ]
   refine stTells (v := (.bool true)) S188 rfl (ex_fn (vs := #[(.slice a108 (writeP p2).value.length c109), (.slice xa49 (writeP p2).value.length xc50)]) (map2 rfl rfl) rfl (ent_31 _ _)) (tells_bool (tells_same (same_spec _ _ _ _ ((writeP p2).value) ((writeP p2).value) (S188).sat (r110.mono (le161.trans le177)) (r53.mono ((((le63.trans le84).trans le105).trans le161).trans le177)))) (beq_iff_eq.2 (rfl))) (fun w191 S192 => ?_)
   simp only [pS, pN, pA, pC, pZ]
   refine do_ rfl (.bool false) (ex_not (b := true) rfl rfl) ?_
   simp only [pS, pN, pA, pC, pZ]
   refine do_ rfl (.bool false) (ex_pick (b := false) rfl) ?_
   simp only [pS, pN, pA, pC, pZ]
   refine wl_nil (hK190 _ _ ?_)
   refine wp_cond_false rfl ?_
   refine wp_skip ?_
   refine hK189 _ _ ?_
   refine wp_seq_k (fun K193 hK193 => region_wl ?_)
   refine do_ rfl (.pointer (some ⟨n54, 0, none⟩)) (ex_field (q := ⟨n54, 0, none⟩) rfl (fa_27_0 _ _)) ?_
   simp only [pS, pN, pA, pC, pZ]
   refine do_ rfl (.slice xa45 (writeP p2).name.length xc46) (ex_load rfl (load1 (nagg_25 _) (St.cell S192 (i := 5) rfl rfl))) ?_
   simp only [pS, pN, pA, pC, pZ]
   refine do_ rfl (.pointer (some ⟨n75, 0, none⟩)) (ex_field (q := ⟨n75, 0, none⟩) rfl (fa_27_0 _ _)) ?_
   simp only [pS, pN, pA, pC, pZ]
   refine do_ rfl (.slice xa66 (writeP p3).name.length xc67) (ex_load rfl (load1 (nagg_25 _) (St.cell S192 (i := 4) rfl rfl))) ?_
   simp only [pS, pN, pA, pC, pZ]
   refine stTells (v := (.bool true)) S192 rfl (ex_fn (vs := #[(.slice xa45 (writeP p2).name.length xc46), (.slice xa66 (writeP p3).name.length xc67)]) (map2 rfl rfl) rfl (ent_31 _ _)) (tells_bool (tells_same (same_spec _ _ _ _ ((writeP p2).name) ((writeP p3).name) (S192).sat (r51.mono ((((le63.trans le84).trans le105).trans le161).trans le177)) (r72.mono (((le84.trans le105).trans le161).trans le177)))) (beq_iff_eq.2 (e1))) (fun w194 S195 => ?_)
   simp only [pS, pN, pA, pC, pZ]
   refine do_ rfl (.bool true) (ex_move _) ?_
   simp only [pS, pN, pA, pC, pZ]
   refine do_ rfl (.pointer (some ⟨n54, 1, none⟩)) (ex_field (q := ⟨n54, 1, none⟩) rfl (fa_27_1 _ _)) ?_
   simp only [pS, pN, pA, pC, pZ]
   refine do_ rfl (.slice xa47 (writeP p2).key.length xc48) (ex_load rfl (load1 (nagg_25 _) (St.cell S195 (i := 5) rfl rfl))) ?_
   simp only [pS, pN, pA, pC, pZ]
   refine do_ rfl (.pointer (some ⟨n75, 1, none⟩)) (ex_field (q := ⟨n75, 1, none⟩) rfl (fa_27_1 _ _)) ?_
   simp only [pS, pN, pA, pC, pZ]
   refine do_ rfl (.slice xa68 (writeP p3).key.length xc69) (ex_load rfl (load1 (nagg_25 _) (St.cell S195 (i := 4) rfl rfl))) ?_
   simp only [pS, pN, pA, pC, pZ]
   refine stTells (v := (.bool false)) S195 rfl (ex_fn (vs := #[(.slice xa47 (writeP p2).key.length xc48), (.slice xa68 (writeP p3).key.length xc69)]) (map2 rfl rfl) rfl (ent_31 _ _)) (tells_bool (tells_same (same_spec _ _ _ _ ((writeP p2).key) ((writeP p3).key) (S195).sat (r52.mono ((((le63.trans le84).trans le105).trans le161).trans le177)) (r73.mono (((le84.trans le105).trans le161).trans le177)))) (beq_eq_false_iff_ne.2 (e2))) (fun w196 S197 => ?_)
   simp only [pS, pN, pA, pC, pZ]
   refine do_ rfl (.bool false) (ex_pick (b := true) rfl) ?_
   simp only [pS, pN, pA, pC, pZ]
   refine do_ rfl (.bool false) (ex_move _) ?_
   simp only [pS, pN, pA, pC, pZ]
   refine do_ rfl (.pointer (some ⟨n168, 0, none⟩)) (ex_field (q := ⟨n168, 0, none⟩) rfl (fa_38_0 _ _)) ?_
   simp only [pS, pN, pA, pC, pZ]
   refine do_ rfl (.bool (lookX (forestW (writesN l0 20)) (txO l1 []) (writeP p3).name (writeP p3).key).1.isSome) (ex_load rfl (load1 (nagg_4 _) (St.cell S197 (i := 1) rfl rfl))) ?_
   simp only [pS, pN, pA, pC, pZ]
   refine do_ rfl (.pointer (some ⟨n184, 0, none⟩)) (ex_field (q := ⟨n184, 0, none⟩) rfl (fa_38_0 _ _)) ?_
   simp only [pS, pN, pA, pC, pZ]
   refine do_ rfl (.bool (lookX (forestW (writesN l0 20)) (txO l1 []) (writeP p3).name (writeP p3).key).1.isSome) (ex_load rfl (load1 (nagg_4 _) (St.cell S197 (i := 0) rfl rfl))) ?_
   simp only [pS, pN, pA, pC, pZ]
   refine do_ rfl (.bool true) (ex_eqlB Try.underlying4 rfl rfl (beq_iff_eq.2 rfl)) ?_
   simp only [pS, pN, pA, pC, pZ]
   refine do_ rfl (.bool true) (ex_move _) ?_
   simp only [pS, pN, pA, pC, pZ]
   refine do_ rfl (.pointer (some ⟨n168, 1, none⟩)) (ex_field (q := ⟨n168, 1, none⟩) rfl (fa_38_1 _ _)) ?_
   simp only [pS, pN, pA, pC, pZ]
   refine do_ rfl (.slice a164 ((lookX (forestW (writesN l0 20)) (txO l1 []) (writeP p3).name (writeP p3).key).1.getD []).length c165) (ex_load rfl (load1 (nagg_25 _) (St.cell S197 (i := 1) rfl rfl))) ?_
   simp only [pS, pN, pA, pC, pZ]
   refine do_ rfl (.pointer (some ⟨n184, 1, none⟩)) (ex_field (q := ⟨n184, 1, none⟩) rfl (fa_38_1 _ _)) ?_
   simp only [pS, pN, pA, pC, pZ]
   refine do_ rfl (.slice a180 ((lookX (forestW (writesN l0 20)) (txO l1 []) (writeP p3).name (writeP p3).key).1.getD []).length c181) (ex_load rfl (load1 (nagg_25 _) (St.cell S197 (i := 0) rfl rfl))) ?_
   simp only [pS, pN, pA, pC, pZ]
   refine stTells (v := (.bool true)) S197 rfl (ex_fn (vs := #[(.slice a164 ((lookX (forestW (writesN l0 20)) (txO l1 []) (writeP p3).name (writeP p3).key).1.getD []).length c165), (.slice a180 ((lookX (forestW (writesN l0 20)) (txO l1 []) (writeP p3).name (writeP p3).key).1.getD []).length c181)]) (map2 rfl rfl) rfl (ent_31 _ _)) (tells_bool (tells_same (same_spec _ _ _ _ ((lookX (forestW (writesN l0 20)) (txO l1 []) (writeP p3).name (writeP p3).key).1.getD []) ((lookX (forestW (writesN l0 20)) (txO l1 []) (writeP p3).name (writeP p3).key).1.getD []) (S197).sat (r166.mono le177) r182)) (beq_iff_eq.2 (rfl))) (fun w198 S199 => ?_)
   simp only [pS, pN, pA, pC, pZ]
   refine do_ rfl (.bool true) (ex_pick (b := true) rfl) ?_
   simp only [pS, pN, pA, pC, pZ]
   refine do_ rfl (.bool true) (ex_move _) ?_
   simp only [pS, pN, pA, pC, pZ]
   refine do_ rfl (.bool (lookX (forestW (writesN l0 20)) (txO l1 []) (writeP p3).name (writeP p3).key).2) (ex_move _) ?_
   simp only [pS, pN, pA, pC, pZ]
   refine do_ rfl (.bool (lookX (forestW (writesN l0 20)) (txO l1 []) (writeP p3).name (writeP p3).key).2) (ex_move _) ?_
   simp only [pS, pN, pA, pC, pZ]
   refine do_ rfl (.bool true) (ex_eqlB Try.underlying4 rfl rfl (beq_iff_eq.2 rfl)) ?_
   simp only [pS, pN, pA, pC, pZ]
   refine do_ rfl (.bool true) (ex_pick (b := true) rfl) ?_
   simp only [pS, pN, pA, pC, pZ]
   refine do_ rfl (.bool true) (ex_pick (b := false) rfl) ?_
   simp only [pS, pN, pA, pC, pZ]
   refine do_ rfl (.bool true) (ex_assign _) ?_
   simp only [pS, pN, pA, pC, pZ]
   refine wl_nil (hK193 _ _ ?_)
   refine wp_ret ?_
   (try simp only [Exit.then, Exit.inBlock, ↓reduceIte, Nat.reduceEqDiff])
   refine bodyPost_ret (v := (.bool true)) ?_ rfl ?_
   ·exact res_t rfl rfl
   ·exact ⟨rfl, S199.gr.below⟩
 ·have hels : (lookX (forestW (writesN l0 20)) A (writeP p3).name (writeP p3).key) = (lookX (forestW (writesN l0 20)) (txO l1 []) (writeP p3).name (writeP p3).key) := by unfold lookX; rw [own_else hA (fun h => e1 h.1)]
  refine region_wl ?_
  refine do_ rfl (.slice a15 (forestW (writesN l0 20)).length c16) (ex_move _) ?_
  simp only [pS, pN, pA, pC, pZ]
  refine do_ rfl (.agg #[(.int .i64 A.start), (.slice xa88 A.reads.length xc89), (.slice xa90 A.writes.length xc91)]) (ex_load rfl (loadN (cs := [(.int .i64 A.start), (.slice xa88 A.reads.length xc89), (.slice xa90 A.writes.length xc91)]) Try.underlying75 rfl (size_75) (St.range S116 (i := 1) rfl 0 [(.int .i64 A.start), (.slice xa88 A.reads.length xc89), (.slice xa90 A.writes.length xc91)] (sub_range 0 rfl)))) ?_
  simp only [pS, pN, pA, pC, pZ]
  refine do_ rfl (.pointer (some ⟨n75, 0, none⟩)) (ex_field (q := ⟨n75, 0, none⟩) rfl (fa_27_0 _ _)) ?_
  simp only [pS, pN, pA, pC, pZ]
  refine do_ rfl (.slice xa66 (writeP p3).name.length xc67) (ex_load rfl (load1 (nagg_25 _) (St.cell S116 (i := 2) rfl rfl))) ?_
  simp only [pS, pN, pA, pC, pZ]
  refine do_ rfl (.pointer (some ⟨n75, 1, none⟩)) (ex_field (q := ⟨n75, 1, none⟩) rfl (fa_27_1 _ _)) ?_
  simp only [pS, pN, pA, pC, pZ]
  refine do_ rfl (.slice xa68 (writeP p3).key.length xc69) (ex_load rfl (load1 (nagg_25 _) (St.cell S116 (i := 2) rfl rfl))) ?_
  simp only [pS, pN, pA, pC, pZ]
  refine stGives S116 rfl (ex_fn (vs := #[(.slice a15 (forestW (writesN l0 20)).length c16), (.agg #[(.int .i64 A.start), (.slice xa88 A.reads.length xc89), (.slice xa90 A.writes.length xc91)]), (.slice xa66 (writeP p3).name.length xc67), (.slice xa68 (writeP p3).key.length xc69)]) (map4 rfl rfl rfl rfl) rfl (ent_48 _ _)) (lookIs_spec _ _ _ _ _ _ (forestW (writesN l0 20)) A ((writeP p3).name) ((writeP p3).key) (S116).sat (R13.mono ((((le23.trans le42).trans le63).trans le84).trans le105)) ⟨_, _, _, _, rfl, (r92.mono le105), (r93.mono le105)⟩ (r72.mono (le84.trans le105)) (r73.mono (le84.trans le105)) okf60 hAk (WrOk.name (writeP_ok p3)) ⟨WrOk.key1 (writeP_ok p3), WrOk.key2 (writeP_ok p3)⟩ hels) ?_
  intro v205 w200 F202 S201 le203 R204
  obtain ⟨_, rfl, a206, c207, rfl, r208⟩ := R204
  have r208 : Bs _ (.slice a206 ((lookX (forestW (writesN l0 20)) (txO l1 []) (writeP p3).name (writeP p3).key).1.getD []).length c207) ((lookX (forestW (writesN l0 20)) (txO l1 []) (writeP p3).name (writeP p3).key).1.getD []) := r208
  simp only [pS, pN, pA, pC, pZ]
  refine do_ rfl (.tuple #[(.agg #[(.bool (lookX (forestW (writesN l0 20)) (txO l1 []) (writeP p3).name (writeP p3).key).1.isSome), (.slice a206 ((lookX (forestW (writesN l0 20)) (txO l1 []) (writeP p3).name (writeP p3).key).1.getD []).length c207)]), (.bool (lookX (forestW (writesN l0 20)) (txO l1 []) (writeP p3).name (writeP p3).key).2), (.int .i64 0)]) (ex_move _) ?_
  simp only [pS, pN, pA, pC, pZ]
  refine do_ rfl (.agg #[(.bool (lookX (forestW (writesN l0 20)) (txO l1 []) (writeP p3).name (writeP p3).key).1.isSome), (.slice a206 ((lookX (forestW (writesN l0 20)) (txO l1 []) (writeP p3).name (writeP p3).key).1.getD []).length c207)]) (ex_extract rfl rfl) ?_
  simp only [pS, pN, pA, pC, pZ]
  refine do_ rfl (.bool (lookX (forestW (writesN l0 20)) (txO l1 []) (writeP p3).name (writeP p3).key).2) (ex_extract rfl rfl) ?_
  simp only [pS, pN, pA, pC, pZ]
  refine do_ rfl (.int .i64 0) (ex_extract rfl rfl) ?_
  simp only [pS, pN, pA, pC, pZ]
  refine stNew S201 (v := fun n => .pointer (some ⟨n, 0, none⟩)) rfl (ex_alloc (zero_38 _)) (fun n210 w211 S212 => ?_)
  simp only [pS, pN, pA, pC, pZ]
  have S212 : St W (whole W) w211 F202 [⟨n210, [(.bool false), (.slice none 0 0)], 38⟩, ⟨n112, [(.bool (!(writeP p2).gone)), (.slice a108 (writeP p2).value.length c109)], 38⟩, ⟨n94, [(.int .i64 A.start), (.slice xa88 A.reads.length xc89), (.slice xa90 A.writes.length xc91)], 75⟩, ⟨n75, [(.slice xa66 (writeP p3).name.length xc67), (.slice xa68 (writeP p3).key.length xc69), (.bool (writeP p3).gone), (.slice xa70 (writeP p3).value.length xc71)], 27⟩, ⟨n54, [(.slice xa45 (writeP p2).name.length xc46), (.slice xa47 (writeP p2).key.length xc48), (.bool (writeP p2).gone), (.slice xa49 (writeP p2).value.length xc50)], 27⟩, ⟨n33, [(.int .i64 (txO l1 []).start), (.slice xa27 (txO l1 []).reads.length xc28), (.slice xa29 (txO l1 []).writes.length xc30)], 75⟩, ⟨n5, [(.slice a30 p3.name.length c30), (.slice a31 p3.key.length c31), (.slice a32 p3.value.length c32), (.bool p3.gone)], 30⟩, ⟨n2, [(.slice a20 p2.name.length c20), (.slice a21 p2.key.length c21), (.slice a22 p2.value.length c22), (.bool p2.gone)], 30⟩] [] := S212
  refine stStore (i := 0) (v := (.agg #[(.bool (lookX (forestW (writesN l0 20)) (txO l1 []) (writeP p3).name (writeP p3).key).1.isSome), (.slice a206 ((lookX (forestW (writesN l0 20)) (txO l1 []) (writeP p3).name (writeP p3).key).1.getD []).length c207)])) S212 rfl rfl rfl rfl (size_38) (allc2 rfl rfl) (Nat.le_of_ble_eq_true rfl) (fun w213 S214 => ?_)
  simp only [pS, pN, pA, pC, pZ]
  have S214 : St W (whole W) w213 F202 [⟨n210, [(.bool (lookX (forestW (writesN l0 20)) (txO l1 []) (writeP p3).name (writeP p3).key).1.isSome), (.slice a206 ((lookX (forestW (writesN l0 20)) (txO l1 []) (writeP p3).name (writeP p3).key).1.getD []).length c207)], 38⟩, ⟨n112, [(.bool (!(writeP p2).gone)), (.slice a108 (writeP p2).value.length c109)], 38⟩, ⟨n94, [(.int .i64 A.start), (.slice xa88 A.reads.length xc89), (.slice xa90 A.writes.length xc91)], 75⟩, ⟨n75, [(.slice xa66 (writeP p3).name.length xc67), (.slice xa68 (writeP p3).key.length xc69), (.bool (writeP p3).gone), (.slice xa70 (writeP p3).value.length xc71)], 27⟩, ⟨n54, [(.slice xa45 (writeP p2).name.length xc46), (.slice xa47 (writeP p2).key.length xc48), (.bool (writeP p2).gone), (.slice xa49 (writeP p2).value.length xc50)], 27⟩, ⟨n33, [(.int .i64 (txO l1 []).start), (.slice xa27 (txO l1 []).reads.length xc28), (.slice xa29 (txO l1 []).writes.length xc30)], 75⟩, ⟨n5, [(.slice a30 p3.name.length c30), (.slice a31 p3.key.length c31), (.slice a32 p3.value.length c32), (.bool p3.gone)], 30⟩, ⟨n2, [(.slice a20 p2.name.length c20), (.slice a21 p2.key.length c21), (.slice a22 p2.value.length c22), (.bool p2.gone)], 30⟩] [] := S214
  refine do_ rfl (.bool (lookX (forestW (writesN l0 20)) (txO l1 []) (writeP p3).name (writeP p3).key).2) (ex_assign _) ?_
  simp only [pS, pN, pA, pC, pZ]
  refine do_ rfl (.int .i64 0) (ex_assign _) ?_
  simp only [pS, pN, pA, pC, pZ]
  refine wl_nil (hK117 _ _ ?_)
  refine wp_seq_k (fun K215 hK215 => region_wl ?_)
  refine do_ rfl (.slice a15 (forestW (writesN l0 20)).length c16) (ex_move _) ?_
  simp only [pS, pN, pA, pC, pZ]
  refine do_ rfl (.agg #[(.int .i64 (txO l1 []).start), (.slice xa27 (txO l1 []).reads.length xc28), (.slice xa29 (txO l1 []).writes.length xc30)]) (ex_load rfl (loadN (cs := [(.int .i64 (txO l1 []).start), (.slice xa27 (txO l1 []).reads.length xc28), (.slice xa29 (txO l1 []).writes.length xc30)]) Try.underlying75 rfl (size_75) (St.range S214 (i := 5) rfl 0 [(.int .i64 (txO l1 []).start), (.slice xa27 (txO l1 []).reads.length xc28), (.slice xa29 (txO l1 []).writes.length xc30)] (sub_range 0 rfl)))) ?_
  simp only [pS, pN, pA, pC, pZ]
  refine do_ rfl (.pointer (some ⟨n75, 0, none⟩)) (ex_field (q := ⟨n75, 0, none⟩) rfl (fa_27_0 _ _)) ?_
  simp only [pS, pN, pA, pC, pZ]
  refine do_ rfl (.slice xa66 (writeP p3).name.length xc67) (ex_load rfl (load1 (nagg_25 _) (St.cell S214 (i := 3) rfl rfl))) ?_
  simp only [pS, pN, pA, pC, pZ]
  refine do_ rfl (.pointer (some ⟨n75, 1, none⟩)) (ex_field (q := ⟨n75, 1, none⟩) rfl (fa_27_1 _ _)) ?_
  simp only [pS, pN, pA, pC, pZ]
  refine do_ rfl (.slice xa68 (writeP p3).key.length xc69) (ex_load rfl (load1 (nagg_25 _) (St.cell S214 (i := 3) rfl rfl))) ?_
  simp only [pS, pN, pA, pC, pZ]
  refine stGives S214 rfl (ex_fn (vs := #[(.slice a15 (forestW (writesN l0 20)).length c16), (.agg #[(.int .i64 (txO l1 []).start), (.slice xa27 (txO l1 []).reads.length xc28), (.slice xa29 (txO l1 []).writes.length xc30)]), (.slice xa66 (writeP p3).name.length xc67), (.slice xa68 (writeP p3).key.length xc69)]) (map4 rfl rfl rfl rfl) rfl (ent_48 _ _)) (lookIs_spec _ _ _ _ _ _ (forestW (writesN l0 20)) (txO l1 []) ((writeP p3).name) ((writeP p3).key) (S214).sat (R13.mono (((((le23.trans le42).trans le63).trans le84).trans le105).trans le203)) ⟨_, _, _, _, rfl, (r31.mono ((((le42.trans le63).trans le84).trans le105).trans le203)), (r32.mono ((((le42.trans le63).trans le84).trans le105).trans le203))⟩ (r72.mono ((le84.trans le105).trans le203)) (r73.mono ((le84.trans le105).trans le203)) okf60 hT.1 (WrOk.name (writeP_ok p3)) ⟨WrOk.key1 (writeP_ok p3), WrOk.key2 (writeP_ok p3)⟩ rfl) ?_
  intro v221 w216 F218 S217 le219 R220
  obtain ⟨_, rfl, a222, c223, rfl, r224⟩ := R220
  have r224 : Bs _ (.slice a222 ((lookX (forestW (writesN l0 20)) (txO l1 []) (writeP p3).name (writeP p3).key).1.getD []).length c223) ((lookX (forestW (writesN l0 20)) (txO l1 []) (writeP p3).name (writeP p3).key).1.getD []) := r224
  simp only [pS, pN, pA, pC, pZ]
  refine do_ rfl (.tuple #[(.agg #[(.bool (lookX (forestW (writesN l0 20)) (txO l1 []) (writeP p3).name (writeP p3).key).1.isSome), (.slice a222 ((lookX (forestW (writesN l0 20)) (txO l1 []) (writeP p3).name (writeP p3).key).1.getD []).length c223)]), (.bool (lookX (forestW (writesN l0 20)) (txO l1 []) (writeP p3).name (writeP p3).key).2), (.int .i64 0)]) (ex_move _) ?_
  simp only [pS, pN, pA, pC, pZ]
  refine do_ rfl (.agg #[(.bool (lookX (forestW (writesN l0 20)) (txO l1 []) (writeP p3).name (writeP p3).key).1.isSome), (.slice a222 ((lookX (forestW (writesN l0 20)) (txO l1 []) (writeP p3).name (writeP p3).key).1.getD []).length c223)]) (ex_extract rfl rfl) ?_
  simp only [pS, pN, pA, pC, pZ]
  refine do_ rfl (.bool (lookX (forestW (writesN l0 20)) (txO l1 []) (writeP p3).name (writeP p3).key).2) (ex_extract rfl rfl) ?_
  simp only [pS, pN, pA, pC, pZ]
  refine do_ rfl (.int .i64 0) (ex_extract rfl rfl) ?_
  simp only [pS, pN, pA, pC, pZ]
  refine stNew S217 (v := fun n => .pointer (some ⟨n, 0, none⟩)) rfl (ex_alloc (zero_38 _)) (fun n226 w227 S228 => ?_)
  simp only [pS, pN, pA, pC, pZ]
  have S228 : St W (whole W) w227 F218 [⟨n226, [(.bool false), (.slice none 0 0)], 38⟩, ⟨n210, [(.bool (lookX (forestW (writesN l0 20)) (txO l1 []) (writeP p3).name (writeP p3).key).1.isSome), (.slice a206 ((lookX (forestW (writesN l0 20)) (txO l1 []) (writeP p3).name (writeP p3).key).1.getD []).length c207)], 38⟩, ⟨n112, [(.bool (!(writeP p2).gone)), (.slice a108 (writeP p2).value.length c109)], 38⟩, ⟨n94, [(.int .i64 A.start), (.slice xa88 A.reads.length xc89), (.slice xa90 A.writes.length xc91)], 75⟩, ⟨n75, [(.slice xa66 (writeP p3).name.length xc67), (.slice xa68 (writeP p3).key.length xc69), (.bool (writeP p3).gone), (.slice xa70 (writeP p3).value.length xc71)], 27⟩, ⟨n54, [(.slice xa45 (writeP p2).name.length xc46), (.slice xa47 (writeP p2).key.length xc48), (.bool (writeP p2).gone), (.slice xa49 (writeP p2).value.length xc50)], 27⟩, ⟨n33, [(.int .i64 (txO l1 []).start), (.slice xa27 (txO l1 []).reads.length xc28), (.slice xa29 (txO l1 []).writes.length xc30)], 75⟩, ⟨n5, [(.slice a30 p3.name.length c30), (.slice a31 p3.key.length c31), (.slice a32 p3.value.length c32), (.bool p3.gone)], 30⟩, ⟨n2, [(.slice a20 p2.name.length c20), (.slice a21 p2.key.length c21), (.slice a22 p2.value.length c22), (.bool p2.gone)], 30⟩] [] := S228
  refine stStore (i := 0) (v := (.agg #[(.bool (lookX (forestW (writesN l0 20)) (txO l1 []) (writeP p3).name (writeP p3).key).1.isSome), (.slice a222 ((lookX (forestW (writesN l0 20)) (txO l1 []) (writeP p3).name (writeP p3).key).1.getD []).length c223)])) S228 rfl rfl rfl rfl (size_38) (allc2 rfl rfl) (Nat.le_of_ble_eq_true rfl) (fun w229 S230 => ?_)
  simp only [pS, pN, pA, pC, pZ]
  have S230 : St W (whole W) w229 F218 [⟨n226, [(.bool (lookX (forestW (writesN l0 20)) (txO l1 []) (writeP p3).name (writeP p3).key).1.isSome), (.slice a222 ((lookX (forestW (writesN l0 20)) (txO l1 []) (writeP p3).name (writeP p3).key).1.getD []).length c223)], 38⟩, ⟨n210, [(.bool (lookX (forestW (writesN l0 20)) (txO l1 []) (writeP p3).name (writeP p3).key).1.isSome), (.slice a206 ((lookX (forestW (writesN l0 20)) (txO l1 []) (writeP p3).name (writeP p3).key).1.getD []).length c207)], 38⟩, ⟨n112, [(.bool (!(writeP p2).gone)), (.slice a108 (writeP p2).value.length c109)], 38⟩, ⟨n94, [(.int .i64 A.start), (.slice xa88 A.reads.length xc89), (.slice xa90 A.writes.length xc91)], 75⟩, ⟨n75, [(.slice xa66 (writeP p3).name.length xc67), (.slice xa68 (writeP p3).key.length xc69), (.bool (writeP p3).gone), (.slice xa70 (writeP p3).value.length xc71)], 27⟩, ⟨n54, [(.slice xa45 (writeP p2).name.length xc46), (.slice xa47 (writeP p2).key.length xc48), (.bool (writeP p2).gone), (.slice xa49 (writeP p2).value.length xc50)], 27⟩, ⟨n33, [(.int .i64 (txO l1 []).start), (.slice xa27 (txO l1 []).reads.length xc28), (.slice xa29 (txO l1 []).writes.length xc30)], 75⟩, ⟨n5, [(.slice a30 p3.name.length c30), (.slice a31 p3.key.length c31), (.slice a32 p3.value.length c32), (.bool p3.gone)], 30⟩, ⟨n2, [(.slice a20 p2.name.length c20), (.slice a21 p2.key.length c21), (.slice a22 p2.value.length c22), (.bool p2.gone)], 30⟩] [] := S230
  refine do_ rfl (.bool (lookX (forestW (writesN l0 20)) (txO l1 []) (writeP p3).name (writeP p3).key).2) (ex_assign _) ?_
  simp only [pS, pN, pA, pC, pZ]
  refine do_ rfl (.int .i64 0) (ex_assign _) ?_
  simp only [pS, pN, pA, pC, pZ]
  refine wl_nil (hK215 _ _ ?_)
  refine wp_seq_k (fun K231 hK231 => ?_)
  refine wp_seq_k (fun K232 hK232 => region_wl ?_)
  refine do_ rfl (.int .i64 0) (ex_move _) ?_
  simp only [pS, pN, pA, pC, pZ]
  refine do_ rfl (.bool false) (ex_neq (b := false) rfl rfl (by decide)) ?_
  simp only [pS, pN, pA, pC, pZ]
  refine do_ rfl (.bool false) (ex_move _) ?_
  simp only [pS, pN, pA, pC, pZ]
  refine do_ rfl (.int .i64 0) (ex_move _) ?_
  simp only [pS, pN, pA, pC, pZ]
  refine do_ rfl (.bool false) (ex_neq (b := false) rfl rfl (by decide)) ?_
  simp only [pS, pN, pA, pC, pZ]
  refine do_ rfl (.bool false) (ex_pick (b := false) rfl) ?_
  simp only [pS, pN, pA, pC, pZ]
  refine do_ rfl (.bool false) (ex_move _) ?_
  simp only [pS, pN, pA, pC, pZ]
  refine do_ rfl (.int .i64 0) (ex_move _) ?_
  simp only [pS, pN, pA, pC, pZ]
  refine do_ rfl (.bool false) (ex_neq (b := false) rfl rfl (by decide)) ?_
  simp only [pS, pN, pA, pC, pZ]
  refine do_ rfl (.bool false) (ex_pick (b := false) rfl) ?_
  simp only [pS, pN, pA, pC, pZ]
  refine do_ rfl (.bool false) (ex_move _) ?_
  simp only [pS, pN, pA, pC, pZ]
  refine do_ rfl (.bool true) (ex_move _) ?_
  simp only [pS, pN, pA, pC, pZ]
  refine do_ rfl (.bool false) (ex_not (b := true) rfl rfl) ?_
  simp only [pS, pN, pA, pC, pZ]
  refine do_ rfl (.bool false) (ex_pick (b := false) rfl) ?_
  simp only [pS, pN, pA, pC, pZ]
  refine do_ rfl (.bool false) (ex_move _) ?_
  simp only [pS, pN, pA, pC, pZ]
  refine do_ rfl (.pointer (some ⟨n112, 0, none⟩)) (ex_field (q := ⟨n112, 0, none⟩) rfl (fa_38_0 _ _)) ?_
  simp only [pS, pN, pA, pC, pZ]
  refine do_ rfl (.bool (!(writeP p2).gone)) (ex_load rfl (load1 (nagg_4 _) (St.cell S230 (i := 2) rfl rfl))) ?_
  simp only [pS, pN, pA, pC, pZ]
  refine do_ rfl (.pointer (some ⟨n54, 2, none⟩)) (ex_field (q := ⟨n54, 2, none⟩) rfl (fa_27_2 _ _)) ?_
  simp only [pS, pN, pA, pC, pZ]
  refine do_ rfl (.bool (writeP p2).gone) (ex_load rfl (load1 (nagg_4 _) (St.cell S230 (i := 5) rfl rfl))) ?_
  simp only [pS, pN, pA, pC, pZ]
  refine do_ rfl (.bool false) (ex_eqlB Try.underlying4 rfl rfl (by cases (writeP p2).gone <;> rfl)) ?_
  simp only [pS, pN, pA, pC, pZ]
  refine do_ rfl (.bool false) (ex_pick (b := false) rfl) ?_
  simp only [pS, pN, pA, pC, pZ]
  refine do_ rfl (.bool false) (ex_move _) ?_
  simp only [pS, pN, pA, pC, pZ]
  refine do_ rfl (.pointer (some ⟨n112, 1, none⟩)) (ex_field (q := ⟨n112, 1, none⟩) rfl (fa_38_1 _ _)) ?_
  simp only [pS, pN, pA, pC, pZ]
  refine do_ rfl (.slice a108 (writeP p2).value.length c109) (ex_load rfl (load1 (nagg_25 _) (St.cell S230 (i := 2) rfl rfl))) ?_
  simp only [pS, pN, pA, pC, pZ]
  refine do_ rfl (.pointer (some ⟨n54, 3, none⟩)) (ex_field (q := ⟨n54, 3, none⟩) rfl (fa_27_3 _ _)) ?_
  simp only [pS, pN, pA, pC, pZ]
  refine do_ rfl (.slice xa49 (writeP p2).value.length xc50) (ex_load rfl (load1 (nagg_25 _) (St.cell S230 (i := 5) rfl rfl))) ?_
  simp only [pS, pN, pA, pC, pZ]
  refine stTells (v := (.bool true)) S230 rfl (ex_fn (vs := #[(.slice a108 (writeP p2).value.length c109), (.slice xa49 (writeP p2).value.length xc50)]) (map2 rfl rfl) rfl (ent_31 _ _)) (tells_bool (tells_same (same_spec _ _ _ _ ((writeP p2).value) ((writeP p2).value) (S230).sat (r110.mono (le203.trans le219)) (r53.mono ((((le63.trans le84).trans le105).trans le203).trans le219)))) (beq_iff_eq.2 (rfl))) (fun w233 S234 => ?_)
  simp only [pS, pN, pA, pC, pZ]
  refine do_ rfl (.bool false) (ex_not (b := true) rfl rfl) ?_
  simp only [pS, pN, pA, pC, pZ]
  refine do_ rfl (.bool false) (ex_pick (b := false) rfl) ?_
  simp only [pS, pN, pA, pC, pZ]
  refine wl_nil (hK232 _ _ ?_)
  refine wp_cond_false rfl ?_
  refine wp_skip ?_
  refine hK231 _ _ ?_
  refine wp_seq_k (fun K235 hK235 => region_wl ?_)
  refine do_ rfl (.pointer (some ⟨n54, 0, none⟩)) (ex_field (q := ⟨n54, 0, none⟩) rfl (fa_27_0 _ _)) ?_
  simp only [pS, pN, pA, pC, pZ]
  refine do_ rfl (.slice xa45 (writeP p2).name.length xc46) (ex_load rfl (load1 (nagg_25 _) (St.cell S234 (i := 5) rfl rfl))) ?_
  simp only [pS, pN, pA, pC, pZ]
  refine do_ rfl (.pointer (some ⟨n75, 0, none⟩)) (ex_field (q := ⟨n75, 0, none⟩) rfl (fa_27_0 _ _)) ?_
  simp only [pS, pN, pA, pC, pZ]
  refine do_ rfl (.slice xa66 (writeP p3).name.length xc67) (ex_load rfl (load1 (nagg_25 _) (St.cell S234 (i := 4) rfl rfl))) ?_
  simp only [pS, pN, pA, pC, pZ]
  refine stTells (v := (.bool false)) S234 rfl (ex_fn (vs := #[(.slice xa45 (writeP p2).name.length xc46), (.slice xa66 (writeP p3).name.length xc67)]) (map2 rfl rfl) rfl (ent_31 _ _)) (tells_bool (tells_same (same_spec _ _ _ _ ((writeP p2).name) ((writeP p3).name) (S234).sat (r51.mono ((((le63.trans le84).trans le105).trans le203).trans le219)) (r72.mono (((le84.trans le105).trans le203).trans le219)))) (beq_eq_false_iff_ne.2 (e1))) (fun w236 S237 => ?_)
  simp only [pS, pN, pA, pC, pZ]
  refine do_ rfl (.bool false) (ex_move _) ?_
  simp only [pS, pN, pA, pC, pZ]
  refine doN (wanted_no rfl rfl rfl (c := false) rfl (by decide)) ?_
  simp only [pS, pN, pA, pC, pZ]
  refine doN (wanted_no rfl rfl rfl (c := false) rfl (by decide)) ?_
  simp only [pS, pN, pA, pC, pZ]
  refine doN (wanted_no rfl rfl rfl (c := false) rfl (by decide)) ?_
  simp only [pS, pN, pA, pC, pZ]
  refine doN (wanted_no rfl rfl rfl (c := false) rfl (by decide)) ?_
  simp only [pS, pN, pA, pC, pZ]
  refine doN (wanted_no rfl rfl rfl (c := false) rfl (by decide)) ?_
  simp only [pS, pN, pA, pC, pZ]
  refine do_ rfl (.bool false) (ex_pick (b := false) rfl) ?_
  simp only [pS, pN, pA, pC, pZ]
  refine do_ rfl (.bool false) (ex_move _) ?_
  simp only [pS, pN, pA, pC, pZ]
  refine do_ rfl (.pointer (some ⟨n210, 0, none⟩)) (ex_field (q := ⟨n210, 0, none⟩) rfl (fa_38_0 _ _)) ?_
  simp only [pS, pN, pA, pC, pZ]
  refine do_ rfl (.bool (lookX (forestW (writesN l0 20)) (txO l1 []) (writeP p3).name (writeP p3).key).1.isSome) (ex_load rfl (load1 (nagg_4 _) (St.cell S237 (i := 1) rfl rfl))) ?_
  simp only [pS, pN, pA, pC, pZ]
  refine do_ rfl (.pointer (some ⟨n226, 0, none⟩)) (ex_field (q := ⟨n226, 0, none⟩) rfl (fa_38_0 _ _)) ?_
  simp only [pS, pN, pA, pC, pZ]
  refine do_ rfl (.bool (lookX (forestW (writesN l0 20)) (txO l1 []) (writeP p3).name (writeP p3).key).1.isSome) (ex_load rfl (load1 (nagg_4 _) (St.cell S237 (i := 0) rfl rfl))) ?_
  simp only [pS, pN, pA, pC, pZ]
  refine do_ rfl (.bool true) (ex_eqlB Try.underlying4 rfl rfl (beq_iff_eq.2 rfl)) ?_
  simp only [pS, pN, pA, pC, pZ]
  refine do_ rfl (.bool true) (ex_move _) ?_
  simp only [pS, pN, pA, pC, pZ]
  refine do_ rfl (.pointer (some ⟨n210, 1, none⟩)) (ex_field (q := ⟨n210, 1, none⟩) rfl (fa_38_1 _ _)) ?_
  simp only [pS, pN, pA, pC, pZ]
  refine do_ rfl (.slice a206 ((lookX (forestW (writesN l0 20)) (txO l1 []) (writeP p3).name (writeP p3).key).1.getD []).length c207) (ex_load rfl (load1 (nagg_25 _) (St.cell S237 (i := 1) rfl rfl))) ?_
  simp only [pS, pN, pA, pC, pZ]
  refine do_ rfl (.pointer (some ⟨n226, 1, none⟩)) (ex_field (q := ⟨n226, 1, none⟩) rfl (fa_38_1 _ _)) ?_
  simp only [pS, pN, pA, pC, pZ]
  refine do_ rfl (.slice a222 ((lookX (forestW (writesN l0 20)) (txO l1 []) (writeP p3).name (writeP p3).key).1.getD []).length c223) (ex_load rfl (load1 (nagg_25 _) (St.cell S237 (i := 0) rfl rfl))) ?_
  simp only [pS, pN, pA, pC, pZ]
  refine stTells (v := (.bool true)) S237 rfl (ex_fn (vs := #[(.slice a206 ((lookX (forestW (writesN l0 20)) (txO l1 []) (writeP p3).name (writeP p3).key).1.getD []).length c207), (.slice a222 ((lookX (forestW (writesN l0 20)) (txO l1 []) (writeP p3).name (writeP p3).key).1.getD []).length c223)]) (map2 rfl rfl) rfl (ent_31 _ _)) (tells_bool (tells_same (same_spec _ _ _ _ ((lookX (forestW (writesN l0 20)) (txO l1 []) (writeP p3).name (writeP p3).key).1.getD []) ((lookX (forestW (writesN l0 20)) (txO l1 []) (writeP p3).name (writeP p3).key).1.getD []) (S237).sat (r208.mono le219) r224)) (beq_iff_eq.2 (rfl))) (fun w238 S239 => ?_)
  simp only [pS, pN, pA, pC, pZ]
  refine do_ rfl (.bool true) (ex_pick (b := true) rfl) ?_
  simp only [pS, pN, pA, pC, pZ]
  refine do_ rfl (.bool true) (ex_move _) ?_
  simp only [pS, pN, pA, pC, pZ]
  refine do_ rfl (.bool (lookX (forestW (writesN l0 20)) (txO l1 []) (writeP p3).name (writeP p3).key).2) (ex_move _) ?_
  simp only [pS, pN, pA, pC, pZ]
  refine do_ rfl (.bool (lookX (forestW (writesN l0 20)) (txO l1 []) (writeP p3).name (writeP p3).key).2) (ex_move _) ?_
  simp only [pS, pN, pA, pC, pZ]
  refine do_ rfl (.bool true) (ex_eqlB Try.underlying4 rfl rfl (beq_iff_eq.2 rfl)) ?_
  simp only [pS, pN, pA, pC, pZ]
  refine do_ rfl (.bool true) (ex_pick (b := true) rfl) ?_
  simp only [pS, pN, pA, pC, pZ]
  refine do_ rfl (.bool true) (ex_pick (b := false) rfl) ?_
  simp only [pS, pN, pA, pC, pZ]
  refine do_ rfl (.bool true) (ex_assign _) ?_
  simp only [pS, pN, pA, pC, pZ]
  refine wl_nil (hK235 _ _ ?_)
  refine wp_ret ?_
  (try simp only [Exit.then, Exit.inBlock, ↓reduceIte, Nat.reduceEqDiff])
  refine bodyPost_ret (v := (.bool true)) ?_ rfl ?_
  ·exact res_t rfl rfl
  ·exact ⟨rfl, S239.gr.below⟩
end Go.Proofs.Ytcpngkkconalhaa
