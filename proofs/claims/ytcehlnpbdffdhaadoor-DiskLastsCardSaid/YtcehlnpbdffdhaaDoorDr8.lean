/- A disk: what is kept. -/
import Derived.Test.YtcehlnpbdffdhaaDoorDr7
import Derived.Test.YtcehlnpbdffdhaaDoorSh
namespace Go.Proofs.YtcehlnpbdffdhaaDoor.SL
open Go.RowKit Go.Proofs.YtcehlnpbdffdhaaDoor
open Go.Proofs.YtcehlnpbdffdhaaDoorW.PrintLast (rtab opsOf)
set_option linter.unusedVariables false
set_option linter.unusedSimpArgs false

theorem keptF_drop (zs : List Int) (j i n : Nat) : keptF (zs.drop j) i n = keptF zs (j + i) n := by unfold keptF; rw [List.getElem?_drop]
theorem keptF_le (zs : List Int) (i n : Nat) : keptF zs i n ≤ n := by
  unfold keptF
  split
  · exact Nat.zero_le _
  · rename_i x _
    have h1 := Int.emod_lt_of_pos (x % 18446744073709551616) (show (0 : Int) < (n : Int) + 1 by omega)
    omega
theorem keptF_nil (n : Nat) : keptF [] 0 n = 0 := rfl
theorem keptF_cons (z : Int) (zs : List Int) (n : Nat) : ((z % 18446744073709551616) % ((n : Int) + 1)) = ((keptF (z :: zs) 0 n : Nat) : Int) := by
  have h1 := Int.emod_nonneg (z % 18446744073709551616) (show (n : Int) + 1 ≠ 0 by omega)
  show _ = ((((z % 18446744073709551616) % ((n : Int) + 1)).toNat : Nat) : Int)
  omega
def cutOne (f : List (List UInt8 × Nat)) (zs : List Int) (j i : Nat) : List (List UInt8 × Nat) := f.set i (cutF zs j (fileAt f i))
theorem crashF_step {zs : List Int} {j : Nat} {l : Nm} {e : List UInt8 × Nat} {f : List (List UInt8 × Nat)} (h : l[j]? = some e) : crashF zs (j + 1) (l.drop j) f = crashF zs (j + 1 + 1) (l.drop (j + 1)) (cutOne f zs (j + 1) e.2) := by
  obtain ⟨hj, he⟩ := List.getElem?_eq_some_iff.1 h
  rw [List.drop_eq_getElem_cons hj, he]; rfl
theorem crashF_len {zs : List Int} : ∀ (l : Nm) (j : Nat) (f : List (List UInt8 × Nat)), (crashF zs j l f).length = f.length
  | [], _, f => rfl
  | e :: l, j, f => by
    show (crashF zs (j + 1) l (f.set e.2 _)).length = _
    rw [crashF_len l (j + 1)]; exact List.length_set
theorem cut_ok {f : List (List UInt8 × Nat)} {zs : List Int} {j i t : Nat} (hi : i < f.length) (h1 : ∀ x ∈ f, x.2 ≤ x.1.length) (h2 : ∀ x ∈ f, x.1.length ≤ t) : (∀ x ∈ cutOne f zs j i, x.2 ≤ x.1.length) ∧ (∀ x ∈ cutOne f zs j i, x.1.length ≤ t) := by
  have hm := fileAt_mem hi
  have hk := keptF_le zs j ((fileAt f i).1.length - (fileAt f i).2)
  have a1 := h1 _ hm
  have a2 := h2 _ hm
  refine ⟨fun x hx => ?_, fun x hx => ?_⟩
  · rcases List.mem_or_eq_of_mem_set hx with hx | rfl
    · exact h1 x hx
    · unfold cutF; simp only [List.length_take]; omega
  · rcases List.mem_or_eq_of_mem_set hx with hx | rfl
    · exact h2 x hx
    · unfold cutF; simp only [List.length_take]; omega
theorem applyL_take {cs : List Chg} {l : Nm} {i : Nat} {c : Chg} (h : cs[i]? = some c) : applyL l (cs.take (i + 1)) = applyN (applyL l (cs.take i)) c := by
  rw [List.take_add_one, h, Option.toList_some, applyL_snoc]

theorem getS_at {gs : List Nat} {es : List (List UInt8 × Value)} {l : Nm} {e : List UInt8 × Nat} {q : Nat} (hp : es.Perm (esOf gs l)) (hs : SortedN l) (h : e ∈ l) (hq : q = gs.getD e.2 0) : (getS es e.1).getD (.pointer none) = .pointer (some ⟨q, 0, none⟩) := by
  have hm : (e.1, ptrV (gs.getD e.2 0)) ∈ esOf gs l := List.mem_map.2 ⟨e, h, rfl⟩
  rw [getS_perm hp (by rw [esOf_keys]; exact hs.nodup), getS_some (by rw [esOf_keys]; exact hs.nodup) hm, hq]; rfl
theorem dnext_spec {B w : World} {L : List HP} {X : HP} {gk c : Nat} {a : Option Addr} {zs : List Int} (hX : ∀ {L : List HP} {w : World}, St B (X :: L) w → Rd w a zs.length 1 (ri zs)) (hc : zs.length ≤ c) (hc2 : zs.length ≤ 9223372036854775807) (n : Nat) (hn : n ≤ 4611686018427387904) (hS : St B (cel gk [Value.slice a zs.length c] 50 :: X :: L) w) : Does Tryd.prog 63 [Value.int .i64 (n : Int), Value.pointer (some ⟨gk, 0, none⟩)] w (fun v w1 => ∃ a2 c2, v = .int .i64 ((keptF zs 0 n : Nat) : Int) ∧ (∀ {L : List HP} {w : World}, St B (X :: L) w → Rd w a2 (zs.drop 1).length 1 (ri (zs.drop 1))) ∧ (zs.drop 1).length ≤ c2 ∧ St B (cel gk [Value.slice a2 ((zs.drop 1).length) c2] 50 :: X :: L) w1) := by
 refine enter (n := 20) Tryd.func63 rfl rfl [Value.int .i64 (n : Int), Value.pointer (some ⟨gk, 0, none⟩)] rfl ?_
 refine WP.seq ?_
 refine WP.region rfl ?_
 refine WO.val (run_assign rfl) rfl rfl rfl ?_
 refine WO.nil ?_
 refine NX.go ?_
 refine WP.seq ?_
 refine WP.seq ?_
 refine WP.region rfl ?_
 refine WO.val (run_load Ty.ag50 rfl ((hS.cel_at 0 rfl 0).trans rfl)) rfl rfl rfl ?_
 refine WO.val (run_len rfl Tryd.underlying50 rfl) rfl rfl rfl ?_
 refine WO.val (run_eql rfl rfl) rfl rfl rfl ?_
 refine WO.nil ?_
 refine NX.go ?_
 refine WP.condP rfl (fun g7 => ?_) (fun g7 => ?_)
 ·
  refine WP.seq ?_
  refine WP.region rfl ?_
  refine WO.val (run_assign rfl) rfl rfl rfl ?_
  refine WO.nil ?_
  refine NX.go ?_
  refine WP.ret ?_
  refine NX.thenRet ?_
  refine NX.done (l := [.tmp 3]) rfl rfl ?_
  have hz : zs = [] := List.length_eq_zero_iff.1 (by omega)
  subst hz
  exact ⟨a, c, rfl, hX, hc, hS⟩
 ·
  refine WP.skip ?_
  refine NX.go ?_
  refine WP.seq ?_
  refine WP.region rfl ?_
  refine WO.val (run_load Ty.ag50 rfl ((hS.cel_at 0 rfl 0).trans rfl)) rfl rfl rfl ?_
  refine WO.val (run_indexAddr (q := adr a 0) Tryd.underlying50 Ty.sz3 rfl rfl (by omega) (by omega) ((hX (hS.focus 1 rfl)).2.1 (by omega)) (by simp)) rfl rfl rfl ?_
  obtain ⟨z, zs2, hz0⟩ : ∃ z zs2, zs = z :: zs2 := by cases zs with | nil => exact absurd rfl g7 | cons z l => exact ⟨z, l, rfl⟩
  refine WO.val (run_load Ty.ag3 rfl ((hX (hS.focus 1 rfl)).cell (by rw [hz0]; rfl))) rfl rfl rfl ?_
  refine WO.val (run_convI Tryd.underlying44 (by kernel_rfl) rfl (IntKind.wrap_u64 _)) rfl rfl rfl ?_
  refine WO.val (run_move rfl) rfl rfl rfl ?_
  refine WO.val (run_add rfl rfl (IntWalk.i64_in _ (by omega))) rfl rfl rfl ?_
  refine WO.val (run_convI Tryd.underlying44 (by kernel_rfl) rfl (IntWalk.u64_in _ (by omega))) rfl rfl rfl ?_
  refine WO.val (run_rem rfl rfl (by omega) (IntWalk.rem_in _ _ (by omega))) rfl rfl rfl ?_
  refine WO.val (run_convI Tryd.underlying3 (by kernel_rfl) rfl (show IntKind.i64.wrap ((z % 18446744073709551616) % ((n : Int) + 1)) = ((keptF zs 0 n : Nat) : Int) by rw [hz0, keptF_cons]; have := keptF_le (z :: zs2) 0 n; exact IntWalk.i64_in _ (by omega))) rfl rfl rfl ?_
  refine WO.val (run_assign rfl) rfl rfl rfl ?_
  refine WO.nil ?_
  refine NX.go ?_
  refine WP.seq ?_
  refine WP.region rfl ?_
  refine WO.val (run_load Ty.ag50 rfl ((hS.cel_at 0 rfl 0).trans rfl)) rfl rfl rfl ?_
  refine WO.val (run_sliceL (i := 1) (j := zs.length) Tryd.underlying50 Ty.sz3 rfl ⟨_, rfl⟩ rfl (by omega) (by omega)) rfl rfl rfl ?_
  refine WO.store (l' := [Value.slice (if c = 1 then a else a.map (·.add (1 * 1))) (zs.length - 1) (c - 1)]) 0 hS rfl Ty.sz50 rfl rfl rfl rfl rfl (Nat.le_of_ble_eq_true rfl) rfl (fun w1 (hS1 : St B (cel gk [Value.slice (if c = 1 then a else a.map (·.add (1 * 1))) (zs.length - 1) (c - 1)] 50 :: X :: L) w1) => ?_)
  clear hS
  refine WO.nil ?_
  refine NX.go ?_
  refine WP.seq ?_
  refine WP.region rfl ?_
  refine WO.val (run_move rfl) rfl rfl rfl ?_
  refine WO.val (run_assign rfl) rfl rfl rfl ?_
  refine WO.nil ?_
  refine NX.go ?_
  refine WP.ret ?_
  refine NX.done (l := [.tmp 3]) rfl rfl ?_
  refine ⟨(if c = 1 then a else a.map (·.add (1 * 1))), c - 1, ?_, fun {L} {w} h => ?_, ?_, ?_⟩
  · rfl
  · have := (hX h).drop1 (i := 1) (c := c) (by omega) hc; rw [List.length_drop]; unfold ri at this ⊢; rw [List.map_drop]; exact this
  · rw [List.length_drop]; omega
  · rw [List.length_drop]; exact hS1
theorem dcrash_spec_t3 : rtab .any (opsOf Tryd.f26 3) = (true, [([], []), ([0], [0]), ([1], [1]), ([2], [2]), ([], []), ([], []), ([5], [5]), ([6], [6]), ([7], [7]), ([8], [8]), ([4, 9], [4, 9]), ([3, 10], [3, 10]), ([11], [11]), ([], [])]) := by kernel_rfl
theorem dcrash_spec_t12 : rtab .any (opsOf Tryd.f26 12) = (true, [([], []), ([0], [0]), ([1], [1]), ([2], [2]), ([], []), ([], []), ([5], [5]), ([6], [6]), ([7], [7]), ([8], [8]), ([], []), ([10], [10]), ([11], [11]), ([12], [12]), ([9, 13], [9, 13]), ([4, 14], [4, 14]), ([3, 15], [3, 15]), ([0, 0, 1, 2, 3, 4, 5, 6, 7, 8, 9, 10, 11, 12, 13, 14, 15, 16], [0]), ([17, 0, 1, 2, 3, 4, 5, 6, 7, 8, 9, 10, 11, 12, 13, 14, 15, 16], [17]), ([18, 16, 15, 0, 1, 2, 3, 4, 5, 6, 7, 8, 9, 10, 11, 12, 13, 14, 15, 16], [16, 18])]) := by kernel_rfl
theorem dcrash_spec_t13 : rtab .any (opsOf Tryd.f26 13) = (true, [([], []), ([], []), ([1], [1]), ([2], [2]), ([3], [3]), ([], []), ([5], [5]), ([6], [6]), ([7], [7]), ([4, 8], [4, 8]), ([0, 0, 1, 2, 3, 4, 5, 6, 7, 8, 9], [0]), ([10, 0, 1, 2, 3, 4, 5, 6, 7, 8, 9], [10]), ([11, 9, 0, 1, 2, 3, 4, 5, 6, 7, 8, 9], [9, 11])]) := by kernel_rfl
theorem dcrash_spec_t15 : rtab .any (opsOf Tryd.f26 15) = (true, [([], []), ([], []), ([1], [1]), ([2], [2]), ([3], [3]), ([], []), ([], []), ([6], [6]), ([4, 5, 7], [4, 5, 7]), ([0, 0, 1, 2, 3, 4, 5, 6, 7, 8], [0]), ([9, 8, 7, 0, 1, 2, 3, 4, 5, 6, 7, 8], [8, 9])]) := by kernel_rfl
theorem dcrash_spec {B w : World} {L : List HP} {X : HP} {g kc : Nat} {ka : Option Addr} {D : Dk} {n t : Nat} {zs : List Int} (hw : WFD D) (hb : Bnd D n t) (hn1 : n ≤ 1000000000) (ht : t ≤ 1099511627776) (hX : ∀ {L : List HP} {w : World}, St B (X :: L) w → Rd w ka zs.length 1 (ri zs)) (hc : zs.length ≤ kc) (hc2m : zs.length ≤ 9223372036854775807) (hS : St B (dkA g D :: X :: L) w) : Does Tryd.prog 26 [Value.pointer (some ⟨g, 0, none⟩), Value.slice ka zs.length kc] w (fun v w1 => v = .tuple #[] ∧ St B (dkA g (crashD D zs) :: X :: L) w1) := by
 obtain ⟨dx, ok, h0⟩ := hS.dk_open
 clear hS
 have hlch := ok.v
 have hcap := h0.own_le_i 3 rfl
 have hnb := hb.ch
 have hpk := keptF_le zs 0 D.ch.length
 refine enter (n := 90) Tryd.func26 rfl rfl [Value.pointer (some ⟨g, 0, none⟩), Value.slice ka zs.length kc] rfl ?_
 refine WP.seq ?_
 refine WP.region rfl ?_
 refine WO.box (l := [Value.slice ka zs.length kc]) h0 rfl rfl rfl (fun g2 w1 lg2 hS1 => ?_)
 clear h0
 refine WO.nil ?_
 refine NX.go ?_
 refine WP.seq ?_
 refine WP.region rfl ?_
 refine WO.val (run_makeFunc rfl rfl) rfl rfl rfl ?_
 refine WO.val (run_assign rfl) rfl rfl rfl ?_
 refine WO.nil ?_
 refine NX.go ?_
 refine WP.seq ?_
 refine WP.region rfl ?_
 refine WO.val (run_move rfl) rfl rfl rfl ?_
 refine WO.val (run_nilCheck rfl) rfl rfl rfl ?_
 refine WO.val (run_fieldAddr (q := ⟨g, 2, none⟩) (show fieldB Tryd.prog 103 2 = some 2 from by kernel_rfl) rfl rfl) rfl rfl rfl ?_
 refine WO.val (run_load Ty.ag100 rfl ((hS1.cel_at 1 rfl 2).trans rfl)) rfl rfl rfl ?_
 refine WO.val (run_assign rfl) rfl rfl rfl ?_
 refine WO.nil ?_
 refine NX.go ?_
 refine WP.seq ?_
 refine WP.seq ?_
 refine WD.start (fun w => (∀ j, World.cell? w ⟨g, j, none⟩ = [Value.int .i64 D.room, Value.map (some dx.r1), Value.map (some dx.r2), Value.slice dx.a dx.vs.length dx.cap, Value.bool D.dead, Value.int .i64 D.left][j]?)) [] #[false, false, false, false, false, false, false, false, false, false, false, false, false, false] Ty.mo rfl (by kernel_rfl) hS1 (fun _ h => h.cel_at 1 rfl) (fun w3 hS3 s4 => ?_)
 clear hS1
 refine WD.pure (i := 0) dcrash_spec_t3 #[true, false, false, false, false, false, false, false, false, false, false, false, false, false] rfl rfl rfl (by kernel_rfl) (PQ.then (PQ.then PQ.body)) rfl (fun w => run_move rfl) ?_
 refine WD.pure (i := 1) dcrash_spec_t3 #[true, true, false, false, false, false, false, false, false, false, false, false, false, false] rfl rfl rfl (by kernel_rfl) (PQ.then (PQ.then PQ.body)) rfl (fun w => run_nilCheck rfl) ?_
 refine WD.pure (i := 2) dcrash_spec_t3 #[true, true, true, false, false, false, false, false, false, false, false, false, false, false] rfl rfl rfl (by kernel_rfl) (PQ.then (PQ.then PQ.body)) rfl (fun w => run_fieldAddr (q := ⟨g, 3, none⟩) (show fieldB Tryd.prog 103 3 = some 3 from by kernel_rfl) rfl rfl) ?_
 refine WD.take (i := 3) dcrash_spec_t3 #[true, true, true, true, false, false, false, false, false, false, false, false, false, false] s4 rfl rfl rfl (by kernel_rfl) (PQ.then (PQ.then PQ.body)) rfl (fun w hs => run_load Ty.ag101 rfl ((hs 3).trans rfl)) ?_
 refine WD.pure (i := 4) dcrash_spec_t3 #[true, true, true, true, true, false, false, false, false, false, false, false, false, false] rfl rfl rfl (by kernel_rfl) (PQ.then (PQ.then PQ.body)) rfl (fun w => run_move rfl) ?_
 refine WD.pure (i := 5) dcrash_spec_t3 #[true, true, true, true, true, true, false, false, false, false, false, false, false, false] rfl rfl rfl (by kernel_rfl) (PQ.then (PQ.then PQ.body)) rfl (fun w => run_move rfl) ?_
 refine WD.pure (i := 6) dcrash_spec_t3 #[true, true, true, true, true, true, true, false, false, false, false, false, false, false] rfl rfl rfl (by kernel_rfl) (PQ.then (PQ.then PQ.body)) rfl (fun w => run_nilCheck rfl) ?_
 refine WD.pure (i := 7) dcrash_spec_t3 #[true, true, true, true, true, true, true, true, false, false, false, false, false, false] rfl rfl rfl (by kernel_rfl) (PQ.then (PQ.then PQ.body)) rfl (fun w => run_fieldAddr (q := ⟨g, 3, none⟩) (show fieldB Tryd.prog 103 3 = some 3 from by kernel_rfl) rfl rfl) ?_
 refine WD.take (i := 8) dcrash_spec_t3 #[true, true, true, true, true, true, true, true, true, false, false, false, false, false] s4 rfl rfl rfl (by kernel_rfl) (PQ.then (PQ.then PQ.body)) rfl (fun w hs => run_load Ty.ag101 rfl ((hs 3).trans rfl)) ?_
 refine WD.pure (i := 9) dcrash_spec_t3 #[true, true, true, true, true, true, true, true, true, true, false, false, false, false] rfl rfl rfl (by kernel_rfl) (PQ.then (PQ.then PQ.body)) rfl (fun w => run_len rfl Tryd.underlying101 rfl) ?_
 refine WD.pure (i := 13) dcrash_spec_t3 #[true, true, true, true, true, true, true, true, true, true, false, false, false, true] rfl rfl rfl (by kernel_rfl) (PQ.then (PQ.then PQ.body)) rfl (fun w => run_move rfl) ?_
 refine WD.one (i := 10) dcrash_spec_t3 #[true, true, true, true, true, true, true, true, true, true, true, false, false, true] rfl (by kernel_rfl) ?_
 have hS5 := hS3.permT [0, 6, 0, 0, 0, 0, 0, 0] (L' := cel g2 [Value.slice ka zs.length kc] 50 :: X :: cel g [Value.int .i64 D.room, Value.map (some dx.r1), Value.map (some dx.r2), Value.slice dx.a dx.vs.length dx.cap, Value.bool D.dead, Value.int .i64 D.left] 103 :: mpS dx.r1 dx.e1 :: mpS dx.r2 dx.e2 :: own dx.a dx.vs.length dx.cap 108 1 dx.vs :: chsA dx.gs D.ch dx.vs :: filesA dx.gs D.f :: L) rfl
 clear hS3
 refine WO.callV (us := []) (cs := [Value.pointer (some ⟨g2, 0, none⟩)]) rfl rfl Ty.hd63 rfl (dnext_spec hX hc hc2m dx.vs.length (by omega) hS5) (fun v7 w6 pv7 => ?_)
 obtain ⟨a2, c2, hv2, hX2, hc2, hS6⟩ := pv7
 clear hS5
 rw [← hlch] at hv2
 subst hv2
 refine WO.nil ?_
 have s8 : (∀ j, World.cell? w6 ⟨g, j, none⟩ = [Value.int .i64 D.room, Value.map (some dx.r1), Value.map (some dx.r2), Value.slice dx.a dx.vs.length dx.cap, Value.bool D.dead, Value.int .i64 D.left][j]?) := hS6.cel_at 2 rfl
 refine NX.held s8 ?_
 refine WD.pure (i := 11) dcrash_spec_t3 #[true, true, true, true, true, true, true, true, true, true, true, true, false, true] rfl rfl rfl (by kernel_rfl) (PQ.then (PQ.then PQ.body)) rfl (fun w => run_sliceTo (j := (keptF zs 0 D.ch.length)) Tryd.underlying101 Ty.sz108 rfl ⟨_, rfl⟩ (by omega)) ?_
 refine WD.pure (i := 12) dcrash_spec_t3 #[true, true, true, true, true, true, true, true, true, true, true, true, true, true] rfl rfl rfl (by kernel_rfl) (PQ.then (PQ.then PQ.body)) rfl (fun w => run_len rfl Tryd.underlying101 rfl) ?_
 refine WD.done dcrash_spec_t3 (by kernel_rfl) ?_
 refine NX.go ?_
 refine WP.block ?_
 refine WP.loop (α := Nat × List (List UInt8 × Value)) (fun x => match x with | ⟨i, es⟩ => [(0, Value.pointer (some ⟨g, 0, none⟩)), (3, Value.pointer (some ⟨g2, 0, none⟩)), (4, Value.func (.func 63) #[] #[Value.pointer (some ⟨g2, 0, none⟩)]), (5, Value.map (some dx.r2)), (27, Value.slice dx.a (keptF zs 0 D.ch.length) dx.cap), (28, Value.int .i64 (((keptF zs 0 D.ch.length) : Nat) : Int)), (29, Value.int .i64 (i : Int))]) (fun x w => match x with | ⟨i, es⟩ => (i ≤ (keptF zs 0 D.ch.length) ∧ es.Perm (esOf dx.gs (applyL D.last (D.ch.take i)))) ∧ St B (cel g2 [Value.slice a2 ((zs.drop 1).length) c2] 50 :: X :: cel g [Value.int .i64 D.room, Value.map (some dx.r1), Value.map (some dx.r2), Value.slice dx.a dx.vs.length dx.cap, Value.bool D.dead, Value.int .i64 D.left] 103 :: mpS dx.r1 dx.e1 :: mpS dx.r2 es :: own dx.a dx.vs.length dx.cap 108 1 dx.vs :: chsA dx.gs D.ch dx.vs :: filesA dx.gs D.f :: L) w) (fun x => match x with | ⟨i, es⟩ => (keptF zs 0 D.ch.length) - i) (0, dx.e2) ⟨⟨Nat.zero_le _, ok.p2⟩, hS6⟩ (Sub.cons rfl (Sub.cons rfl (Sub.cons rfl (Sub.cons rfl (Sub.cons rfl (Sub.cons rfl (Sub.consE rfl (by first | rfl | first | rfl | (congr 1; omega) | (simp; done) | (simp; omega)) (Sub.nil _)))))))) ?_
 rintro ⟨i, es⟩ w9 ⟨⟨hi, hes⟩, hS9⟩
 clear hS6
 refine WP.seq ?_
 refine WP.region rfl ?_
 refine WO.val (run_lss rfl rfl) rfl rfl rfl ?_
 refine WO.nil ?_
 refine NX.go ?_
 refine WP.seq ?_
 refine WP.condP rfl (fun g30 => ?_) (fun g30 => ?_)
 ·
  refine WP.skip ?_
  refine NX.go ?_
  refine WP.seq ?_
  refine WP.block ?_
  refine WP.seq ?_
  refine WP.region rfl ?_
  have hich : i < D.ch.length := by omega
  obtain ⟨c, hc0⟩ : ∃ c, D.ch[i]? = some c := ⟨_, List.getElem?_eq_getElem hich⟩
  obtain ⟨v0, hv0, hS10⟩ := chsA_at hc0 (hS9.permT [6, 0, 0, 0, 0, 0, 0, 0] (L' := chsA dx.gs D.ch dx.vs :: cel g2 [Value.slice a2 ((zs.drop 1).length) c2] 50 :: X :: cel g [Value.int .i64 D.room, Value.map (some dx.r1), Value.map (some dx.r2), Value.slice dx.a dx.vs.length dx.cap, Value.bool D.dead, Value.int .i64 D.left] 103 :: mpS dx.r1 dx.e1 :: mpS dx.r2 es :: own dx.a dx.vs.length dx.cap 108 1 dx.vs :: filesA dx.gs D.f :: L) rfl)
  obtain ⟨f0, cs0, rfl⟩ := chg_form hS10
  clear hS9
  replace hS10 : St B (chgA dx.gs c (Value.func (.func f0) #[] cs0.toArray) :: chsA dx.gs D.ch dx.vs :: cel g2 [Value.slice a2 ((zs.drop 1).length) c2] 50 :: X :: cel g [Value.int .i64 D.room, Value.map (some dx.r1), Value.map (some dx.r2), Value.slice dx.a dx.vs.length dx.cap, Value.bool D.dead, Value.int .i64 D.left] 103 :: mpS dx.r1 dx.e1 :: mpS dx.r2 es :: own dx.a dx.vs.length dx.cap 108 1 dx.vs :: filesA dx.gs D.f :: L) w9 := hS10
  refine WO.val (run_indexAddr (q := adr dx.a i) Tryd.underlying101 Ty.sz108 rfl rfl (by omega) (by omega) ((hS10.own_rd_i 7 rfl).2.1 (by omega)) (by simp)) rfl rfl rfl ?_
  refine WO.val (run_load Ty.ag108 rfl ((hS10.own_rd_i 7 rfl).cell hv0)) rfl rfl rfl ?_
  refine WO.val (run_assign rfl) rfl rfl rfl ?_
  refine WO.nil ?_
  refine NX.go ?_
  refine WP.region rfl ?_
  refine WO.val (run_move rfl) rfl rfl rfl ?_
  refine WO.val (run_move rfl) rfl rfl rfl ?_
  obtain ⟨hF, hD⟩ := chg_call rfl (hS10.permT [0, 5, 0, 0, 0, 0, 0, 0, 0] (L' := chgA dx.gs c (Value.func (.func f0) #[] cs0.toArray) :: mpS dx.r2 es :: chsA dx.gs D.ch dx.vs :: cel g2 [Value.slice a2 ((zs.drop 1).length) c2] 50 :: X :: cel g [Value.int .i64 D.room, Value.map (some dx.r1), Value.map (some dx.r2), Value.slice dx.a dx.vs.length dx.cap, Value.bool D.dead, Value.int .i64 D.left] 103 :: mpS dx.r1 dx.e1 :: own dx.a dx.vs.length dx.cap 108 1 dx.vs :: filesA dx.gs D.f :: L) rfl)
  refine WO.callV (us := []) (cs := cs0) rfl rfl hF rfl hD (fun v12 w11 hS11 => ?_)
  clear hS10
  refine WO.nil ?_
  refine NX.blk ?_
  refine NX.go ?_
  refine WP.region rfl ?_
  refine WO.val (run_add rfl rfl (IntWalk.i64_in _ (by omega))) rfl rfl rfl ?_
  refine WO.val (run_move rfl) rfl rfl rfl ?_
  refine WO.nil ?_
  exact NX.again (i + 1, applyE dx.gs es c) ⟨⟨by omega, by rw [applyL_take hc0]; exact applyE_perm hes (applyL_good hw.last fun d hd => hw.ch d (List.mem_of_mem_take hd)) (hw.ch c (List.mem_of_getElem? hc0))⟩, (hS11.permT [0, 2, 2, 2, 2, 0, 1, 0, 0] (L' := chgA dx.gs c (Value.func (.func f0) #[] cs0.toArray) :: cel g2 [Value.slice a2 ((zs.drop 1).length) c2] 50 :: X :: cel g [Value.int .i64 D.room, Value.map (some dx.r1), Value.map (some dx.r2), Value.slice dx.a dx.vs.length dx.cap, Value.bool D.dead, Value.int .i64 D.left] 103 :: mpS dx.r1 dx.e1 :: mpS dx.r2 (applyE dx.gs es c) :: own dx.a dx.vs.length dx.cap 108 1 dx.vs :: chsA dx.gs D.ch dx.vs :: filesA dx.gs D.f :: L) rfl).drop⟩ (by show (keptF zs 0 D.ch.length) - (i + 1) < (keptF zs 0 D.ch.length) - i; omega) (Sub.cons rfl (Sub.cons rfl (Sub.cons rfl (Sub.cons rfl (Sub.cons rfl (Sub.cons rfl (Sub.consE rfl (by congr 1) (Sub.nil _))))))))
 ·
  refine WP.exit ?_
  refine NX.thenExit ?_
  refine NX.thenExit ?_
  refine NX.blkExit ?_
  refine NX.go ?_
  refine WP.seq ?_
  refine WP.seq ?_
  have hpi : i = (keptF zs 0 D.ch.length) := by omega
  subst hpi
  obtain ⟨KS, hKS⟩ : ∃ KS : List (List UInt8), KS = (applyL D.last (D.ch.take (keptF zs 0 D.ch.length))).map (·.1) := ⟨_, rfl⟩
  have hKl : KS.length = (applyL D.last (D.ch.take (keptF zs 0 D.ch.length))).length := by rw [hKS]; exact List.length_map _
  have hKe : KS.length ≤ 4294967296 := by have := hw.few (keptF zs 0 D.ch.length); omega
  have hLg := applyL_good hw.last (cs := D.ch.take (keptF zs 0 D.ch.length)) fun d hd => hw.ch d (List.mem_of_mem_take hd)
  have hen : (es.map (·.1)).Nodup := by have := (hes.map (·.1)); rw [esOf_keys] at this; exact this.nodup_iff.2 hLg.s.nodup
  have hec : es.length ≤ 4294967296 := by have := hes.length_eq; unfold esOf at this; rw [List.length_map] at this; have := hw.few (keptF zs 0 D.ch.length); omega
  have hel : ∀ p ∈ es, p.1.length ≤ 4294967296 := fun p hp => by obtain ⟨e, he, h2⟩ := List.mem_map.1 (hes.mem_iff.1 hp); have := fileF_len (hLg.f e he).1; rw [← h2]; show e.1.length ≤ _; omega
  refine WP.region rfl ?_
  refine WO.val (run_move rfl) rfl rfl rfl ?_
  refine WO.call rfl rfl Ty.hd65 rfl (keys65_spec dx.r2 hS9) (fun v14 w13 pv14 => ?_)
  obtain ⟨gk, rfl, hK, hS13⟩ := pv14
  clear hS9
  have hS15 := hS13.permT [4, 0, 0, 0, 0, 0, 0, 0] (L' := mpS dx.r2 es :: cel g2 [Value.slice a2 ((zs.drop 1).length) c2] 50 :: X :: cel g [Value.int .i64 D.room, Value.map (some dx.r1), Value.map (some dx.r2), Value.slice dx.a dx.vs.length dx.cap, Value.bool D.dead, Value.int .i64 D.left] 103 :: mpS dx.r1 dx.e1 :: own dx.a dx.vs.length dx.cap 108 1 dx.vs :: chsA dx.gs D.ch dx.vs :: filesA dx.gs D.f :: L) rfl
  clear hS13
  refine WO.call rfl rfl Ty.hd64 rfl (sorted65_spec hK (ks := KS) (by have := hes.map (·.1); rw [esOf_keys, ← hKS] at this; exact this) (show List.Pairwise (fun a b => strLt a b = true) KS by rw [hKS]; exact List.pairwise_map.2 hLg.s) hen (fun p hp => hel p hp) hec hS15) (fun v17 w16 pv17 => ?_)
  obtain ⟨a3, c3, rfl, hS16⟩ := pv17
  clear hS15
  refine WO.val (run_len rfl Tryd.underlying22 rfl) rfl rfl rfl ?_
  refine WO.val (run_move rfl) rfl rfl rfl ?_
  refine WO.nil ?_
  refine NX.go ?_
  refine WP.block ?_
  refine WP.loop (α := Nat × List (List UInt8 × Nat) × Option Addr × Nat) (fun x => match x with | ⟨j, f, a, c⟩ => [(0, Value.pointer (some ⟨g, 0, none⟩)), (3, Value.pointer (some ⟨g2, 0, none⟩)), (4, Value.func (.func 63) #[] #[Value.pointer (some ⟨g2, 0, none⟩)]), (5, Value.map (some dx.r2)), (39, Value.slice a3 KS.length c3), (40, Value.int .i64 ((KS.length : Nat) : Int)), (41, Value.int .i64 (j : Int))]) (fun x w => match x with | ⟨j, f, a, c⟩ => (j ≤ (applyL D.last (D.ch.take (keptF zs 0 D.ch.length))).length ∧ crashF zs (j + 1) ((applyL D.last (D.ch.take (keptF zs 0 D.ch.length))).drop j) f = crashF zs 1 (applyL D.last (D.ch.take (keptF zs 0 D.ch.length))) D.f ∧ f.length = D.f.length ∧ (∀ x ∈ f, x.2 ≤ x.1.length) ∧ (∀ x ∈ f, x.1.length ≤ t) ∧ (∀ {L : List HP} {w : World}, St B (X :: L) w → Rd w a (zs.drop (j + 1)).length 1 (ri (zs.drop (j + 1)))) ∧ (zs.drop (j + 1)).length ≤ c) ∧ St B (own a3 KS.length c3 9 1 (KS.map str) :: mpS dx.r2 es :: cel g2 [Value.slice a ((zs.drop (j + 1)).length) c] 50 :: X :: cel g [Value.int .i64 D.room, Value.map (some dx.r1), Value.map (some dx.r2), Value.slice dx.a dx.vs.length dx.cap, Value.bool D.dead, Value.int .i64 D.left] 103 :: mpS dx.r1 dx.e1 :: own dx.a dx.vs.length dx.cap 108 1 dx.vs :: chsA dx.gs D.ch dx.vs :: filesA dx.gs f :: L) w) (fun x => match x with | ⟨j, f, a, c⟩ => (applyL D.last (D.ch.take (keptF zs 0 D.ch.length))).length - j) (0, D.f, a2, c2) ⟨⟨Nat.zero_le _, rfl, rfl, hw.lasts, hb.t, hX2, hc2⟩, hS16⟩ (Sub.cons rfl (Sub.cons rfl (Sub.cons rfl (Sub.cons rfl (Sub.cons rfl (Sub.cons rfl (Sub.consE rfl (by first | rfl | first | rfl | (congr 1; omega) | (simp; done) | (simp; omega)) (Sub.nil _)))))))) ?_
  rintro ⟨j, f, a, c⟩ w18 ⟨⟨hj, hcr, hfl, hfx, hft, hXj, hcj⟩, hS18⟩
  clear hS16
  refine WP.seq ?_
  refine WP.region rfl ?_
  refine WO.val (run_lss rfl rfl) rfl rfl rfl ?_
  refine WO.nil ?_
  refine NX.go ?_
  refine WP.seq ?_
  refine WP.condP rfl (fun g42 => ?_) (fun g42 => ?_)
  ·
   refine WP.skip ?_
   refine NX.go ?_
   refine WP.seq ?_
   refine WP.block ?_
   refine WP.seq ?_
   refine WP.region rfl ?_
   obtain ⟨e, he0⟩ : ∃ e, (applyL D.last (D.ch.take (keptF zs 0 D.ch.length)))[j]? = some e := ⟨_, List.getElem?_eq_getElem (by omega)⟩
   have hem := List.mem_of_getElem? he0
   have hlt : e.2 < f.length := by rw [hfl]; exact (hLg.f e hem).2
   obtain ⟨q, hq⟩ : ∃ q, q = dx.gs.getD e.2 0 := ⟨_, rfl⟩
   have hx2 := hfx _ (fileAt_mem hlt)
   have hxt := hft _ (fileAt_mem hlt)
   refine WO.val (run_indexAddr (q := adr a3 j) Tryd.underlying22 Ty.sz9 rfl rfl (by omega) (by omega) ((hS18.own_rd_i 0 rfl).2.1 (by omega)) (by simp)) rfl rfl rfl ?_
   refine WO.val (run_load Ty.ag9 rfl ((hS18.own_rd_i 0 rfl).cell (show (KS.map str)[j]? = some (str e.1) by rw [hKS, List.getElem?_map, List.getElem?_map, he0]; rfl))) rfl rfl rfl ?_
   refine WO.val (run_assign rfl) rfl rfl rfl ?_
   refine WO.nil ?_
   refine NX.go ?_
   refine WP.seq ?_
   refine WP.region rfl ?_
   refine WO.val (run_move rfl) rfl rfl rfl ?_
   refine WO.val (run_move rfl) rfl rfl rfl ?_
   refine WO.val (run_lookupS 1 hS18 rfl Tryd.underlying100 Tryd.underlying9 Ty.zr104 rfl rfl (getS_at hes hLg.s hem hq)) rfl rfl rfl ?_
   refine WO.val (run_assign rfl) rfl rfl rfl ?_
   refine WO.nil ?_
   refine NX.go ?_
   refine WP.seq ?_
   have hS19 : St B (cel q [str ((fileAt f e.2).1), Value.int .i64 ((fileAt f e.2).2 : Int)] 106 :: filesBut e.2 dx.gs f :: own a3 KS.length c3 9 1 (KS.map str) :: mpS dx.r2 es :: cel g2 [Value.slice a ((zs.drop (j + 1)).length) c] 50 :: X :: cel g [Value.int .i64 D.room, Value.map (some dx.r1), Value.map (some dx.r2), Value.slice dx.a dx.vs.length dx.cap, Value.bool D.dead, Value.int .i64 D.left] 103 :: mpS dx.r1 dx.e1 :: own dx.a dx.vs.length dx.cap 108 1 dx.vs :: chsA dx.gs D.ch dx.vs :: L) w18 := by have z := filesA_pick hlt (hS18.permT [8, 0, 0, 0, 0, 0, 0, 0, 0] (L' := filesA dx.gs f :: own a3 KS.length c3 9 1 (KS.map str) :: mpS dx.r2 es :: cel g2 [Value.slice a ((zs.drop (j + 1)).length) c] 50 :: X :: cel g [Value.int .i64 D.room, Value.map (some dx.r1), Value.map (some dx.r2), Value.slice dx.a dx.vs.length dx.cap, Value.bool D.dead, Value.int .i64 D.left] 103 :: mpS dx.r1 dx.e1 :: own dx.a dx.vs.length dx.cap 108 1 dx.vs :: chsA dx.gs D.ch dx.vs :: L) rfl); rw [← hq] at z; exact z
   clear hS18
   obtain ⟨kq, hkq⟩ : ∃ kq, kq = keptF zs (j + 1) ((fileAt f e.2).1.length - (fileAt f e.2).2) := ⟨_, rfl⟩
   have hkl : kq ≤ ((fileAt f e.2).1.length - (fileAt f e.2).2) := by rw [hkq]; exact keptF_le zs (j + 1) ((fileAt f e.2).1.length - (fileAt f e.2).2)
   refine WD.start (fun w => (∀ j, World.cell? w ⟨q, j, none⟩ = [str ((fileAt f e.2).1), Value.int .i64 ((fileAt f e.2).2 : Int)][j]?)) [19] #[false, false, false, false, false, false, false, false, false, false, false, false, false, false, false, false, false, false, false, false] Ty.mo rfl (by kernel_rfl) hS19 (fun _ h => h.cel_at 0 rfl) (fun w20 hS20 s21 => ?_)
   clear hS19
   refine WD.pure (i := 0) dcrash_spec_t12 #[true, false, false, false, false, false, false, false, false, false, false, false, false, false, false, false, false, false, false, false] rfl rfl rfl (by kernel_rfl) (PQ.then (PQ.blk (PQ.then (PQ.then (PQ.blk (PQ.then PQ.body)))))) rfl (fun w => run_move rfl) ?_
   refine WD.pure (i := 1) dcrash_spec_t12 #[true, true, false, false, false, false, false, false, false, false, false, false, false, false, false, false, false, false, false, false] rfl rfl rfl (by kernel_rfl) (PQ.then (PQ.blk (PQ.then (PQ.then (PQ.blk (PQ.then PQ.body)))))) rfl (fun w => run_nilCheck rfl) ?_
   refine WD.pure (i := 2) dcrash_spec_t12 #[true, true, true, false, false, false, false, false, false, false, false, false, false, false, false, false, false, false, false, false] rfl rfl rfl (by kernel_rfl) (PQ.then (PQ.blk (PQ.then (PQ.then (PQ.blk (PQ.then PQ.body)))))) rfl (fun w => run_fieldAddr (q := ⟨q, 1, none⟩) (show fieldB Tryd.prog 106 1 = some 1 from by kernel_rfl) rfl rfl) ?_
   refine WD.take (i := 3) dcrash_spec_t12 #[true, true, true, true, false, false, false, false, false, false, false, false, false, false, false, false, false, false, false, false] s21 rfl rfl rfl (by kernel_rfl) (PQ.then (PQ.blk (PQ.then (PQ.then (PQ.blk (PQ.then PQ.body)))))) rfl (fun w hs => run_load Ty.ag3 rfl ((hs 1).trans rfl)) ?_
   refine WD.pure (i := 4) dcrash_spec_t12 #[true, true, true, true, true, false, false, false, false, false, false, false, false, false, false, false, false, false, false, false] rfl rfl rfl (by kernel_rfl) (PQ.then (PQ.blk (PQ.then (PQ.then (PQ.blk (PQ.then PQ.body)))))) rfl (fun w => run_move rfl) ?_
   refine WD.pure (i := 5) dcrash_spec_t12 #[true, true, true, true, true, true, false, false, false, false, false, false, false, false, false, false, false, false, false, false] rfl rfl rfl (by kernel_rfl) (PQ.then (PQ.blk (PQ.then (PQ.then (PQ.blk (PQ.then PQ.body)))))) rfl (fun w => run_move rfl) ?_
   refine WD.pure (i := 6) dcrash_spec_t12 #[true, true, true, true, true, true, true, false, false, false, false, false, false, false, false, false, false, false, false, false] rfl rfl rfl (by kernel_rfl) (PQ.then (PQ.blk (PQ.then (PQ.then (PQ.blk (PQ.then PQ.body)))))) rfl (fun w => run_nilCheck rfl) ?_
   refine WD.pure (i := 7) dcrash_spec_t12 #[true, true, true, true, true, true, true, true, false, false, false, false, false, false, false, false, false, false, false, false] rfl rfl rfl (by kernel_rfl) (PQ.then (PQ.blk (PQ.then (PQ.then (PQ.blk (PQ.then PQ.body)))))) rfl (fun w => run_fieldAddr (q := ⟨q, 0, none⟩) (show fieldB Tryd.prog 106 0 = some 0 from by kernel_rfl) rfl rfl) ?_
   refine WD.take (i := 8) dcrash_spec_t12 #[true, true, true, true, true, true, true, true, true, false, false, false, false, false, false, false, false, false, false, false] s21 rfl rfl rfl (by kernel_rfl) (PQ.then (PQ.blk (PQ.then (PQ.then (PQ.blk (PQ.then PQ.body)))))) rfl (fun w hs => run_load Ty.ag9 rfl ((hs 0).trans rfl)) ?_
   refine WD.pure (i := 9) dcrash_spec_t12 #[true, true, true, true, true, true, true, true, true, true, false, false, false, false, false, false, false, false, false, false] rfl rfl rfl (by kernel_rfl) (PQ.then (PQ.blk (PQ.then (PQ.then (PQ.blk (PQ.then PQ.body)))))) rfl (fun w => run_lenS rfl Tryd.underlying9 rfl) ?_
   refine WD.pure (i := 10) dcrash_spec_t12 #[true, true, true, true, true, true, true, true, true, true, true, false, false, false, false, false, false, false, false, false] rfl rfl rfl (by kernel_rfl) (PQ.then (PQ.blk (PQ.then (PQ.then (PQ.blk (PQ.then PQ.body)))))) rfl (fun w => run_move rfl) ?_
   refine WD.pure (i := 11) dcrash_spec_t12 #[true, true, true, true, true, true, true, true, true, true, true, true, false, false, false, false, false, false, false, false] rfl rfl rfl (by kernel_rfl) (PQ.then (PQ.blk (PQ.then (PQ.then (PQ.blk (PQ.then PQ.body)))))) rfl (fun w => run_nilCheck rfl) ?_
   refine WD.pure (i := 12) dcrash_spec_t12 #[true, true, true, true, true, true, true, true, true, true, true, true, true, false, false, false, false, false, false, false] rfl rfl rfl (by kernel_rfl) (PQ.then (PQ.blk (PQ.then (PQ.then (PQ.blk (PQ.then PQ.body)))))) rfl (fun w => run_fieldAddr (q := ⟨q, 1, none⟩) (show fieldB Tryd.prog 106 1 = some 1 from by kernel_rfl) rfl rfl) ?_
   refine WD.take (i := 13) dcrash_spec_t12 #[true, true, true, true, true, true, true, true, true, true, true, true, true, true, false, false, false, false, false, false] s21 rfl rfl rfl (by kernel_rfl) (PQ.then (PQ.blk (PQ.then (PQ.then (PQ.blk (PQ.then PQ.body)))))) rfl (fun w hs => run_load Ty.ag3 rfl ((hs 1).trans rfl)) ?_
   refine WD.pure (i := 14) dcrash_spec_t12 #[true, true, true, true, true, true, true, true, true, true, true, true, true, true, true, false, false, false, false, false] rfl rfl rfl (by kernel_rfl) (PQ.then (PQ.blk (PQ.then (PQ.then (PQ.blk (PQ.then PQ.body)))))) rfl (fun w => run_sub rfl rfl (show IntKind.i64.wrap (((fileAt f e.2).1.length : Int) - ((fileAt f e.2).2 : Int)) = ((((fileAt f e.2).1.length - (fileAt f e.2).2) : Nat) : Int) by rw [IntWalk.i64_in _ (by omega)]; omega)) ?_
   refine WD.one (i := 15) dcrash_spec_t12 #[true, true, true, true, true, true, true, true, true, true, true, true, true, true, true, true, false, false, false, false] rfl (by kernel_rfl) ?_
   have hS22 := hS20.permT [4, 4, 0, 0, 0, 0, 0, 0, 0, 0] (L' := cel g2 [Value.slice a ((zs.drop (j + 1)).length) c] 50 :: X :: cel q [str ((fileAt f e.2).1), Value.int .i64 ((fileAt f e.2).2 : Int)] 106 :: filesBut e.2 dx.gs f :: own a3 KS.length c3 9 1 (KS.map str) :: mpS dx.r2 es :: cel g [Value.int .i64 D.room, Value.map (some dx.r1), Value.map (some dx.r2), Value.slice dx.a dx.vs.length dx.cap, Value.bool D.dead, Value.int .i64 D.left] 103 :: mpS dx.r1 dx.e1 :: own dx.a dx.vs.length dx.cap 108 1 dx.vs :: chsA dx.gs D.ch dx.vs :: L) rfl
   clear hS20
   refine WO.callV (us := []) (cs := [Value.pointer (some ⟨g2, 0, none⟩)]) rfl rfl Ty.hd63 rfl (dnext_spec hXj hcj (by rw [List.length_drop]; omega) ((fileAt f e.2).1.length - (fileAt f e.2).2) (by omega) hS22) (fun v24 w23 pv24 => ?_)
   obtain ⟨a4, c4, hv4, hX4, hc4, hS23⟩ := pv24
   clear hS22
   rw [List.drop_drop] at hX4 hc4
   rw [keptF_drop] at hv4
   rw [← hkq] at hv4
   subst hv4
   rw [List.drop_drop] at hS23
   replace hS23 : St B (cel g2 [Value.slice a4 ((zs.drop (j + 1 + 1)).length) c4] 50 :: X :: cel q [str ((fileAt f e.2).1), Value.int .i64 ((fileAt f e.2).2 : Int)] 106 :: filesBut e.2 dx.gs f :: own a3 KS.length c3 9 1 (KS.map str) :: mpS dx.r2 es :: cel g [Value.int .i64 D.room, Value.map (some dx.r1), Value.map (some dx.r2), Value.slice dx.a dx.vs.length dx.cap, Value.bool D.dead, Value.int .i64 D.left] 103 :: mpS dx.r1 dx.e1 :: own dx.a dx.vs.length dx.cap 108 1 dx.vs :: chsA dx.gs D.ch dx.vs :: L) w23 := hS23
   refine WO.nil ?_
   have s25 : (∀ j, World.cell? w23 ⟨q, j, none⟩ = [str ((fileAt f e.2).1), Value.int .i64 ((fileAt f e.2).2 : Int)][j]?) := hS23.cel_at 2 rfl
   refine NX.held s25 ?_
   refine WD.pure (i := 16) dcrash_spec_t12 #[true, true, true, true, true, true, true, true, true, true, true, true, true, true, true, true, true, false, false, false] rfl rfl rfl (by kernel_rfl) (PQ.then (PQ.blk (PQ.then (PQ.then (PQ.blk (PQ.then PQ.body)))))) rfl (fun w => run_add rfl rfl (show IntKind.i64.wrap (((fileAt f e.2).2 : Int) + (kq : Int)) = (((fileAt f e.2).2 + kq : Nat) : Int) by rw [IntWalk.i64_in _ (by omega)]; omega)) ?_
   refine WD.pure (i := 17) dcrash_spec_t12 #[true, true, true, true, true, true, true, true, true, true, true, true, true, true, true, true, true, true, false, false] rfl rfl rfl (by kernel_rfl) (PQ.then (PQ.blk (PQ.then (PQ.then (PQ.blk (PQ.then PQ.body)))))) rfl (fun w => run_nilCheck rfl) ?_
   refine WD.pure (i := 18) dcrash_spec_t12 #[true, true, true, true, true, true, true, true, true, true, true, true, true, true, true, true, true, true, true, false] rfl rfl rfl (by kernel_rfl) (PQ.then (PQ.blk (PQ.then (PQ.then (PQ.blk (PQ.then PQ.body)))))) rfl (fun w => run_fieldAddr (q := ⟨q, 1, none⟩) (show fieldB Tryd.prog 106 1 = some 1 from by kernel_rfl) rfl rfl) ?_
   refine WD.one (i := 19) dcrash_spec_t12 #[true, true, true, true, true, true, true, true, true, true, true, true, true, true, true, true, true, true, true, true] rfl (by kernel_rfl) ?_
   refine WO.store (l' := [str ((fileAt f e.2).1), Value.int .i64 (((fileAt f e.2).2 + kq : Nat) : Int)]) 2 hS23 rfl Ty.sz3 rfl rfl rfl rfl rfl (Nat.le_of_ble_eq_true rfl) rfl (fun w26 (hS26 : St B (cel g2 [Value.slice a4 ((zs.drop (j + 1 + 1)).length) c4] 50 :: X :: cel q [str ((fileAt f e.2).1), Value.int .i64 (((fileAt f e.2).2 + kq : Nat) : Int)] 106 :: filesBut e.2 dx.gs f :: own a3 KS.length c3 9 1 (KS.map str) :: mpS dx.r2 es :: cel g [Value.int .i64 D.room, Value.map (some dx.r1), Value.map (some dx.r2), Value.slice dx.a dx.vs.length dx.cap, Value.bool D.dead, Value.int .i64 D.left] 103 :: mpS dx.r1 dx.e1 :: own dx.a dx.vs.length dx.cap 108 1 dx.vs :: chsA dx.gs D.ch dx.vs :: L) w26) => ?_)
   clear hS23
   refine WO.nil ?_
   refine NX.last (by decide) ?_
   refine WD.done dcrash_spec_t12 (by kernel_rfl) ?_
   refine NX.go ?_
   refine WD.start (fun w => (∀ j, World.cell? w ⟨q, j, none⟩ = [str ((fileAt f e.2).1), Value.int .i64 (((fileAt f e.2).2 + kq : Nat) : Int)][j]?)) [12] #[false, false, false, false, false, false, false, false, false, false, false, false, false] Ty.mo rfl (by kernel_rfl) hS26 (fun _ h => h.cel_at 2 rfl) (fun w27 hS27 s28 => ?_)
   clear hS26
   refine WD.pure (i := 0) dcrash_spec_t13 #[true, false, false, false, false, false, false, false, false, false, false, false, false] rfl rfl rfl (by kernel_rfl) (PQ.blk (PQ.then (PQ.then (PQ.blk (PQ.then PQ.body))))) rfl (fun w => run_move rfl) ?_
   refine WD.pure (i := 1) dcrash_spec_t13 #[true, true, false, false, false, false, false, false, false, false, false, false, false] rfl rfl rfl (by kernel_rfl) (PQ.blk (PQ.then (PQ.then (PQ.blk (PQ.then PQ.body))))) rfl (fun w => run_move rfl) ?_
   refine WD.pure (i := 2) dcrash_spec_t13 #[true, true, true, false, false, false, false, false, false, false, false, false, false] rfl rfl rfl (by kernel_rfl) (PQ.blk (PQ.then (PQ.then (PQ.blk (PQ.then PQ.body))))) rfl (fun w => run_nilCheck rfl) ?_
   refine WD.pure (i := 3) dcrash_spec_t13 #[true, true, true, true, false, false, false, false, false, false, false, false, false] rfl rfl rfl (by kernel_rfl) (PQ.blk (PQ.then (PQ.then (PQ.blk (PQ.then PQ.body))))) rfl (fun w => run_fieldAddr (q := ⟨q, 0, none⟩) (show fieldB Tryd.prog 106 0 = some 0 from by kernel_rfl) rfl rfl) ?_
   refine WD.take (i := 4) dcrash_spec_t13 #[true, true, true, true, true, false, false, false, false, false, false, false, false] s28 rfl rfl rfl (by kernel_rfl) (PQ.blk (PQ.then (PQ.then (PQ.blk (PQ.then PQ.body))))) rfl (fun w hs => run_load Ty.ag9 rfl ((hs 0).trans rfl)) ?_
   refine WD.pure (i := 5) dcrash_spec_t13 #[true, true, true, true, true, true, false, false, false, false, false, false, false] rfl rfl rfl (by kernel_rfl) (PQ.blk (PQ.then (PQ.then (PQ.blk (PQ.then PQ.body))))) rfl (fun w => run_move rfl) ?_
   refine WD.pure (i := 6) dcrash_spec_t13 #[true, true, true, true, true, true, true, false, false, false, false, false, false] rfl rfl rfl (by kernel_rfl) (PQ.blk (PQ.then (PQ.then (PQ.blk (PQ.then PQ.body))))) rfl (fun w => run_nilCheck rfl) ?_
   refine WD.pure (i := 7) dcrash_spec_t13 #[true, true, true, true, true, true, true, true, false, false, false, false, false] rfl rfl rfl (by kernel_rfl) (PQ.blk (PQ.then (PQ.then (PQ.blk (PQ.then PQ.body))))) rfl (fun w => run_fieldAddr (q := ⟨q, 1, none⟩) (show fieldB Tryd.prog 106 1 = some 1 from by kernel_rfl) rfl rfl) ?_
   refine WD.take (i := 8) dcrash_spec_t13 #[true, true, true, true, true, true, true, true, true, false, false, false, false] s28 rfl rfl rfl (by kernel_rfl) (PQ.blk (PQ.then (PQ.then (PQ.blk (PQ.then PQ.body))))) rfl (fun w hs => run_load Ty.ag3 rfl ((hs 1).trans rfl)) ?_
   refine WD.pure (i := 9) dcrash_spec_t13 #[true, true, true, true, true, true, true, true, true, true, false, false, false] rfl rfl rfl (by kernel_rfl) (PQ.blk (PQ.then (PQ.then (PQ.blk (PQ.then PQ.body))))) rfl (fun w => run_sliceS (i := 0) (j := (fileAt f e.2).2 + kq) Tryd.underlying9 rfl rfl ⟨_, rfl⟩ (Nat.zero_le _) (by omega) (List.drop_zero)) ?_
   refine WD.pure (i := 10) dcrash_spec_t13 #[true, true, true, true, true, true, true, true, true, true, true, false, false] rfl rfl rfl (by kernel_rfl) (PQ.blk (PQ.then (PQ.then (PQ.blk (PQ.then PQ.body))))) rfl (fun w => run_nilCheck rfl) ?_
   refine WD.pure (i := 11) dcrash_spec_t13 #[true, true, true, true, true, true, true, true, true, true, true, true, false] rfl rfl rfl (by kernel_rfl) (PQ.blk (PQ.then (PQ.then (PQ.blk (PQ.then PQ.body))))) rfl (fun w => run_fieldAddr (q := ⟨q, 0, none⟩) (show fieldB Tryd.prog 106 0 = some 0 from by kernel_rfl) rfl rfl) ?_
   refine WD.one (i := 12) dcrash_spec_t13 #[true, true, true, true, true, true, true, true, true, true, true, true, true] rfl (by kernel_rfl) ?_
   refine WO.store (l' := [str (((fileAt f e.2).1).take ((fileAt f e.2).2 + kq)), Value.int .i64 (((fileAt f e.2).2 + kq : Nat) : Int)]) 2 hS27 rfl Ty.sz9 rfl rfl rfl rfl rfl (Nat.le_of_ble_eq_true rfl) rfl (fun w29 (hS29 : St B (cel g2 [Value.slice a4 ((zs.drop (j + 1 + 1)).length) c4] 50 :: X :: cel q [str (((fileAt f e.2).1).take ((fileAt f e.2).2 + kq)), Value.int .i64 (((fileAt f e.2).2 + kq : Nat) : Int)] 106 :: filesBut e.2 dx.gs f :: own a3 KS.length c3 9 1 (KS.map str) :: mpS dx.r2 es :: cel g [Value.int .i64 D.room, Value.map (some dx.r1), Value.map (some dx.r2), Value.slice dx.a dx.vs.length dx.cap, Value.bool D.dead, Value.int .i64 D.left] 103 :: mpS dx.r1 dx.e1 :: own dx.a dx.vs.length dx.cap 108 1 dx.vs :: chsA dx.gs D.ch dx.vs :: L) w29) => ?_)
   clear hS27
   refine WO.nil ?_
   refine NX.last (by decide) ?_
   refine WD.done dcrash_spec_t13 (by kernel_rfl) ?_
   refine NX.blk ?_
   refine NX.go ?_
   refine WP.region rfl ?_
   refine WO.val (run_add rfl rfl (IntWalk.i64_in _ (by omega))) rfl rfl rfl ?_
   refine WO.val (run_move rfl) rfl rfl rfl ?_
   refine WO.nil ?_
   have hS30 : St B (filesA dx.gs (cutOne f zs (j + 1) e.2) :: cel g2 [Value.slice a4 ((zs.drop (j + 1 + 1)).length) c4] 50 :: X :: own a3 KS.length c3 9 1 (KS.map str) :: mpS dx.r2 es :: cel g [Value.int .i64 D.room, Value.map (some dx.r1), Value.map (some dx.r2), Value.slice dx.a dx.vs.length dx.cap, Value.bool D.dead, Value.int .i64 D.left] 103 :: mpS dx.r1 dx.e1 :: own dx.a dx.vs.length dx.cap 108 1 dx.vs :: chsA dx.gs D.ch dx.vs :: L) w29 := filesA_back (y := (cutF zs (j + 1) (fileAt f e.2))) (by rw [← hq]; first | exact (hS29.permT [2, 2, 0, 0, 0, 0, 0, 0, 0, 0] (L' := cel q [str (((fileAt f e.2).1).take ((fileAt f e.2).2 + kq)), Value.int .i64 (((fileAt f e.2).2 + kq : Nat) : Int)] 106 :: filesBut e.2 dx.gs f :: cel g2 [Value.slice a4 ((zs.drop (j + 1 + 1)).length) c4] 50 :: X :: own a3 KS.length c3 9 1 (KS.map str) :: mpS dx.r2 es :: cel g [Value.int .i64 D.room, Value.map (some dx.r1), Value.map (some dx.r2), Value.slice dx.a dx.vs.length dx.cap, Value.bool D.dead, Value.int .i64 D.left] 103 :: mpS dx.r1 dx.e1 :: own dx.a dx.vs.length dx.cap 108 1 dx.vs :: chsA dx.gs D.ch dx.vs :: L) rfl) | (unfold cutF; rw [← hkq]; exact (hS29.permT [2, 2, 0, 0, 0, 0, 0, 0, 0, 0] (L' := cel q [str (((fileAt f e.2).1).take ((fileAt f e.2).2 + kq)), Value.int .i64 (((fileAt f e.2).2 + kq : Nat) : Int)] 106 :: filesBut e.2 dx.gs f :: cel g2 [Value.slice a4 ((zs.drop (j + 1 + 1)).length) c4] 50 :: X :: own a3 KS.length c3 9 1 (KS.map str) :: mpS dx.r2 es :: cel g [Value.int .i64 D.room, Value.map (some dx.r1), Value.map (some dx.r2), Value.slice dx.a dx.vs.length dx.cap, Value.bool D.dead, Value.int .i64 D.left] 103 :: mpS dx.r1 dx.e1 :: own dx.a dx.vs.length dx.cap 108 1 dx.vs :: chsA dx.gs D.ch dx.vs :: L) rfl)))
   exact NX.again (j + 1, cutOne f zs (j + 1) e.2, a4, c4) ⟨⟨by omega, by rw [← hcr, crashF_step he0], by rw [← hfl]; exact List.length_set, (cut_ok hlt hfx hft).1, (cut_ok hlt hfx hft).2, hX4, hc4⟩, (hS30.permT [3, 3, 1, 1, 1, 1, 1, 1, 0] (L' := own a3 KS.length c3 9 1 (KS.map str) :: mpS dx.r2 es :: cel g2 [Value.slice a4 ((zs.drop (j + 1 + 1)).length) c4] 50 :: X :: cel g [Value.int .i64 D.room, Value.map (some dx.r1), Value.map (some dx.r2), Value.slice dx.a dx.vs.length dx.cap, Value.bool D.dead, Value.int .i64 D.left] 103 :: mpS dx.r1 dx.e1 :: own dx.a dx.vs.length dx.cap 108 1 dx.vs :: chsA dx.gs D.ch dx.vs :: filesA dx.gs (cutOne f zs (j + 1) e.2) :: L) rfl)⟩ (by show (applyL D.last (D.ch.take (keptF zs 0 D.ch.length))).length - (j + 1) < (applyL D.last (D.ch.take (keptF zs 0 D.ch.length))).length - j; omega) (Sub.cons rfl (Sub.cons rfl (Sub.cons rfl (Sub.cons rfl (Sub.cons rfl (Sub.cons rfl (Sub.consE rfl (by congr 1) (Sub.nil _))))))))
  ·
   refine WP.exit ?_
   refine NX.thenExit ?_
   refine NX.thenExit ?_
   refine NX.blkExit ?_
   refine NX.go ?_
   refine WD.start (fun w => (∀ j, World.cell? w ⟨g, j, none⟩ = [Value.int .i64 D.room, Value.map (some dx.r1), Value.map (some dx.r2), Value.slice dx.a dx.vs.length dx.cap, Value.bool D.dead, Value.int .i64 D.left][j]?)) [10] #[false, false, false, false, false, false, false, false, false, false, false] Ty.mo rfl (by kernel_rfl) hS18 (fun _ h => h.cel_at 4 rfl) (fun w31 hS31 s32 => ?_)
   clear hS18
   refine WD.pure (i := 0) dcrash_spec_t15 #[true, false, false, false, false, false, false, false, false, false, false] rfl rfl rfl (by kernel_rfl) PQ.body rfl (fun w => run_move rfl) ?_
   refine WD.pure (i := 1) dcrash_spec_t15 #[true, true, false, false, false, false, false, false, false, false, false] rfl rfl rfl (by kernel_rfl) PQ.body rfl (fun w => run_move rfl) ?_
   refine WD.pure (i := 2) dcrash_spec_t15 #[true, true, true, false, false, false, false, false, false, false, false] rfl rfl rfl (by kernel_rfl) PQ.body rfl (fun w => run_nilCheck rfl) ?_
   refine WD.pure (i := 3) dcrash_spec_t15 #[true, true, true, true, false, false, false, false, false, false, false] rfl rfl rfl (by kernel_rfl) PQ.body rfl (fun w => run_fieldAddr (q := ⟨g, 0, none⟩) (show fieldB Tryd.prog 103 0 = some 0 from by kernel_rfl) rfl rfl) ?_
   refine WD.take (i := 4) dcrash_spec_t15 #[true, true, true, true, true, false, false, false, false, false, false] s32 rfl rfl rfl (by kernel_rfl) PQ.body rfl (fun w hs => run_load Ty.ag3 rfl ((hs 0).trans rfl)) ?_
   refine WD.pure (i := 5) dcrash_spec_t15 #[true, true, true, true, true, true, false, false, false, false, false] rfl rfl rfl (by kernel_rfl) PQ.body rfl (fun w => run_move rfl) ?_
   refine WD.pure (i := 6) dcrash_spec_t15 #[true, true, true, true, true, true, true, false, false, false, false] rfl rfl rfl (by kernel_rfl) PQ.body rfl (fun w => run_move rfl) ?_
   refine WD.one (i := 7) dcrash_spec_t15 #[true, true, true, true, true, true, true, true, false, false, false] rfl (by kernel_rfl) ?_
   have hS33 := hS31.permT [1, 0, 0, 0, 0, 0, 0, 0, 0] (L' := mpS dx.r2 es :: own a3 KS.length c3 9 1 (KS.map str) :: cel g2 [Value.slice a ((zs.drop (j + 1)).length) c] 50 :: X :: cel g [Value.int .i64 D.room, Value.map (some dx.r1), Value.map (some dx.r2), Value.slice dx.a dx.vs.length dx.cap, Value.bool D.dead, Value.int .i64 D.left] 103 :: mpS dx.r1 dx.e1 :: own dx.a dx.vs.length dx.cap 108 1 dx.vs :: chsA dx.gs D.ch dx.vs :: filesA dx.gs f :: L) rfl
   clear hS31
   refine WO.call rfl rfl Ty.hd66 rfl (clone66_spec hS33) (fun v35 w34 pv35 => ?_)
   obtain ⟨r3, rfl, hS34⟩ := pv35
   clear hS33
   refine WO.nil ?_
   have s36 : (∀ j, World.cell? w34 ⟨g, j, none⟩ = [Value.int .i64 D.room, Value.map (some dx.r1), Value.map (some dx.r2), Value.slice dx.a dx.vs.length dx.cap, Value.bool D.dead, Value.int .i64 D.left][j]?) := hS34.cel_at 5 rfl
   refine NX.held s36 ?_
   refine WD.pure (i := 8) dcrash_spec_t15 #[true, true, true, true, true, true, true, true, true, false, false] rfl rfl rfl (by kernel_rfl) PQ.body rfl (fun w => run_build (v := Value.agg #[Value.int .i64 D.room, Value.map (some dx.r2), Value.map (some r3), Value.slice none 0 0, Value.bool false, Value.int .i64 (-1)]) rfl (fun w => by kernel_rfl)) ?_
   refine WD.pure (i := 9) dcrash_spec_t15 #[true, true, true, true, true, true, true, true, true, true, false] rfl rfl rfl (by kernel_rfl) PQ.body rfl (fun w => run_nilCheck rfl) ?_
   refine WD.one (i := 10) dcrash_spec_t15 #[true, true, true, true, true, true, true, true, true, true, true] rfl (by kernel_rfl) ?_
   refine WO.store (l' := [Value.int .i64 D.room, Value.map (some dx.r2), Value.map (some r3), Value.slice none 0 0, Value.bool false, Value.int .i64 (-1)]) 5 hS34 rfl Ty.sz103 rfl rfl rfl rfl rfl (Nat.le_of_ble_eq_true rfl) rfl (fun w37 (hS37 : St B (mpS r3 es :: mpS dx.r2 es :: own a3 KS.length c3 9 1 (KS.map str) :: cel g2 [Value.slice a ((zs.drop (j + 1)).length) c] 50 :: X :: cel g [Value.int .i64 D.room, Value.map (some dx.r2), Value.map (some r3), Value.slice none 0 0, Value.bool false, Value.int .i64 (-1)] 103 :: mpS dx.r1 dx.e1 :: own dx.a dx.vs.length dx.cap 108 1 dx.vs :: chsA dx.gs D.ch dx.vs :: filesA dx.gs f :: L) w37) => ?_)
   clear hS34
   refine WO.nil ?_
   refine NX.last (by decide) ?_
   refine WD.done dcrash_spec_t15 (by kernel_rfl) ?_
   have hcf : f = crashF zs 1 (applyL D.last (D.ch.take (keptF zs 0 D.ch.length))) D.f := by rw [← hcr, List.drop_of_length_le (by omega)]; rfl
   rw [hcf] at hS37
   have hn1 := (hS37.addPure (p := True) trivial).own_nil 108 1
   refine NX.ended (l := []) rfl rfl ?_
   exact ⟨rfl, St.dk_shut (dx := ⟨dx.gs, dx.r2, es, r3, es, none, 0, []⟩) (D := crashD D zs) ⟨by show dx.gs.length = (crashF zs 1 (applyL D.last (D.ch.take (keptF zs 0 D.ch.length))) D.f).length; rw [crashF_len]; exact ok.g, hes, hes, rfl⟩ ((hn1.permT [4, 4, 6, 6, 6, 5, 3, 2, 0, 0, 1, 0] (L' := own a3 KS.length c3 9 1 (KS.map str) :: cel g2 [Value.slice a ((zs.drop (j + 1)).length) c] 50 :: mpS dx.r1 dx.e1 :: own dx.a dx.vs.length dx.cap 108 1 dx.vs :: chsA dx.gs D.ch dx.vs :: cel g [Value.int .i64 D.room, Value.map (some dx.r2), Value.map (some r3), Value.slice none 0 0, Value.bool false, Value.int .i64 (-1)] 103 :: mpS dx.r2 es :: mpS r3 es :: own none 0 0 108 1 [] :: .pure True :: filesA dx.gs (crashF zs 1 (applyL D.last (D.ch.take (keptF zs 0 D.ch.length))) D.f) :: X :: L) rfl).drop.drop.drop.drop.drop)⟩
end Go.Proofs.YtcehlnpbdffdhaaDoor.SL
