/- Manifests: the bytes: the reference. -/
import Derived.Test.YtcehlnpbdffdhaaGreatDoorKw2
namespace Go.Proofs.YtcehlnpbdffdhaaGreatDoor.SL
open Go.RowKit Go.Proofs.YtcehlnpbdffdhaaGreatDoor
open Go.Proofs.YtcehlnpbdffdhaaGreatDoorW.PrintLast (rtab opsOf)
set_option linter.unusedVariables false
set_option linter.unusedSimpArgs false

theorem checkM_zero {m : Man} (h : ¬ ¬ checkM m = 0) : inM m.e ∧ inM m.b ∧ inM m.p ∧ inM m.c ∧ m.bl.length ≤ 16 ∧ (∀ t ∈ m.bl, t.length ≤ 32) ∧ ¬ m.e = 0 ∧ ¬ m.p < m.e := by
  replace h := Decidable.of_not_not h
  unfold checkM at h
  split at h
  · cases h
  · rename_i h1
    obtain ⟨i1, i2, i3, i4, i5⟩ := Decidable.of_not_not h1
    split at h
    · cases h
    · rename_i h2
      split at h
      · cases h
      · split at h
        · rename_i h3 h4
          exact ⟨i1, i2, i3, i4, by omega, fun t ht => (of_decide_eq_true (List.all_eq_true.1 h4 t ht)).2.1, i5, h2⟩
        · cases h
/-- A manifest's numbers as bytes. -/
def numsM (m : Man) : List UInt8 := numB m.e.toNat ++ numB m.b.toNat ++ numB m.p.toNat ++ numB (zig m.k) ++ numB m.c.toNat ++ numB m.bl.length
theorem dataM_nums (m : Man) : dataM m = numsM m ++ m.bl.flatMap textB := by unfold dataM numsM; simp only [List.append_assoc]
theorem u64_toNat {n : Int} (h : inM n) : IntKind.u64.wrap n = ((n.toNat : Nat) : Int) := by unfold inM at h; rw [IntWalk.u64_in _ (by omega)]; omega
theorem flat_next {l : List (List UInt8)} {i : Nat} {t : List UInt8} (h : l[i]? = some t) : (l.take (i + 1)).flatMap textB = (l.take i).flatMap textB ++ textB t := by
  rw [List.take_add_one, h, Option.toList_some, List.flatMap_append]; simp
theorem textB_le {t : List UInt8} (h : t.length ≤ 140737488355328) : (textB t).length ≤ t.length + 9 := by
  have := numB_len (show t.length < 18446744073709551616 by omega)
  unfold textB; rw [List.length_append]; omega
theorem rencM_spec_t4 : rtab .any (opsOf Tryz.f69 4) = (true, [([], []), ([0], [0]), ([1], [1]), ([2], [2]), ([], []), ([4], [4]), ([5], [5]), ([6, 3], [6]), ([3, 7], [3, 7]), ([], []), ([9], [9]), ([10], [10]), ([11, 7], [11]), ([8, 12], [8, 12]), ([], []), ([14], [14]), ([15, 12], [15]), ([13, 16], [13, 16]), ([], []), ([18], [18]), ([19], [19]), ([20, 16], [20]), ([17, 21], [17, 21]), ([], []), ([23], [23]), ([24], [24]), ([25], [25]), ([26, 21], [26]), ([22, 27], [22, 27]), ([28, 27, 0, 1, 2, 3, 4, 5, 6, 7, 8, 9, 10, 11, 12, 13, 14, 15, 16, 17, 18, 19, 20, 21, 22, 23, 24, 25, 26, 27, 28], [28])]) := by kernel_rfl
theorem rencM_spec {B w : World} {L : List HP} {X : HP} {a : Option Addr} {cap : Nat} {m : Man} (hX : ∀ {L : List HP} {w : World}, St B (X :: L) w → Rd w a m.bl.length 1 (m.bl.map str)) (hr : RngM m) (hS : St B (X :: L) w) : Does Tryz.prog 69 [Value.agg #[Value.int .i64 m.e, Value.int .i64 m.b, Value.int .i64 m.p, Value.int .i64 m.k, Value.int .i64 m.c, Value.slice a m.bl.length cap]] w (fun v w1 => v = .tuple #[str (encM m).1, .int .i64 (encM m).2] ∧ St B (X :: L) w1) := by
 refine enter (n := 61) Tryz.func69 rfl rfl [Value.agg #[Value.int .i64 m.e, Value.int .i64 m.b, Value.int .i64 m.p, Value.int .i64 m.k, Value.int .i64 m.c, Value.slice a m.bl.length cap]] rfl ?_
 refine WP.seq ?_
 refine WP.region rfl ?_
 refine WO.box (l := [Value.int .i64 m.e, Value.int .i64 m.b, Value.int .i64 m.p, Value.int .i64 m.k, Value.int .i64 m.c, Value.slice a m.bl.length cap]) hS rfl rfl rfl (fun g2 w1 lg2 hS1 => ?_)
 clear hS
 refine WO.val (run_assign rfl) rfl rfl rfl ?_
 refine WO.val (run_assign rfl) rfl rfl rfl ?_
 refine WO.nil ?_
 refine NX.go ?_
 refine WP.seq ?_
 refine WP.region rfl ?_
 refine WO.val (run_loadAgg (vs := [Value.int .i64 m.e, Value.int .i64 m.b, Value.int .i64 m.p, Value.int .i64 m.k, Value.int .i64 m.c, Value.slice a m.bl.length cap]) Ty.ag24 Ty.sz24 rfl rfl (cell_all (hS1.cel_at 0 rfl) 0 rfl)) rfl rfl rfl ?_
 have hS3 := hS1.permT [1, 0] (L' := X :: cel g2 [Value.int .i64 m.e, Value.int .i64 m.b, Value.int .i64 m.p, Value.int .i64 m.k, Value.int .i64 m.c, Value.slice a m.bl.length cap] 24 :: L) rfl
 clear hS1
 refine WO.call rfl rfl Ty.hd15 rfl (rcheckM_spec hX hr hS3) (fun v5 w4 pv5 => ?_)
 obtain ⟨rfl, hS4⟩ := pv5
 clear hS3
 refine WO.val (run_assign rfl) rfl rfl rfl ?_
 refine WO.nil ?_
 refine NX.go ?_
 refine WP.seq ?_
 refine WP.seq ?_
 refine WP.region rfl ?_
 refine WO.val (run_move rfl) rfl rfl rfl ?_
 refine WO.val (run_neq rfl rfl) rfl rfl rfl ?_
 refine WO.nil ?_
 refine NX.go ?_
 refine WP.condP rfl (fun g10 => ?_) (fun g10 => ?_)
 ·
  refine WP.seq ?_
  refine WP.region rfl ?_
  refine WO.val (run_move rfl) rfl rfl rfl ?_
  refine WO.val (run_assign rfl) rfl rfl rfl ?_
  refine WO.val (run_assign rfl) rfl rfl rfl ?_
  refine WO.nil ?_
  refine NX.go ?_
  refine WP.ret ?_
  refine NX.thenRet ?_
  refine NX.done (l := [.tmp 2, .tmp 3]) rfl rfl ?_
  exact ⟨by rw [encM, if_neg g10]; rfl, (hS4.permT [1, 0] (L' := cel g2 [Value.int .i64 m.e, Value.int .i64 m.b, Value.int .i64 m.p, Value.int .i64 m.k, Value.int .i64 m.c, Value.slice a m.bl.length cap] 24 :: X :: L) rfl).drop⟩
 ·
  refine WP.skip ?_
  refine NX.go ?_
  refine WP.seq ?_
  obtain ⟨ie, ib, ip, ic, hl16, ht32, _, _⟩ := checkM_zero g10
  have h1 : m.e.toNat ≤ 99999999 ∧ m.b.toNat ≤ 99999999 ∧ m.p.toNat ≤ 99999999 ∧ m.c.toNat ≤ 99999999 := by unfold inM at ie ib ip ic; omega
  have k1 := numB_len (n := m.e.toNat) (by omega)
  have k2 := numB_len (n := m.b.toNat) (by omega)
  have k3 := numB_len (n := m.p.toNat) (by omega)
  have k4 := numB_len (n := zig m.k) (zig_lt hr.k.1 hr.k.2)
  have k5 := numB_len (n := m.c.toNat) (by omega)
  have k6 := numB_len (n := m.bl.length) (by omega)
  refine WD.start (fun w => Rd w a m.bl.length 1 (m.bl.map str) ∧ (∀ j, World.cell? w ⟨g2, j, none⟩ = [Value.int .i64 m.e, Value.int .i64 m.b, Value.int .i64 m.p, Value.int .i64 m.k, Value.int .i64 m.c, Value.slice a m.bl.length cap][j]?)) [] #[false, false, false, false, false, false, false, false, false, false, false, false, false, false, false, false, false, false, false, false, false, false, false, false, false, false, false, false, false, false] Ty.mo rfl (by kernel_rfl) hS4 (fun _ h => ⟨(hX (h.focus 0 rfl)), h.cel_at 1 rfl⟩) (fun w6 hS6 s7 => ?_)
  clear hS4
  refine WD.pure (i := 0) rencM_spec_t4 #[true, false, false, false, false, false, false, false, false, false, false, false, false, false, false, false, false, false, false, false, false, false, false, false, false, false, false, false, false, false] rfl rfl rfl (by kernel_rfl) (PQ.then PQ.body) rfl (fun w => run_fieldAddr (q := ⟨g2, 0, none⟩) (show fieldB Tryz.prog 24 0 = some 0 from by kernel_rfl) rfl rfl) ?_
  refine WD.take (i := 1) rencM_spec_t4 #[true, true, false, false, false, false, false, false, false, false, false, false, false, false, false, false, false, false, false, false, false, false, false, false, false, false, false, false, false, false] s7 rfl rfl rfl (by kernel_rfl) (PQ.then PQ.body) rfl (fun w hs => run_load Ty.ag3 rfl ((hs.2 0).trans rfl)) ?_
  refine WD.pure (i := 2) rencM_spec_t4 #[true, true, true, false, false, false, false, false, false, false, false, false, false, false, false, false, false, false, false, false, false, false, false, false, false, false, false, false, false, false] rfl rfl rfl (by kernel_rfl) (PQ.then PQ.body) rfl (fun w => run_convI Tryz.underlying43 (by kernel_rfl) rfl (u64_toNat ie)) ?_
  refine WD.pure (i := 4) rencM_spec_t4 #[true, true, true, false, true, false, false, false, false, false, false, false, false, false, false, false, false, false, false, false, false, false, false, false, false, false, false, false, false, false] rfl rfl rfl (by kernel_rfl) (PQ.then PQ.body) rfl (fun w => run_fieldAddr (q := ⟨g2, 1, none⟩) (show fieldB Tryz.prog 24 1 = some 1 from by kernel_rfl) rfl rfl) ?_
  refine WD.take (i := 5) rencM_spec_t4 #[true, true, true, false, true, true, false, false, false, false, false, false, false, false, false, false, false, false, false, false, false, false, false, false, false, false, false, false, false, false] s7 rfl rfl rfl (by kernel_rfl) (PQ.then PQ.body) rfl (fun w hs => run_load Ty.ag3 rfl ((hs.2 1).trans rfl)) ?_
  refine WD.pure (i := 6) rencM_spec_t4 #[true, true, true, false, true, true, true, false, false, false, false, false, false, false, false, false, false, false, false, false, false, false, false, false, false, false, false, false, false, false] rfl rfl rfl (by kernel_rfl) (PQ.then PQ.body) rfl (fun w => run_convI Tryz.underlying43 (by kernel_rfl) rfl (u64_toNat ib)) ?_
  refine WD.pure (i := 9) rencM_spec_t4 #[true, true, true, false, true, true, true, false, false, true, false, false, false, false, false, false, false, false, false, false, false, false, false, false, false, false, false, false, false, false] rfl rfl rfl (by kernel_rfl) (PQ.then PQ.body) rfl (fun w => run_fieldAddr (q := ⟨g2, 2, none⟩) (show fieldB Tryz.prog 24 2 = some 2 from by kernel_rfl) rfl rfl) ?_
  refine WD.take (i := 10) rencM_spec_t4 #[true, true, true, false, true, true, true, false, false, true, true, false, false, false, false, false, false, false, false, false, false, false, false, false, false, false, false, false, false, false] s7 rfl rfl rfl (by kernel_rfl) (PQ.then PQ.body) rfl (fun w hs => run_load Ty.ag3 rfl ((hs.2 2).trans rfl)) ?_
  refine WD.pure (i := 11) rencM_spec_t4 #[true, true, true, false, true, true, true, false, false, true, true, true, false, false, false, false, false, false, false, false, false, false, false, false, false, false, false, false, false, false] rfl rfl rfl (by kernel_rfl) (PQ.then PQ.body) rfl (fun w => run_convI Tryz.underlying43 (by kernel_rfl) rfl (u64_toNat ip)) ?_
  refine WD.pure (i := 14) rencM_spec_t4 #[true, true, true, false, true, true, true, false, false, true, true, true, false, false, true, false, false, false, false, false, false, false, false, false, false, false, false, false, false, false] rfl rfl rfl (by kernel_rfl) (PQ.then PQ.body) rfl (fun w => run_fieldAddr (q := ⟨g2, 3, none⟩) (show fieldB Tryz.prog 24 3 = some 3 from by kernel_rfl) rfl rfl) ?_
  refine WD.take (i := 15) rencM_spec_t4 #[true, true, true, false, true, true, true, false, false, true, true, true, false, false, true, true, false, false, false, false, false, false, false, false, false, false, false, false, false, false] s7 rfl rfl rfl (by kernel_rfl) (PQ.then PQ.body) rfl (fun w hs => run_load Ty.ag2 rfl ((hs.2 3).trans rfl)) ?_
  refine WD.pure (i := 18) rencM_spec_t4 #[true, true, true, false, true, true, true, false, false, true, true, true, false, false, true, true, false, false, true, false, false, false, false, false, false, false, false, false, false, false] rfl rfl rfl (by kernel_rfl) (PQ.then PQ.body) rfl (fun w => run_fieldAddr (q := ⟨g2, 4, none⟩) (show fieldB Tryz.prog 24 4 = some 4 from by kernel_rfl) rfl rfl) ?_
  refine WD.take (i := 19) rencM_spec_t4 #[true, true, true, false, true, true, true, false, false, true, true, true, false, false, true, true, false, false, true, true, false, false, false, false, false, false, false, false, false, false] s7 rfl rfl rfl (by kernel_rfl) (PQ.then PQ.body) rfl (fun w hs => run_load Ty.ag3 rfl ((hs.2 4).trans rfl)) ?_
  refine WD.pure (i := 20) rencM_spec_t4 #[true, true, true, false, true, true, true, false, false, true, true, true, false, false, true, true, false, false, true, true, true, false, false, false, false, false, false, false, false, false] rfl rfl rfl (by kernel_rfl) (PQ.then PQ.body) rfl (fun w => run_convI Tryz.underlying43 (by kernel_rfl) rfl (u64_toNat ic)) ?_
  refine WD.pure (i := 23) rencM_spec_t4 #[true, true, true, false, true, true, true, false, false, true, true, true, false, false, true, true, false, false, true, true, true, false, false, true, false, false, false, false, false, false] rfl rfl rfl (by kernel_rfl) (PQ.then PQ.body) rfl (fun w => run_fieldAddr (q := ⟨g2, 5, none⟩) (show fieldB Tryz.prog 24 5 = some 5 from by kernel_rfl) rfl rfl) ?_
  refine WD.take (i := 24) rencM_spec_t4 #[true, true, true, false, true, true, true, false, false, true, true, true, false, false, true, true, false, false, true, true, true, false, false, true, true, false, false, false, false, false] s7 rfl rfl rfl (by kernel_rfl) (PQ.then PQ.body) rfl (fun w hs => run_load Ty.ag22 rfl ((hs.2 5).trans rfl)) ?_
  refine WD.pure (i := 25) rencM_spec_t4 #[true, true, true, false, true, true, true, false, false, true, true, true, false, false, true, true, false, false, true, true, true, false, false, true, true, true, false, false, false, false] rfl rfl rfl (by kernel_rfl) (PQ.then PQ.body) rfl (fun w => run_len rfl Tryz.underlying22 rfl) ?_
  refine WD.pure (i := 26) rencM_spec_t4 #[true, true, true, false, true, true, true, false, false, true, true, true, false, false, true, true, false, false, true, true, true, false, false, true, true, true, true, false, false, false] rfl rfl rfl (by kernel_rfl) (PQ.then PQ.body) rfl (fun w => run_convI Tryz.underlying43 (by kernel_rfl) rfl (IntWalk.u64_in _ (by omega))) ?_
  refine WD.one (i := 3) rencM_spec_t4 #[true, true, true, true, true, true, true, false, false, true, true, true, false, false, true, true, false, false, true, true, true, false, false, true, true, true, true, false, false, false] rfl (by kernel_rfl) ?_
  refine WO.call rfl rfl Ty.hd94 rfl (rnum_spec (m.e.toNat) (by omega) hS6) (fun v9 w8 pv9 => ?_)
  obtain ⟨rfl, hS8⟩ := pv9
  clear hS6
  refine WO.nil ?_
  have s10 : Rd w8 a m.bl.length 1 (m.bl.map str) ∧ (∀ j, World.cell? w8 ⟨g2, j, none⟩ = [Value.int .i64 m.e, Value.int .i64 m.b, Value.int .i64 m.p, Value.int .i64 m.k, Value.int .i64 m.c, Value.slice a m.bl.length cap][j]?) := ⟨(hX (hS8.focus 0 rfl)), hS8.cel_at 1 rfl⟩
  refine NX.held s10 ?_
  refine WD.one (i := 7) rencM_spec_t4 #[true, true, true, true, true, true, true, true, false, true, true, true, false, false, true, true, false, false, true, true, true, false, false, true, true, true, true, false, false, false] rfl (by kernel_rfl) ?_
  refine WO.call rfl rfl Ty.hd94 rfl (rnum_spec (m.b.toNat) (by omega) hS8) (fun v12 w11 pv12 => ?_)
  obtain ⟨rfl, hS11⟩ := pv12
  clear hS8
  refine WO.nil ?_
  have s13 : Rd w11 a m.bl.length 1 (m.bl.map str) ∧ (∀ j, World.cell? w11 ⟨g2, j, none⟩ = [Value.int .i64 m.e, Value.int .i64 m.b, Value.int .i64 m.p, Value.int .i64 m.k, Value.int .i64 m.c, Value.slice a m.bl.length cap][j]?) := ⟨(hX (hS11.focus 0 rfl)), hS11.cel_at 1 rfl⟩
  refine NX.held s13 ?_
  refine WD.pure (i := 8) rencM_spec_t4 #[true, true, true, true, true, true, true, true, true, true, true, true, false, false, true, true, false, false, true, true, true, false, false, true, true, true, true, false, false, false] rfl rfl rfl (by kernel_rfl) (PQ.then PQ.body) rfl (fun w => run_cat rfl rfl (by first | omega | (simp only [List.length_append]; omega))) ?_
  refine WD.one (i := 12) rencM_spec_t4 #[true, true, true, true, true, true, true, true, true, true, true, true, true, false, true, true, false, false, true, true, true, false, false, true, true, true, true, false, false, false] rfl (by kernel_rfl) ?_
  refine WO.call rfl rfl Ty.hd94 rfl (rnum_spec (m.p.toNat) (by omega) hS11) (fun v15 w14 pv15 => ?_)
  obtain ⟨rfl, hS14⟩ := pv15
  clear hS11
  refine WO.nil ?_
  have s16 : Rd w14 a m.bl.length 1 (m.bl.map str) ∧ (∀ j, World.cell? w14 ⟨g2, j, none⟩ = [Value.int .i64 m.e, Value.int .i64 m.b, Value.int .i64 m.p, Value.int .i64 m.k, Value.int .i64 m.c, Value.slice a m.bl.length cap][j]?) := ⟨(hX (hS14.focus 0 rfl)), hS14.cel_at 1 rfl⟩
  refine NX.held s16 ?_
  refine WD.pure (i := 13) rencM_spec_t4 #[true, true, true, true, true, true, true, true, true, true, true, true, true, true, true, true, false, false, true, true, true, false, false, true, true, true, true, false, false, false] rfl rfl rfl (by kernel_rfl) (PQ.then PQ.body) rfl (fun w => run_cat rfl rfl (by first | omega | (simp only [List.length_append]; omega))) ?_
  refine WD.one (i := 16) rencM_spec_t4 #[true, true, true, true, true, true, true, true, true, true, true, true, true, true, true, true, true, false, true, true, true, false, false, true, true, true, true, false, false, false] rfl (by kernel_rfl) ?_
  refine WO.call rfl rfl Ty.hd95 rfl (rsigned_spec m.k hr.k.1 hr.k.2 hS14) (fun v18 w17 pv18 => ?_)
  obtain ⟨rfl, hS17⟩ := pv18
  clear hS14
  refine WO.nil ?_
  have s19 : Rd w17 a m.bl.length 1 (m.bl.map str) ∧ (∀ j, World.cell? w17 ⟨g2, j, none⟩ = [Value.int .i64 m.e, Value.int .i64 m.b, Value.int .i64 m.p, Value.int .i64 m.k, Value.int .i64 m.c, Value.slice a m.bl.length cap][j]?) := ⟨(hX (hS17.focus 0 rfl)), hS17.cel_at 1 rfl⟩
  refine NX.held s19 ?_
  refine WD.pure (i := 17) rencM_spec_t4 #[true, true, true, true, true, true, true, true, true, true, true, true, true, true, true, true, true, true, true, true, true, false, false, true, true, true, true, false, false, false] rfl rfl rfl (by kernel_rfl) (PQ.then PQ.body) rfl (fun w => run_cat rfl rfl (by first | omega | (simp only [List.length_append]; omega))) ?_
  refine WD.one (i := 21) rencM_spec_t4 #[true, true, true, true, true, true, true, true, true, true, true, true, true, true, true, true, true, true, true, true, true, true, false, true, true, true, true, false, false, false] rfl (by kernel_rfl) ?_
  refine WO.call rfl rfl Ty.hd94 rfl (rnum_spec (m.c.toNat) (by omega) hS17) (fun v21 w20 pv21 => ?_)
  obtain ⟨rfl, hS20⟩ := pv21
  clear hS17
  refine WO.nil ?_
  have s22 : Rd w20 a m.bl.length 1 (m.bl.map str) ∧ (∀ j, World.cell? w20 ⟨g2, j, none⟩ = [Value.int .i64 m.e, Value.int .i64 m.b, Value.int .i64 m.p, Value.int .i64 m.k, Value.int .i64 m.c, Value.slice a m.bl.length cap][j]?) := ⟨(hX (hS20.focus 0 rfl)), hS20.cel_at 1 rfl⟩
  refine NX.held s22 ?_
  refine WD.pure (i := 22) rencM_spec_t4 #[true, true, true, true, true, true, true, true, true, true, true, true, true, true, true, true, true, true, true, true, true, true, true, true, true, true, true, false, false, false] rfl rfl rfl (by kernel_rfl) (PQ.then PQ.body) rfl (fun w => run_cat rfl rfl (by first | omega | (simp only [List.length_append]; omega))) ?_
  refine WD.one (i := 27) rencM_spec_t4 #[true, true, true, true, true, true, true, true, true, true, true, true, true, true, true, true, true, true, true, true, true, true, true, true, true, true, true, true, false, false] rfl (by kernel_rfl) ?_
  refine WO.call rfl rfl Ty.hd94 rfl (rnum_spec (m.bl.length) (by omega) hS20) (fun v24 w23 pv24 => ?_)
  obtain ⟨rfl, hS23⟩ := pv24
  clear hS20
  refine WO.nil ?_
  have s25 : Rd w23 a m.bl.length 1 (m.bl.map str) ∧ (∀ j, World.cell? w23 ⟨g2, j, none⟩ = [Value.int .i64 m.e, Value.int .i64 m.b, Value.int .i64 m.p, Value.int .i64 m.k, Value.int .i64 m.c, Value.slice a m.bl.length cap][j]?) := ⟨(hX (hS23.focus 0 rfl)), hS23.cel_at 1 rfl⟩
  refine NX.held s25 ?_
  refine WD.pure (i := 28) rencM_spec_t4 #[true, true, true, true, true, true, true, true, true, true, true, true, true, true, true, true, true, true, true, true, true, true, true, true, true, true, true, true, true, false] rfl rfl rfl (by kernel_rfl) (PQ.then PQ.body) rfl (fun w => run_cat rfl rfl (by first | omega | (simp only [List.length_append]; omega))) ?_
  refine WD.pure (i := 29) rencM_spec_t4 #[true, true, true, true, true, true, true, true, true, true, true, true, true, true, true, true, true, true, true, true, true, true, true, true, true, true, true, true, true, true] rfl rfl rfl (by kernel_rfl) (PQ.then PQ.body) rfl (fun w => run_assign rfl) ?_
  refine WD.done rencM_spec_t4 (by kernel_rfl) ?_
  refine NX.go ?_
  refine WP.seq ?_
  refine WP.seq ?_
  refine WP.region rfl ?_
  refine WO.val (run_assign rfl) rfl rfl rfl ?_
  refine WO.nil ?_
  refine NX.go ?_
  refine WP.block ?_
  refine WP.loop (α := Nat × List UInt8) (fun x => match x with | ⟨i, s⟩ => [(1, Value.pointer (some ⟨g2, 0, none⟩)), (5, str s), (6, Value.int .i64 (i : Int))]) (fun x w => match x with | ⟨i, s⟩ => (i ≤ m.bl.length ∧ s = numsM m ++ (m.bl.take i).flatMap textB ∧ s.length ≤ 60 + 50 * i) ∧ St B (X :: cel g2 [Value.int .i64 m.e, Value.int .i64 m.b, Value.int .i64 m.p, Value.int .i64 m.k, Value.int .i64 m.c, Value.slice a m.bl.length cap] 24 :: L) w) (fun x => match x with | ⟨i, s⟩ => m.bl.length - i) (0, (((((numB (m.e.toNat)) ++ (numB (m.b.toNat))) ++ (numB (m.p.toNat))) ++ (numB (zig m.k))) ++ (numB (m.c.toNat))) ++ (numB (m.bl.length))) ⟨⟨Nat.zero_le _, by unfold numsM; simp, by simp only [List.length_append]; omega⟩, hS23⟩ (Sub.cons rfl (Sub.consE rfl (by first | rfl | first | rfl | (congr 1; omega) | (simp; done) | (simp; omega)) (Sub.consE rfl (by first | rfl | first | rfl | (congr 1; omega) | (simp; done) | (simp; omega)) (Sub.nil _)))) ?_
  rintro ⟨i, s⟩ w26 ⟨⟨hi, hs, hsl⟩, hS26⟩
  clear hS23
  refine WP.seq ?_
  refine WP.seq ?_
  refine WP.region rfl ?_
  refine WO.val (run_move rfl) rfl rfl rfl ?_
  refine WO.val (run_fieldAddr (q := ⟨g2, 5, none⟩) (show fieldB Tryz.prog 24 5 = some 5 from by kernel_rfl) rfl rfl) rfl rfl rfl ?_
  refine WO.val (run_load Ty.ag22 rfl ((hS26.cel_at 1 rfl 5).trans rfl)) rfl rfl rfl ?_
  refine WO.val (run_len rfl Tryz.underlying22 rfl) rfl rfl rfl ?_
  refine WO.val (run_lss rfl rfl) rfl rfl rfl ?_
  refine WO.nil ?_
  refine NX.go ?_
  refine WP.condP rfl (fun g45 => ?_) (fun g45 => ?_)
  ·
   refine WP.skip ?_
   refine NX.go ?_
   refine WP.seq ?_
   refine WP.block ?_
   refine WP.region rfl ?_
   refine WO.val (run_move rfl) rfl rfl rfl ?_
   refine WO.val (run_fieldAddr (q := ⟨g2, 5, none⟩) (show fieldB Tryz.prog 24 5 = some 5 from by kernel_rfl) rfl rfl) rfl rfl rfl ?_
   refine WO.val (run_load Ty.ag22 rfl ((hS26.cel_at 1 rfl 5).trans rfl)) rfl rfl rfl ?_
   refine WO.val (run_move rfl) rfl rfl rfl ?_
   obtain ⟨t, ht⟩ : ∃ t, m.bl[i]? = some t := ⟨_, List.getElem?_eq_getElem (by omega)⟩
   refine WO.val (run_indexAddr (q := adr a i) Tryz.underlying22 Ty.sz9 rfl rfl (by omega) (by omega) ((hX (hS26.focus 0 rfl)).2.1 (by omega)) (by simp)) rfl rfl rfl ?_
   refine WO.val (run_load Ty.ag9 rfl ((hX (hS26.focus 0 rfl)).cell (str_at ht))) rfl rfl rfl ?_
   have htl := ht32 t (List.mem_of_getElem? ht)
   have hxl := textB_le (t := t) (by omega)
   refine WO.call rfl rfl Ty.hd96 rfl (rtext_spec t (by omega) hS26) (fun v28 w27 pv28 => ?_)
   obtain ⟨rfl, hS27⟩ := pv28
   clear hS26
   refine WO.val (run_cat rfl rfl (by omega)) rfl rfl rfl ?_
   refine WO.val (run_assign rfl) rfl rfl rfl ?_
   refine WO.nil ?_
   refine NX.blk ?_
   refine NX.go ?_
   refine WP.region rfl ?_
   refine WO.val (run_move rfl) rfl rfl rfl ?_
   refine WO.val (run_add rfl rfl (IntWalk.i64_in _ (by omega))) rfl rfl rfl ?_
   refine WO.val (run_assign rfl) rfl rfl rfl ?_
   refine WO.nil ?_
   exact NX.again (i + 1, s ++ textB t) ⟨⟨by omega, by rw [hs, flat_next ht, List.append_assoc], by rw [List.length_append]; omega⟩, hS27⟩ (by show m.bl.length - (i + 1) < m.bl.length - i; omega) (Sub.cons rfl (Sub.consE rfl rfl (Sub.consE rfl (by congr 1) (Sub.nil _))))
  ·
   refine WP.exit ?_
   refine NX.thenExit ?_
   refine NX.thenExit ?_
   refine NX.blkExit ?_
   refine NX.go ?_
   refine WP.seq ?_
   refine WP.region rfl ?_
   refine WO.val (run_move rfl) rfl rfl rfl ?_
   refine WO.val (run_build (v := Value.agg #[Value.int .i64 6, str s]) rfl (fun w => by kernel_rfl)) rfl rfl rfl ?_
   refine WO.call rfl rfl Ty.hd97 rfl (rput_spec 6 s (by decide) (by decide) (by omega) hS26) (fun v30 w29 pv30 => ?_)
   obtain ⟨rfl, hS29⟩ := pv30
   clear hS26
   refine WO.val (run_extract rfl rfl) rfl rfl rfl ?_
   refine WO.val (run_extract rfl rfl) rfl rfl rfl ?_
   refine WO.val (run_assign rfl) rfl rfl rfl ?_
   refine WO.val (run_assign rfl) rfl rfl rfl ?_
   refine WO.nil ?_
   refine NX.go ?_
   refine WP.ret ?_
   refine NX.done (l := [.tmp 2, .tmp 3]) rfl rfl ?_
   have hd : s = dataM m := by rw [hs, dataM_nums, List.take_of_length_le (by omega)]
   exact ⟨by rw [encM, if_pos (Decidable.of_not_not g10), ← hd]; rfl, (hS29.permT [1, 0] (L' := cel g2 [Value.int .i64 m.e, Value.int .i64 m.b, Value.int .i64 m.p, Value.int .i64 m.k, Value.int .i64 m.c, Value.slice a m.bl.length cap] 24 :: X :: L) rfl).drop⟩
end Go.Proofs.YtcehlnpbdffdhaaGreatDoor.SL
