/- An index: its map is laid. -/
import Derived.Test.YtogidmceomlkeaaGreatDoorKi3
namespace Go.Proofs.YtogidmceomlkeaaGreatDoor.SL
open Go.RowKit Go.Proofs.YtogidmceomlkeaaGreatDoor
open Go.Proofs.YtogidmceomlkeaaGreatDoorW.PrintLast (rtab opsOf)
set_option linter.unusedVariables false
set_option linter.unusedSimpArgs false
theorem fill_spec_t7 : rtab .any (opsOf Tryz.f23 7) = (true, [([], []), ([0], [0]), ([1], [1]), ([2], [2]), ([], []), ([3, 4], [3, 4]), ([5, 0, 1, 2, 3, 4, 5], [5])]) := by kernel_rfl
theorem fill_spec_t9 : rtab .any (opsOf Tryz.f23 9) = (true, [([], []), ([0], [0]), ([1], [1]), ([2], [2]), ([], []), ([], []), ([], []), ([6], [6]), ([5, 7], [5, 7]), ([3, 4, 8, 8, 0, 1, 2, 3, 4, 5, 6, 7, 8], [3, 4, 8])]) := by kernel_rfl
theorem fill_spec {B w : World} {L : List HP} {g : Nat} {ar : Option Addr} {cr : Nat} {R : List RowV} (hn : R.length ≤ 1000000000) (hbR : ∀ r ∈ R, r.l.length ≤ 4398046511104) (hS : St B (cel g [Value.slice ar R.length cr, Value.int .u32 0, Value.int .i32 1, Value.int .u32 0, Value.map none] 57 :: rowsP ar R :: L) w) : Does Tryz.prog 23 [Value.pointer (some ⟨g, 0, none⟩)] w (fun v w1 => v = .tuple #[] ∧ ∃ r ds, (∀ p, lstD p ds = ofF (R.map RowV.l) p) ∧ St B (cel g [Value.slice ar R.length cr, Value.int .u32 0, Value.int .i32 1, Value.int .u32 0, Value.map (some r)] 57 :: mpK encPr r (ents ds) :: ownAll ds :: rowsP ar R :: L) w1) := by
 refine enter (n := 57) Tryz.func23 rfl rfl [Value.pointer (some ⟨g, 0, none⟩)] rfl ?_
 refine WP.seq ?_
 refine WP.region rfl ?_
 refine WO.val (run_move rfl) rfl rfl rfl ?_
 refine WO.makeMapK encPr hS rfl (fun r2 w1 hS1 => ?_)
 clear hS
 refine WO.val (run_nilCheck rfl) rfl rfl rfl ?_
 refine WO.val (run_fieldAddr (q := ⟨g, 4, none⟩) (show fieldB Tryz.prog 57 2 = some 4 from by kernel_rfl) rfl rfl) rfl rfl rfl ?_
 refine WO.store (l' := [Value.slice ar R.length cr, Value.int .u32 0, Value.int .i32 1, Value.int .u32 0, Value.map (some r2)]) 1 hS1 rfl Ty.sz55 rfl rfl rfl rfl rfl (Nat.le_of_ble_eq_true rfl) rfl (fun w3 (hS3 : St B (mpK encPr r2 [] :: cel g [Value.slice ar R.length cr, Value.int .u32 0, Value.int .i32 1, Value.int .u32 0, Value.map (some r2)] 57 :: (rowsP ar R) :: L) w3) => ?_)
 clear hS1
 refine WO.nil ?_
 refine NX.go ?_
 refine WP.seq ?_
 refine WP.region rfl ?_
 refine WO.val (run_move rfl) rfl rfl rfl ?_
 refine WO.val (run_nilCheck rfl) rfl rfl rfl ?_
 refine WO.val (run_fieldAddr (q := ⟨g, 0, none⟩) (show fieldB Tryz.prog 57 0 = some 0 from by kernel_rfl) rfl rfl) rfl rfl rfl ?_
 refine WO.val (run_load Ty.ag27 rfl ((hS3.cel_at 1 rfl 0).trans rfl)) rfl rfl rfl ?_
 refine WO.val (run_len rfl Tryz.underlying27 rfl) rfl rfl rfl ?_
 refine WO.val (run_move rfl) rfl rfl rfl ?_
 refine WO.nil ?_
 refine NX.go ?_
 refine WP.block ?_
 have hq0 : St B (cel g [Value.slice ar R.length cr, Value.int .u32 0, Value.int .i32 1, Value.int .u32 0, Value.map (some r2)] 57 :: mpK encPr r2 (ents []) :: (ownAll []) :: (rowsP ar R) :: L) w3 := (((hS3.permT [1, 0, 0] (L' := cel g [Value.slice ar R.length cr, Value.int .u32 0, Value.int .i32 1, Value.int .u32 0, Value.map (some r2)] 57 :: mpK encPr r2 [] :: (rowsP ar R) :: L) rfl)).addPure (p := True) trivial).permT [1, 1, 0] rfl
 refine WP.loop (α := Nat × List DV) (fun x => match x with | ⟨i, ds⟩ => [(0, Value.pointer (some ⟨g, 0, none⟩)), (14, Value.slice ar R.length cr), (15, Value.int .i64 ((R.length : Nat) : Int)), (16, Value.int .i64 (i : Int))]) (fun x w => match x with | ⟨i, ds⟩ => (i ≤ R.length ∧ ∀ p, lstD p ds = pre R i p) ∧ St B (cel g [Value.slice ar R.length cr, Value.int .u32 0, Value.int .i32 1, Value.int .u32 0, Value.map (some r2)] 57 :: mpK encPr r2 (ents ds) :: (ownAll ds) :: (rowsP ar R) :: L) w) (fun x => match x with | ⟨i, ds⟩ => R.length - i) (0, []) ⟨⟨Nat.zero_le _, fun p => rfl⟩, hq0⟩ (Sub.cons rfl (Sub.cons rfl (Sub.cons rfl (Sub.consE rfl (by first | rfl | first | rfl | (congr 1; omega) | (simp; done) | (simp; omega)) (Sub.nil _))))) ?_
 rintro ⟨i, ds⟩ w4 ⟨⟨hi, hF⟩, hS4⟩
 clear hS3
 refine WP.seq ?_
 refine WP.region rfl ?_
 refine WO.val (run_lss rfl rfl) rfl rfl rfl ?_
 refine WO.nil ?_
 refine NX.go ?_
 refine WP.seq ?_
 refine WP.condP rfl (fun g17 => ?_) (fun g17 => ?_)
 ·
  obtain ⟨r, hr⟩ : ∃ r, R[i]? = some r := ⟨_, List.getElem?_eq_getElem (by omega)⟩
  have hrm : r ∈ R := List.mem_of_getElem? hr
  have hrl := hbR r hrm
  refine WP.skip ?_
  refine NX.go ?_
  refine WP.seq ?_
  refine WP.block ?_
  refine WP.seq ?_
  refine WP.region rfl ?_
  refine WO.val (run_move rfl) rfl rfl rfl ?_
  refine WO.val (run_indexAddr (q := adr ar i) Tryz.underlying27 Ty.sz29 rfl rfl (by omega) (by omega) (((fun h => (rowsP_rd h).1) (hS4.focus 3 rfl)).2.1 (by omega)) (by simp)) rfl rfl rfl ?_
  refine WO.val (run_load Ty.ag29 rfl (((fun h => (rowsP_rd h).1) (hS4.focus 3 rfl)).cell (row_get hr))) rfl rfl rfl ?_
  refine WO.val (run_assign rfl) rfl rfl rfl ?_
  refine WO.val (run_assign rfl) rfl rfl rfl ?_
  refine WO.nil ?_
  refine NX.go ?_
  refine WP.seq ?_
  refine WP.region rfl ?_
  refine WO.val (run_move rfl) rfl rfl rfl ?_
  refine WO.val (run_len rfl Tryz.underlying29 rfl) rfl rfl rfl ?_
  refine WO.val (run_move rfl) rfl rfl rfl ?_
  refine WO.nil ?_
  refine NX.go ?_
  refine WP.block ?_
  refine WP.loop (α := Nat × List DV) (fun x => match x with | ⟨k, ds⟩ => [(0, Value.pointer (some ⟨g, 0, none⟩)), (2, Value.int .i64 (i : Int)), (14, Value.slice ar R.length cr), (15, Value.int .i64 ((R.length : Nat) : Int)), (16, Value.int .i64 (i : Int)), (21, Value.slice r.a r.l.length r.cap), (22, Value.int .i64 ((r.l.length : Nat) : Int)), (23, Value.int .i64 (k : Int))]) (fun x w => match x with | ⟨k, ds⟩ => (k ≤ r.l.length ∧ Fil R i r k ds) ∧ St B (cel g [Value.slice ar R.length cr, Value.int .u32 0, Value.int .i32 1, Value.int .u32 0, Value.map (some r2)] 57 :: mpK encPr r2 (ents ds) :: (ownAll ds) :: (rowsP ar R) :: L) w) (fun x => match x with | ⟨k, ds⟩ => r.l.length - k) (0, ds) ⟨⟨Nat.zero_le _, fun p => by rw [hF p]; simp⟩, hS4⟩ (Sub.cons rfl (Sub.cons rfl (Sub.cons rfl (Sub.cons rfl (Sub.cons rfl (Sub.cons rfl (Sub.cons rfl (Sub.consE rfl (by first | rfl | first | rfl | (congr 1; omega) | (simp; done) | (simp; omega)) (Sub.nil _))))))))) ?_
  rintro ⟨k, ds⟩ w5 ⟨⟨hk, hFil⟩, hS5⟩
  clear hS4
  refine WP.seq ?_
  refine WP.region rfl ?_
  refine WO.val (run_lss rfl rfl) rfl rfl rfl ?_
  refine WO.nil ?_
  refine NX.go ?_
  refine WP.seq ?_
  refine WP.condP rfl (fun g24 => ?_) (fun g24 => ?_)
  ·
   refine WP.skip ?_
   refine NX.go ?_
   refine WP.seq ?_
   refine WP.block ?_
   refine WP.seq ?_
   obtain ⟨q, hq⟩ : ∃ q, r.l[k]? = some q := ⟨_, List.getElem?_eq_getElem (by omega)⟩
   refine WP.region rfl ?_
   refine WO.val (run_indexAddr (q := adr r.a (k * 2)) Tryz.underlying29 Ty.sz35 rfl rfl (by omega) (by omega) (((fun h => (rowsP_rd h).2 r hrm) (hS5.focus 3 rfl)).2.1 (by omega)) rfl) rfl rfl rfl ?_
   refine WO.val (run_loadAgg (vs := [str q.n, str q.v]) Ty.ag35 Ty.sz35 rfl (((fun h => (rowsP_rd h).2 r hrm) (hS5.focus 3 rfl)).cells (by rw [flat_len prc_len]; omega) (flat_part prc_len hq)).1 (((fun h => (rowsP_rd h).2 r hrm) (hS5.focus 3 rfl)).cells (by rw [flat_len prc_len]; omega) (flat_part prc_len hq)).2) rfl rfl rfl ?_
   refine WO.alloc (l := [str [], str []]) hS5 Ty.zr35 rfl rfl (fun g7 w6 lg7 hS6 => ?_)
   clear hS5
   refine WO.store (l' := [str q.n, str q.v]) 0 hS6 rfl Ty.sz35 rfl rfl rfl rfl rfl (Nat.le_of_ble_eq_true rfl) rfl (fun w8 (hS8 : St B (cel g7 [str q.n, str q.v] 35 :: cel g [Value.slice ar R.length cr, Value.int .u32 0, Value.int .i32 1, Value.int .u32 0, Value.map (some r2)] 57 :: mpK encPr r2 (ents ds) :: (ownAll ds) :: (rowsP ar R) :: L) w8) => ?_)
   clear hS6
   refine WO.nil ?_
   refine NX.go ?_
   refine WP.seq ?_
   obtain ⟨gd, hgd⟩ : ∃ gd, getD q ds = gd := ⟨_, rfl⟩
   obtain ⟨ga, gl, gc⟩ := gd
   have hgl : lstD q ds = gl := by rw [lstD, hgd]
   have hgn := fil_len hFil q
   rw [hgl] at hgn
   have hS9 := ownAll_get q (hS8.permT [3] (L' := ownAll ds :: cel g7 [str q.n, str q.v] 35 :: cel g [Value.slice ar R.length cr, Value.int .u32 0, Value.int .i32 1, Value.int .u32 0, Value.map (some r2)] 57 :: mpK encPr r2 (ents ds) :: (rowsP ar R) :: L) rfl)
   clear hS8
   rw [hgd] at hS9
   replace hS9 : St B (own ga gl.length gc 3 1 (ri gl) :: (ownRest q ds) :: cel g7 [str q.n, str q.v] 35 :: cel g [Value.slice ar R.length cr, Value.int .u32 0, Value.int .i32 1, Value.int .u32 0, Value.map (some r2)] 57 :: mpK encPr r2 (ents ds) :: (rowsP ar R) :: L) w8 := hS9
   refine WD.start (fun w => (∀ j, World.cell? w ⟨g7, j, none⟩ = [str q.n, str q.v][j]?) ∧ (∀ j, World.cell? w ⟨g, j, none⟩ = [Value.slice ar R.length cr, Value.int .u32 0, Value.int .i32 1, Value.int .u32 0, Value.map (some r2)][j]?) ∧ MpAt w encPr r2 (ents ds)) [] #[false, false, false, false, false, false, false] Ty.mo rfl (by kernel_rfl) hS9 (fun _ h => ⟨h.cel_at 2 rfl, h.cel_at 3 rfl, h.mpK_at 4 rfl⟩) (fun w10 hS10 s11 => ?_)
   clear hS9
   refine WD.pure (i := 0) fill_spec_t7 #[true, false, false, false, false, false, false] rfl rfl rfl (by kernel_rfl) (PQ.then (PQ.blk (PQ.then (PQ.then (PQ.blk (PQ.blk (PQ.then (PQ.then (PQ.blk PQ.body))))))))) rfl (fun w => run_move rfl) ?_
   refine WD.pure (i := 1) fill_spec_t7 #[true, true, false, false, false, false, false] rfl rfl rfl (by kernel_rfl) (PQ.then (PQ.blk (PQ.then (PQ.then (PQ.blk (PQ.blk (PQ.then (PQ.then (PQ.blk PQ.body))))))))) rfl (fun w => run_nilCheck rfl) ?_
   refine WD.pure (i := 2) fill_spec_t7 #[true, true, true, false, false, false, false] rfl rfl rfl (by kernel_rfl) (PQ.then (PQ.blk (PQ.then (PQ.then (PQ.blk (PQ.blk (PQ.then (PQ.then (PQ.blk PQ.body))))))))) rfl (fun w => run_fieldAddr (q := ⟨g, 4, none⟩) (show fieldB Tryz.prog 57 2 = some 4 from by kernel_rfl) rfl rfl) ?_
   refine WD.take (i := 3) fill_spec_t7 #[true, true, true, true, false, false, false] s11 rfl rfl rfl (by kernel_rfl) (PQ.then (PQ.blk (PQ.then (PQ.then (PQ.blk (PQ.blk (PQ.then (PQ.then (PQ.blk PQ.body))))))))) rfl (fun w hs => run_load Ty.ag55 rfl ((hs.2.1 4).trans rfl)) ?_
   refine WD.take (i := 4) fill_spec_t7 #[true, true, true, true, true, false, false] s11 rfl rfl rfl (by kernel_rfl) (PQ.then (PQ.blk (PQ.then (PQ.then (PQ.blk (PQ.blk (PQ.then (PQ.then (PQ.blk PQ.body))))))))) rfl (fun w hs => run_loadAgg (vs := [str q.n, str q.v]) Ty.ag35 Ty.sz35 rfl rfl (cell_all (hs.1) 0 rfl)) ?_
   refine WD.take (i := 5) fill_spec_t7 #[true, true, true, true, true, true, false] s11 rfl rfl rfl (by kernel_rfl) (PQ.then (PQ.blk (PQ.then (PQ.then (PQ.blk (PQ.blk (PQ.then (PQ.then (PQ.blk PQ.body))))))))) rfl (fun w hs => run_lookupK (v := Value.slice ga gl.length gc) (k := q) pairKey (hs.2.2) Tryz.underlying55 Ty.zr22 rfl rfl rfl ((ent_get q ds).trans (by rw [hgd]))) ?_
   refine WD.pure (i := 6) fill_spec_t7 #[true, true, true, true, true, true, true] rfl rfl rfl (by kernel_rfl) (PQ.then (PQ.blk (PQ.then (PQ.then (PQ.blk (PQ.blk (PQ.then (PQ.then (PQ.blk PQ.body))))))))) rfl (fun w => run_assign rfl) ?_
   refine WD.done fill_spec_t7 (by kernel_rfl) ?_
   refine NX.go ?_
   refine WP.seq ?_
   refine WP.region rfl ?_
   refine WO.val (run_move rfl) rfl rfl rfl ?_
   refine WO.val (run_len rfl Tryz.underlying22 rfl) rfl rfl rfl ?_
   refine WO.val (run_eql rfl rfl) rfl rfl rfl ?_
   refine WO.val (run_move rfl) rfl rfl rfl ?_
   by_cases g36 : ((gl.length : Nat) : Int) = 0
   ·
    refine WO.off rfl rfl (decide_eq_true g36) rfl ?_
    refine WO.off rfl rfl (decide_eq_true g36) rfl ?_
    refine WO.off rfl rfl (decide_eq_true g36) rfl ?_
    refine WO.off rfl rfl (decide_eq_true g36) rfl ?_
    refine WO.off rfl rfl (decide_eq_true g36) rfl ?_
    refine WO.off rfl rfl (decide_eq_true g36) rfl ?_
    refine WO.off rfl rfl (decide_eq_true g36) rfl ?_
    refine WO.off rfl rfl (decide_eq_true g36) rfl ?_
    refine WO.val (run_pickT rfl (decide_eq_true g36) rfl) rfl rfl rfl ?_
    refine WO.nil ?_
    refine NX.go ?_
    refine WP.meet (α := List DV) (fun x => match x with | ds2 => [(0, Value.pointer (some ⟨g, 0, none⟩)), (2, Value.int .i64 (i : Int)), (14, Value.slice ar R.length cr), (15, Value.int .i64 ((R.length : Nat) : Int)), (16, Value.int .i64 (i : Int)), (21, Value.slice r.a r.l.length r.cap), (22, Value.int .i64 ((r.l.length : Nat) : Int)), (23, Value.int .i64 (k : Int))]) (fun x w => match x with | ds2 => (Fil R i r (k + 1) ds2) ∧ St B (cel g [Value.slice ar R.length cr, Value.int .u32 0, Value.int .i32 1, Value.int .u32 0, Value.map (some r2)] 57 :: mpK encPr r2 (ents ds2) :: (ownAll ds2) :: (rowsP ar R) :: L) w) ?_ (fun K12 => ?_)
    ·
     rintro ds2 w13 ⟨hF2, hS13⟩
     clear hS10
     refine NX.blk ?_
     refine NX.go ?_
     refine WP.region rfl ?_
     refine WO.val (run_add rfl rfl (IntWalk.i64_in _ (by omega))) rfl rfl rfl ?_
     refine WO.val (run_move rfl) rfl rfl rfl ?_
     refine WO.nil ?_
     exact NX.again (k + 1, ds2) ⟨⟨by omega, hF2⟩, hS13⟩ (by show r.l.length - (k + 1) < r.l.length - k; omega) (Sub.cons rfl (Sub.cons rfl (Sub.cons rfl (Sub.cons rfl (Sub.cons rfl (Sub.cons rfl (Sub.cons rfl (Sub.consE rfl (by congr 1) (Sub.nil _)))))))))
    ·
     refine WP.condT rfl rfl ?_
     refine WD.start (fun w => (∀ j, World.cell? w ⟨g7, j, none⟩ = [str q.n, str q.v][j]?) ∧ (∀ j, World.cell? w ⟨g, j, none⟩ = [Value.slice ar R.length cr, Value.int .u32 0, Value.int .i32 1, Value.int .u32 0, Value.map (some r2)][j]?) ∧ MpAt w encPr r2 (ents ds)) [9] #[false, false, false, false, false, false, false, false, false, false] Ty.mo rfl (by kernel_rfl) hS10 (fun _ h => ⟨h.cel_at 2 rfl, h.cel_at 3 rfl, h.mpK_at 4 rfl⟩) (fun w14 hS14 s15 => ?_)
     clear hS10
     refine WD.pure (i := 0) fill_spec_t9 #[true, false, false, false, false, false, false, false, false, false] rfl rfl rfl (by kernel_rfl) (PQ.blk (PQ.then (PQ.then (PQ.blk (PQ.blk (PQ.then (PQ.then (PQ.blk PQ.body)))))))) rfl (fun w => run_move rfl) ?_
     refine WD.pure (i := 1) fill_spec_t9 #[true, true, false, false, false, false, false, false, false, false] rfl rfl rfl (by kernel_rfl) (PQ.blk (PQ.then (PQ.then (PQ.blk (PQ.blk (PQ.then (PQ.then (PQ.blk PQ.body)))))))) rfl (fun w => run_nilCheck rfl) ?_
     refine WD.pure (i := 2) fill_spec_t9 #[true, true, true, false, false, false, false, false, false, false] rfl rfl rfl (by kernel_rfl) (PQ.blk (PQ.then (PQ.then (PQ.blk (PQ.blk (PQ.then (PQ.then (PQ.blk PQ.body)))))))) rfl (fun w => run_fieldAddr (q := ⟨g, 4, none⟩) (show fieldB Tryz.prog 57 2 = some 4 from by kernel_rfl) rfl rfl) ?_
     refine WD.take (i := 3) fill_spec_t9 #[true, true, true, true, false, false, false, false, false, false] s15 rfl rfl rfl (by kernel_rfl) (PQ.blk (PQ.then (PQ.then (PQ.blk (PQ.blk (PQ.then (PQ.then (PQ.blk PQ.body)))))))) rfl (fun w hs => run_load Ty.ag55 rfl ((hs.2.1 4).trans rfl)) ?_
     refine WD.take (i := 4) fill_spec_t9 #[true, true, true, true, true, false, false, false, false, false] s15 rfl rfl rfl (by kernel_rfl) (PQ.blk (PQ.then (PQ.then (PQ.blk (PQ.blk (PQ.then (PQ.then (PQ.blk PQ.body)))))))) rfl (fun w hs => run_loadAgg (vs := [str q.n, str q.v]) Ty.ag35 Ty.sz35 rfl rfl (cell_all (hs.1) 0 rfl)) ?_
     refine WD.pure (i := 5) fill_spec_t9 #[true, true, true, true, true, true, false, false, false, false] rfl rfl rfl (by kernel_rfl) (PQ.blk (PQ.then (PQ.then (PQ.blk (PQ.blk (PQ.then (PQ.then (PQ.blk PQ.body)))))))) rfl (fun w => run_move rfl) ?_
     refine WD.pure (i := 6) fill_spec_t9 #[true, true, true, true, true, true, true, false, false, false] rfl rfl rfl (by kernel_rfl) (PQ.blk (PQ.then (PQ.then (PQ.blk (PQ.blk (PQ.then (PQ.then (PQ.blk PQ.body)))))))) rfl (fun w => run_move rfl) ?_
     refine WD.one (i := 7) fill_spec_t9 #[true, true, true, true, true, true, true, true, false, false] rfl (by kernel_rfl) ?_
     refine WO.buildSlice (l := [Value.int .i64 (i : Int)]) hS14 Tryz.underlying22 rfl (fun w => by kernel_rfl) rfl (fun g17 w16 lg17 hS16 => ?_)
     clear hS14
     have hS16 := hS16.own_of_cel (m := 1) (k := 1) rfl
     refine WO.nil ?_
     have s18 : (∀ j, World.cell? w16 ⟨g7, j, none⟩ = [str q.n, str q.v][j]?) ∧ (∀ j, World.cell? w16 ⟨g, j, none⟩ = [Value.slice ar R.length cr, Value.int .u32 0, Value.int .i32 1, Value.int .u32 0, Value.map (some r2)][j]?) ∧ MpAt w16 encPr r2 (ents ds) := ⟨hS16.cel_at 3 rfl, hS16.cel_at 4 rfl, hS16.mpK_at 5 rfl⟩
     refine NX.held s18 ?_
     refine WD.one (i := 8) fill_spec_t9 #[true, true, true, true, true, true, true, true, true, false] rfl (by kernel_rfl) ?_
     refine WO.append (news := [Value.int .i64 (i : Int)]) 1 rfl Tryz.underlying22 Tryz.underlying22 (fun _ h => by cases h) Ty.sz3 (by decide) Ty.by3 Ty.zr3 rfl rfl rfl rfl hS16 rfl ((hS16.own_rd_i 0 rfl).src) rfl (by omega) (by omega) (fun a20 c21 w19 hS19 => ?_)
     replace hS19 : St B (own (some ⟨g17, 0, none⟩) 1 1 3 1 [Value.int .i64 (i : Int)] :: own a20 (gl.length + 1) c21 3 1 ((ri gl) ++ [Value.int .i64 (i : Int)]) :: (ownRest q ds) :: cel g7 [str q.n, str q.v] 35 :: cel g [Value.slice ar R.length cr, Value.int .u32 0, Value.int .i32 1, Value.int .u32 0, Value.map (some r2)] 57 :: mpK encPr r2 (ents ds) :: (rowsP ar R) :: L) w19 := hS19
     clear hS16
     refine WO.nil ?_
     have s22 : (∀ j, World.cell? w19 ⟨g7, j, none⟩ = [str q.n, str q.v][j]?) ∧ (∀ j, World.cell? w19 ⟨g, j, none⟩ = [Value.slice ar R.length cr, Value.int .u32 0, Value.int .i32 1, Value.int .u32 0, Value.map (some r2)][j]?) ∧ MpAt w19 encPr r2 (ents ds) := ⟨hS19.cel_at 3 rfl, hS19.cel_at 4 rfl, hS19.mpK_at 5 rfl⟩
     refine NX.held s22 ?_
     refine WD.one (i := 9) fill_spec_t9 #[true, true, true, true, true, true, true, true, true, true] rfl (by kernel_rfl) ?_
     refine WO.mapUpdateK (k := q) pairKey 5 hS19 rfl Tryz.underlying55 rfl rfl rfl rfl (fun w23 hS23 => ?_)
     replace hS23 : St B (own (some ⟨g17, 0, none⟩) 1 1 3 1 [Value.int .i64 (i : Int)] :: own a20 (gl.length + 1) c21 3 1 ((ri gl) ++ [Value.int .i64 (i : Int)]) :: (ownRest q ds) :: cel g7 [str q.n, str q.v] 35 :: cel g [Value.slice ar R.length cr, Value.int .u32 0, Value.int .i32 1, Value.int .u32 0, Value.map (some r2)] 57 :: mpK encPr r2 (putK (ents ds) q (Value.slice a20 (gl.length + 1) c21)) :: (rowsP ar R) :: L) w23 := hS23
     clear hS19
     refine WO.nil ?_
     refine NX.last (by decide) ?_
     refine WD.done fill_spec_t9 (by kernel_rfl) ?_
     have hnin : ¬ q ∈ r.l.take k := by exact fil_nil hFil (by rw [hgl]; omega)
     have hk1 := ownAll_put q (a20, gl ++ [(i : Int)], c21) (own_len ((hS23.permT [0, 2, 0, 0, 0, 0, 0] (L' := own (some ⟨g17, 0, none⟩) 1 1 3 1 [Value.int .i64 (i : Int)] :: cel g7 [str q.n, str q.v] 35 :: own a20 (gl.length + 1) c21 3 1 ((ri gl) ++ [Value.int .i64 (i : Int)]) :: (ownRest q ds) :: cel g [Value.slice ar R.length cr, Value.int .u32 0, Value.int .i32 1, Value.int .u32 0, Value.map (some r2)] 57 :: mpK encPr r2 (putK (ents ds) q (Value.slice a20 (gl.length + 1) c21)) :: (rowsP ar R) :: L) rfl).drop.drop) (by simp) (by simp [ri]))
     have hep := ent_put q (a20, gl ++ [(i : Int)], c21) ds
     replace hep : putK (ents ds) q (Value.slice a20 (gl.length + 1) c21) = ents (putD q (a20, gl ++ [(i : Int)], c21) ds) := by rw [← hep]; simp
     rw [hep] at hk1
     exact K12 (putD q (a20, gl ++ [(i : Int)], c21) ds) _ _ ⟨by have := fil_put (a := a20) (c := c21) hFil hq hnin; rw [hgl] at this; exact this, hk1.permT [1, 1, 0] rfl⟩ (Sub.cons rfl (Sub.cons rfl (Sub.cons rfl (Sub.cons rfl (Sub.cons rfl (Sub.cons rfl (Sub.cons rfl (Sub.cons rfl (Sub.nil _)))))))))
   ·
    refine WO.on rfl rfl (decide_eq_false g36) ?_
    refine WO.val (run_move rfl) rfl rfl rfl ?_
    refine WO.on rfl rfl (decide_eq_false g36) ?_
    refine WO.val (run_move rfl) rfl rfl rfl ?_
    refine WO.on rfl rfl (decide_eq_false g36) ?_
    refine WO.val (run_len rfl Tryz.underlying22 rfl) rfl rfl rfl ?_
    refine WO.on rfl rfl (decide_eq_false g36) ?_
    refine WO.val (run_sub rfl rfl (IntWalk.i64_in _ (by omega))) rfl rfl rfl ?_
    refine WO.on rfl rfl (decide_eq_false g36) ?_
    obtain ⟨z, hz⟩ : ∃ z, gl[gl.length - 1]? = some z := ⟨_, List.getElem?_eq_getElem (by omega)⟩
    refine WO.val (run_indexAddr (q := adr ga (gl.length - 1)) Tryz.underlying22 Ty.sz3 rfl rfl (by omega) (by omega) ((hS10.own_rd_i 0 rfl).2.1 (by omega)) (by rw [show ((gl.length : Int) - 1).toNat = gl.length - 1 by omega]; simp)) rfl rfl rfl ?_
    refine WO.on rfl rfl (decide_eq_false g36) ?_
    refine WO.val (run_load Ty.ag3 rfl ((hS10.own_rd_i 0 rfl).cell (ri_get hz))) rfl rfl rfl ?_
    refine WO.on rfl rfl (decide_eq_false g36) ?_
    refine WO.val (run_move rfl) rfl rfl rfl ?_
    refine WO.on rfl rfl (decide_eq_false g36) ?_
    refine WO.val (run_neq rfl rfl) rfl rfl rfl ?_
    refine WO.val (run_pickF rfl (decide_eq_false g36) rfl) rfl rfl rfl ?_
    refine WO.nil ?_
    refine NX.go ?_
    refine WP.meet (α := List DV) (fun x => match x with | ds2 => [(0, Value.pointer (some ⟨g, 0, none⟩)), (2, Value.int .i64 (i : Int)), (14, Value.slice ar R.length cr), (15, Value.int .i64 ((R.length : Nat) : Int)), (16, Value.int .i64 (i : Int)), (21, Value.slice r.a r.l.length r.cap), (22, Value.int .i64 ((r.l.length : Nat) : Int)), (23, Value.int .i64 (k : Int))]) (fun x w => match x with | ds2 => (Fil R i r (k + 1) ds2) ∧ St B (cel g [Value.slice ar R.length cr, Value.int .u32 0, Value.int .i32 1, Value.int .u32 0, Value.map (some r2)] 57 :: mpK encPr r2 (ents ds2) :: (ownAll ds2) :: (rowsP ar R) :: L) w) ?_ (fun K24 => ?_)
    ·
     rintro ds2 w25 ⟨hF2, hS25⟩
     clear hS10
     refine NX.blk ?_
     refine NX.go ?_
     refine WP.region rfl ?_
     refine WO.val (run_add rfl rfl (IntWalk.i64_in _ (by omega))) rfl rfl rfl ?_
     refine WO.val (run_move rfl) rfl rfl rfl ?_
     refine WO.nil ?_
     exact NX.again (k + 1, ds2) ⟨⟨by omega, hF2⟩, hS25⟩ (by show r.l.length - (k + 1) < r.l.length - k; omega) (Sub.cons rfl (Sub.cons rfl (Sub.cons rfl (Sub.cons rfl (Sub.cons rfl (Sub.cons rfl (Sub.cons rfl (Sub.consE rfl (by congr 1) (Sub.nil _)))))))))
    ·
     refine WP.condP rfl (fun g45 => ?_) (fun g45 => ?_)
     ·
      refine WD.start (fun w => (∀ j, World.cell? w ⟨g7, j, none⟩ = [str q.n, str q.v][j]?) ∧ (∀ j, World.cell? w ⟨g, j, none⟩ = [Value.slice ar R.length cr, Value.int .u32 0, Value.int .i32 1, Value.int .u32 0, Value.map (some r2)][j]?) ∧ MpAt w encPr r2 (ents ds)) [9] #[false, false, false, false, false, false, false, false, false, false] Ty.mo rfl (by kernel_rfl) hS10 (fun _ h => ⟨h.cel_at 2 rfl, h.cel_at 3 rfl, h.mpK_at 4 rfl⟩) (fun w26 hS26 s27 => ?_)
      clear hS10
      refine WD.pure (i := 0) fill_spec_t9 #[true, false, false, false, false, false, false, false, false, false] rfl rfl rfl (by kernel_rfl) (PQ.blk (PQ.then (PQ.then (PQ.blk (PQ.blk (PQ.then (PQ.then (PQ.blk PQ.body)))))))) rfl (fun w => run_move rfl) ?_
      refine WD.pure (i := 1) fill_spec_t9 #[true, true, false, false, false, false, false, false, false, false] rfl rfl rfl (by kernel_rfl) (PQ.blk (PQ.then (PQ.then (PQ.blk (PQ.blk (PQ.then (PQ.then (PQ.blk PQ.body)))))))) rfl (fun w => run_nilCheck rfl) ?_
      refine WD.pure (i := 2) fill_spec_t9 #[true, true, true, false, false, false, false, false, false, false] rfl rfl rfl (by kernel_rfl) (PQ.blk (PQ.then (PQ.then (PQ.blk (PQ.blk (PQ.then (PQ.then (PQ.blk PQ.body)))))))) rfl (fun w => run_fieldAddr (q := ⟨g, 4, none⟩) (show fieldB Tryz.prog 57 2 = some 4 from by kernel_rfl) rfl rfl) ?_
      refine WD.take (i := 3) fill_spec_t9 #[true, true, true, true, false, false, false, false, false, false] s27 rfl rfl rfl (by kernel_rfl) (PQ.blk (PQ.then (PQ.then (PQ.blk (PQ.blk (PQ.then (PQ.then (PQ.blk PQ.body)))))))) rfl (fun w hs => run_load Ty.ag55 rfl ((hs.2.1 4).trans rfl)) ?_
      refine WD.take (i := 4) fill_spec_t9 #[true, true, true, true, true, false, false, false, false, false] s27 rfl rfl rfl (by kernel_rfl) (PQ.blk (PQ.then (PQ.then (PQ.blk (PQ.blk (PQ.then (PQ.then (PQ.blk PQ.body)))))))) rfl (fun w hs => run_loadAgg (vs := [str q.n, str q.v]) Ty.ag35 Ty.sz35 rfl rfl (cell_all (hs.1) 0 rfl)) ?_
      refine WD.pure (i := 5) fill_spec_t9 #[true, true, true, true, true, true, false, false, false, false] rfl rfl rfl (by kernel_rfl) (PQ.blk (PQ.then (PQ.then (PQ.blk (PQ.blk (PQ.then (PQ.then (PQ.blk PQ.body)))))))) rfl (fun w => run_move rfl) ?_
      refine WD.pure (i := 6) fill_spec_t9 #[true, true, true, true, true, true, true, false, false, false] rfl rfl rfl (by kernel_rfl) (PQ.blk (PQ.then (PQ.then (PQ.blk (PQ.blk (PQ.then (PQ.then (PQ.blk PQ.body)))))))) rfl (fun w => run_move rfl) ?_
      refine WD.one (i := 7) fill_spec_t9 #[true, true, true, true, true, true, true, true, false, false] rfl (by kernel_rfl) ?_
      refine WO.buildSlice (l := [Value.int .i64 (i : Int)]) hS26 Tryz.underlying22 rfl (fun w => by kernel_rfl) rfl (fun g29 w28 lg29 hS28 => ?_)
      clear hS26
      have hS28 := hS28.own_of_cel (m := 1) (k := 1) rfl
      refine WO.nil ?_
      have s30 : (∀ j, World.cell? w28 ⟨g7, j, none⟩ = [str q.n, str q.v][j]?) ∧ (∀ j, World.cell? w28 ⟨g, j, none⟩ = [Value.slice ar R.length cr, Value.int .u32 0, Value.int .i32 1, Value.int .u32 0, Value.map (some r2)][j]?) ∧ MpAt w28 encPr r2 (ents ds) := ⟨hS28.cel_at 3 rfl, hS28.cel_at 4 rfl, hS28.mpK_at 5 rfl⟩
      refine NX.held s30 ?_
      refine WD.one (i := 8) fill_spec_t9 #[true, true, true, true, true, true, true, true, true, false] rfl (by kernel_rfl) ?_
      refine WO.append (news := [Value.int .i64 (i : Int)]) 1 rfl Tryz.underlying22 Tryz.underlying22 (fun _ h => by cases h) Ty.sz3 (by decide) Ty.by3 Ty.zr3 rfl rfl rfl rfl hS28 rfl ((hS28.own_rd_i 0 rfl).src) rfl (by omega) (by omega) (fun a32 c33 w31 hS31 => ?_)
      replace hS31 : St B (own (some ⟨g29, 0, none⟩) 1 1 3 1 [Value.int .i64 (i : Int)] :: own a32 (gl.length + 1) c33 3 1 ((ri gl) ++ [Value.int .i64 (i : Int)]) :: (ownRest q ds) :: cel g7 [str q.n, str q.v] 35 :: cel g [Value.slice ar R.length cr, Value.int .u32 0, Value.int .i32 1, Value.int .u32 0, Value.map (some r2)] 57 :: mpK encPr r2 (ents ds) :: (rowsP ar R) :: L) w31 := hS31
      clear hS28
      refine WO.nil ?_
      have s34 : (∀ j, World.cell? w31 ⟨g7, j, none⟩ = [str q.n, str q.v][j]?) ∧ (∀ j, World.cell? w31 ⟨g, j, none⟩ = [Value.slice ar R.length cr, Value.int .u32 0, Value.int .i32 1, Value.int .u32 0, Value.map (some r2)][j]?) ∧ MpAt w31 encPr r2 (ents ds) := ⟨hS31.cel_at 3 rfl, hS31.cel_at 4 rfl, hS31.mpK_at 5 rfl⟩
      refine NX.held s34 ?_
      refine WD.one (i := 9) fill_spec_t9 #[true, true, true, true, true, true, true, true, true, true] rfl (by kernel_rfl) ?_
      refine WO.mapUpdateK (k := q) pairKey 5 hS31 rfl Tryz.underlying55 rfl rfl rfl rfl (fun w35 hS35 => ?_)
      replace hS35 : St B (own (some ⟨g29, 0, none⟩) 1 1 3 1 [Value.int .i64 (i : Int)] :: own a32 (gl.length + 1) c33 3 1 ((ri gl) ++ [Value.int .i64 (i : Int)]) :: (ownRest q ds) :: cel g7 [str q.n, str q.v] 35 :: cel g [Value.slice ar R.length cr, Value.int .u32 0, Value.int .i32 1, Value.int .u32 0, Value.map (some r2)] 57 :: mpK encPr r2 (putK (ents ds) q (Value.slice a32 (gl.length + 1) c33)) :: (rowsP ar R) :: L) w35 := hS35
      clear hS31
      refine WO.nil ?_
      refine NX.last (by decide) ?_
      refine WD.done fill_spec_t9 (by kernel_rfl) ?_
      have hnin : ¬ q ∈ r.l.take k := by intro hin; exact g45 ((fil_in hFil (by rw [hgl]; exact hz)).2 hin)
      have hk1 := ownAll_put q (a32, gl ++ [(i : Int)], c33) (own_len ((hS35.permT [0, 2, 0, 0, 0, 0, 0] (L' := own (some ⟨g29, 0, none⟩) 1 1 3 1 [Value.int .i64 (i : Int)] :: cel g7 [str q.n, str q.v] 35 :: own a32 (gl.length + 1) c33 3 1 ((ri gl) ++ [Value.int .i64 (i : Int)]) :: (ownRest q ds) :: cel g [Value.slice ar R.length cr, Value.int .u32 0, Value.int .i32 1, Value.int .u32 0, Value.map (some r2)] 57 :: mpK encPr r2 (putK (ents ds) q (Value.slice a32 (gl.length + 1) c33)) :: (rowsP ar R) :: L) rfl).drop.drop) (by simp) (by simp [ri]))
      have hep := ent_put q (a32, gl ++ [(i : Int)], c33) ds
      replace hep : putK (ents ds) q (Value.slice a32 (gl.length + 1) c33) = ents (putD q (a32, gl ++ [(i : Int)], c33) ds) := by rw [← hep]; simp
      rw [hep] at hk1
      exact K24 (putD q (a32, gl ++ [(i : Int)], c33) ds) _ _ ⟨by have := fil_put (a := a32) (c := c33) hFil hq hnin; rw [hgl] at this; exact this, hk1.permT [1, 1, 0] rfl⟩ (Sub.cons rfl (Sub.cons rfl (Sub.cons rfl (Sub.cons rfl (Sub.cons rfl (Sub.cons rfl (Sub.cons rfl (Sub.cons rfl (Sub.nil _)))))))))
     ·
      refine WP.skip ?_
      have hin : q ∈ r.l.take k := (fil_in hFil (by rw [hgl]; exact hz)).1 (Decidable.of_not_not g45)
      have hsame : putD q (ga, gl, gc) ds = ds := by rw [← hgd]; exact putD_same q (by rw [hgd]; exact fun e => by have e1 : gl = [] := e; rw [e1] at g36; exact g36 rfl)
      have hk1 := ownAll_put q (ga, gl, gc) ((hS10.permT [2, 0, 0, 0, 0, 0] (L' := cel g7 [str q.n, str q.v] 35 :: own ga gl.length gc 3 1 (ri gl) :: (ownRest q ds) :: cel g [Value.slice ar R.length cr, Value.int .u32 0, Value.int .i32 1, Value.int .u32 0, Value.map (some r2)] 57 :: mpK encPr r2 (ents ds) :: (rowsP ar R) :: L) rfl).drop)
      rw [hsame] at hk1
      exact K24 ds _ _ ⟨fil_keep hFil hq hin, hk1.permT [1, 1, 0] rfl⟩ (Sub.cons rfl (Sub.cons rfl (Sub.cons rfl (Sub.cons rfl (Sub.cons rfl (Sub.cons rfl (Sub.cons rfl (Sub.cons rfl (Sub.nil _)))))))))
  ·
   refine WP.exit ?_
   refine NX.thenExit ?_
   refine NX.thenExit ?_
   refine NX.blkExit ?_
   refine NX.blk ?_
   refine NX.go ?_
   refine WP.region rfl ?_
   refine WO.val (run_add rfl rfl (IntWalk.i64_in _ (by omega))) rfl rfl rfl ?_
   refine WO.val (run_move rfl) rfl rfl rfl ?_
   refine WO.nil ?_
   exact NX.again (i + 1, ds) ⟨⟨by omega, fun p => by rw [hFil p, List.take_of_length_le (by omega), pre_succ hr p]⟩, hS5⟩ (by show R.length - (i + 1) < R.length - i; omega) (Sub.cons rfl (Sub.cons rfl (Sub.cons rfl (Sub.consE rfl (by congr 1) (Sub.nil _)))))
 ·
  refine WP.exit ?_
  refine NX.thenExit ?_
  refine NX.thenExit ?_
  refine NX.blkExit ?_
  refine NX.ended (l := []) rfl rfl ?_
  have hpa := fun p => (hF p).trans ((congrArg (fun n => pre R n p) (show i = R.length by omega)).trans (pre_all p))
  exact ⟨rfl, r2, ds, hpa, hS4⟩
end Go.Proofs.YtogidmceomlkeaaGreatDoor.SL
