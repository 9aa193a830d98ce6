/- An index is asked for the rows that have a pair. -/
import Derived.Test.YtogidmceomlkeaaGreatDoorKi5
namespace Go.Proofs.YtogidmceomlkeaaGreatDoor.SL
open Go.RowKit Go.Proofs.YtogidmceomlkeaaGreatDoor
open Go.Proofs.YtogidmceomlkeaaGreatDoorW.PrintLast (rtab opsOf)
set_option linter.unusedVariables false
set_option linter.unusedSimpArgs false

theorem ownAll_back {B w : World} (p : Pr) : ∀ {ds : List DV} {L : List HP}, St B (own (getD p ds).1 (getD p ds).2.1.length (getD p ds).2.2 3 1 (ri (getD p ds).2.1) :: ownRest p ds :: L) w → St B (ownAll ds :: L) w
  | [], L, h => h.drop
  | d :: ds, L, h => by
    simp only [getD, ownRest] at h
    split at h
    · exact h.join
    · have h1 := (h.permT [1, 0] (L' := HP.sep (own d.a d.l.length d.cap 3 1 (ri d.l)) (ownRest p ds) :: own (getD p ds).1 (getD p ds).2.1.length (getD p ds).2.2 3 1 (ri (getD p ds).2.1) :: L) rfl).sep
      have h2 := h1.permT [2, 1, 0] (L' := own (getD p ds).1 (getD p ds).2.1.length (getD p ds).2.2 3 1 (ri (getD p ds).2.1) :: ownRest p ds :: own d.a d.l.length d.cap 3 1 (ri d.l) :: L) rfl
      have h3 := ownAll_back p h2
      exact (h3.permT [1, 0] (L' := own d.a d.l.length d.cap 3 1 (ri d.l) :: ownAll ds :: L) rfl).join
theorem pOf_spec_t2 : rtab .any (opsOf Tryz.f14 2) = (true, [([], []), ([0], [0]), ([1], [1]), ([2], [2]), ([], []), ([3, 4], [3, 4]), ([5], [5]), ([6, 6, 0, 1, 2, 3, 4, 5, 6], [6])]) := by kernel_rfl
theorem pOf_spec {B w : World} {L : List HP} {g : Nat} {ar : Option Addr} {cr : Nat} {R : List RowV} (hn : R.length ≤ 1000000) (hbR : ∀ r ∈ R, r.l.length ≤ 4398046511104) (p : Pr) (hS : St B (cel g [Value.slice ar R.length cr, Value.int .u32 0, Value.int .i32 0, Value.int .u32 0, Value.map none] 57 :: rowsP ar R :: L) w) : Does Tryz.prog 14 [Value.pointer (some ⟨g, 0, none⟩), Value.agg #[str p.n, str p.v]] w (fun v w1 => ∃ a1 c1 r ds, v = .slice a1 (ofF (R.map RowV.l) p).length c1 ∧ (∀ p, lstD p ds = ofF (R.map RowV.l) p) ∧ St B (own a1 (ofF (R.map RowV.l) p).length c1 3 1 (ri (ofF (R.map RowV.l) p)) :: cel g [Value.slice ar R.length cr, Value.int .u32 1, Value.int .i32 0, Value.int .u32 0, Value.map (some r)] 57 :: mpK encPr r (ents ds) :: ownAll ds :: rowsP ar R :: L) w1) := by
 refine enter (n := 18) Tryz.func14 rfl rfl [Value.pointer (some ⟨g, 0, none⟩), Value.agg #[str p.n, str p.v]] rfl ?_
 refine WP.seq ?_
 refine WP.region rfl ?_
 refine WO.box (l := [str p.n, str p.v]) hS rfl rfl rfl (fun g2 w1 lg2 hS1 => ?_)
 clear hS
 refine WO.val (run_assign rfl) rfl rfl rfl ?_
 refine WO.nil ?_
 refine NX.go ?_
 refine WP.seq ?_
 refine WP.region rfl ?_
 refine WO.val (run_move rfl) rfl rfl rfl ?_
 refine WO.val (run_nilCheck rfl) rfl rfl rfl ?_
 refine WO.val (run_fieldAddr (q := ⟨g, 1, none⟩) (show fieldB Tryz.prog 57 1 = some 1 from by kernel_rfl) rfl rfl) rfl rfl rfl ?_
 refine WO.val (run_move rfl) rfl rfl rfl ?_
 refine WO.val (run_makeFunc rfl rfl) rfl rfl rfl ?_
 have hS3 := hS1.permT [1, 1, 0] (L' := cel g [Value.slice ar R.length cr, Value.int .u32 0, Value.int .i32 0, Value.int .u32 0, Value.map none] 57 :: (rowsP ar R) :: cel g2 [str p.n, str p.v] 35 :: L) rfl
 clear hS1
 refine WO.call rfl rfl Ty.hd22 rfl (do_first (o := 1) (us := [Value.pointer (some ⟨g, 0, none⟩)]) (Φ := fun l2 L2 => ∃ r ds, (∀ p, lstD p ds = ofF (R.map RowV.l) p) ∧ l2 = [.slice ar R.length cr, .int .u32 0, .int .i32 1, .int .u32 0, .map (some r)] ∧ L2 = mpK encPr r (ents ds) :: ownAll ds :: rowsP ar R :: cel g2 [str p.n, str p.v] 35 :: L) (Nat.le_of_ble_eq_true rfl) rfl rfl (fun w' h => (fill_spec (by omega) hbR h).mono (fun v w1 ⟨e, r, ds, hall, h2⟩ => ⟨e, _, _, ⟨r, ds, hall, rfl, rfl⟩, rfl, rfl, h2⟩)) hS3) (fun v5 w4 pv5 => ?_)
 obtain ⟨rfl, l2, L2, ⟨r, ds, hall, rfl, rfl⟩, hS4⟩ := pv5
 clear hS3
 replace hS4 : St B (cel g [Value.slice ar R.length cr, Value.int .u32 1, Value.int .i32 0, Value.int .u32 0, Value.map (some r)] 57 :: mpK encPr r (ents ds) :: (ownAll ds) :: (rowsP ar R) :: cel g2 [str p.n, str p.v] 35 :: L) w4 := hS4
 refine WO.nil ?_
 refine NX.go ?_
 refine WP.seq ?_
 obtain ⟨gd, hgd⟩ : ∃ gd, getD p ds = gd := ⟨_, rfl⟩
 obtain ⟨ga, gl, gc⟩ := gd
 have hgl : gl = (ofF (R.map RowV.l) p) := by rw [← hall p, lstD, hgd]
 have hgn := pre_len (R := R) (i := R.length) p
 rw [pre_all, ← hgl] at hgn
 have hS6 := ownAll_get p (hS4.permT [2] (L' := ownAll ds :: cel g [Value.slice ar R.length cr, Value.int .u32 1, Value.int .i32 0, Value.int .u32 0, Value.map (some r)] 57 :: mpK encPr r (ents ds) :: (rowsP ar R) :: cel g2 [str p.n, str p.v] 35 :: L) rfl)
 clear hS4
 rw [hgd] at hS6
 replace hS6 : St B (own ga gl.length gc 3 1 (ri gl) :: (ownRest p ds) :: cel g [Value.slice ar R.length cr, Value.int .u32 1, Value.int .i32 0, Value.int .u32 0, Value.map (some r)] 57 :: mpK encPr r (ents ds) :: (rowsP ar R) :: cel g2 [str p.n, str p.v] 35 :: L) w4 := hS6
 refine WD.start (fun w => (∀ j, World.cell? w ⟨g, j, none⟩ = [Value.slice ar R.length cr, Value.int .u32 1, Value.int .i32 0, Value.int .u32 0, Value.map (some r)][j]?) ∧ MpAt w encPr r (ents ds) ∧ (∀ j, World.cell? w ⟨g2, j, none⟩ = [str p.n, str p.v][j]?)) [] #[false, false, false, false, false, false, false, false] Ty.mo rfl (by kernel_rfl) hS6 (fun _ h => ⟨h.cel_at 2 rfl, h.mpK_at 3 rfl, h.cel_at 5 rfl⟩) (fun w7 hS7 s8 => ?_)
 clear hS6
 refine WD.pure (i := 0) pOf_spec_t2 #[true, false, false, false, false, false, false, false] rfl rfl rfl (by kernel_rfl) (PQ.then PQ.body) rfl (fun w => run_move rfl) ?_
 refine WD.pure (i := 1) pOf_spec_t2 #[true, true, false, false, false, false, false, false] rfl rfl rfl (by kernel_rfl) (PQ.then PQ.body) rfl (fun w => run_nilCheck rfl) ?_
 refine WD.pure (i := 2) pOf_spec_t2 #[true, true, true, false, false, false, false, false] rfl rfl rfl (by kernel_rfl) (PQ.then PQ.body) rfl (fun w => run_fieldAddr (q := ⟨g, 4, none⟩) (show fieldB Tryz.prog 57 2 = some 4 from by kernel_rfl) rfl rfl) ?_
 refine WD.take (i := 3) pOf_spec_t2 #[true, true, true, true, false, false, false, false] s8 rfl rfl rfl (by kernel_rfl) (PQ.then PQ.body) rfl (fun w hs => run_load Ty.ag55 rfl ((hs.1 4).trans rfl)) ?_
 refine WD.take (i := 4) pOf_spec_t2 #[true, true, true, true, true, false, false, false] s8 rfl rfl rfl (by kernel_rfl) (PQ.then PQ.body) rfl (fun w hs => run_loadAgg (vs := [str p.n, str p.v]) Ty.ag35 Ty.sz35 rfl rfl (cell_all (hs.2.2) 0 rfl)) ?_
 refine WD.take (i := 5) pOf_spec_t2 #[true, true, true, true, true, true, false, false] s8 rfl rfl rfl (by kernel_rfl) (PQ.then PQ.body) rfl (fun w hs => run_lookupK (v := Value.slice ga gl.length gc) (k := p) pairKey (hs.2.1) Tryz.underlying55 Ty.zr22 rfl rfl rfl ((ent_get p ds).trans (by rw [hgd]))) ?_
 refine WD.one (i := 6) pOf_spec_t2 #[true, true, true, true, true, true, true, false] rfl (by kernel_rfl) ?_
 refine WO.call rfl rfl Ty.hd24 rfl (clone_spec (fun h => h.own_rd.1) (by omega) hS7) (fun v10 w9 pv10 => ?_)
 obtain ⟨a1, c1, rfl, hS9⟩ := pv10
 clear hS7
 refine WO.nil ?_
 have s11 : (∀ j, World.cell? w9 ⟨g, j, none⟩ = [Value.slice ar R.length cr, Value.int .u32 1, Value.int .i32 0, Value.int .u32 0, Value.map (some r)][j]?) ∧ MpAt w9 encPr r (ents ds) ∧ (∀ j, World.cell? w9 ⟨g2, j, none⟩ = [str p.n, str p.v][j]?) := ⟨hS9.cel_at 3 rfl, hS9.mpK_at 4 rfl, hS9.cel_at 6 rfl⟩
 refine NX.held s11 ?_
 refine WD.pure (i := 7) pOf_spec_t2 #[true, true, true, true, true, true, true, true] rfl rfl rfl (by kernel_rfl) (PQ.then PQ.body) rfl (fun w => run_assign rfl) ?_
 refine WD.done pOf_spec_t2 (by kernel_rfl) ?_
 refine NX.go ?_
 refine WP.ret ?_
 refine NX.done (l := [.tmp 4]) rfl rfl ?_
 have hk := ownAll_back p (by rw [hgd]; exact (hS9.permT [6, 1, 1, 0, 0, 0, 0] (L' := cel g2 [str p.n, str p.v] 35 :: own ga gl.length gc 3 1 (ri gl) :: (ownRest p ds) :: own a1 gl.length c1 3 1 (ri gl) :: cel g [Value.slice ar R.length cr, Value.int .u32 1, Value.int .i32 0, Value.int .u32 0, Value.map (some r)] 57 :: mpK encPr r (ents ds) :: (rowsP ar R) :: L) rfl).drop)
 have hk1 := hk.permT [1, 1, 1, 0, 0] (L' := own a1 gl.length c1 3 1 (ri gl) :: cel g [Value.slice ar R.length cr, Value.int .u32 1, Value.int .i32 0, Value.int .u32 0, Value.map (some r)] 57 :: mpK encPr r (ents ds) :: ownAll ds :: rowsP ar R :: L) rfl
 exact ⟨a1, c1, r, ds, congrArg (fun z => Value.slice a1 z c1) (by rw [hgl]), hall, own_len hk1 (by rw [hgl]) (by rw [hgl])⟩
end Go.Proofs.YtogidmceomlkeaaGreatDoor.SL
