/- Matchers: the reference. -/
import Derived.Test.YtogidmceomlkeaaGreatDoorKm
namespace Go.Proofs.YtogidmceomlkeaaGreatDoor.SL
open Go.RowKit Go.Proofs.YtogidmceomlkeaaGreatDoor
open Go.Proofs.YtogidmceomlkeaaGreatDoorW.PrintLast (rtab opsOf)
set_option linter.unusedVariables false
set_option linter.unusedSimpArgs false
theorem rcheckm_spec {B w : World} {L : List HP} {X : HP} {a : Option Addr} {cap : Nat} {l : List Mt} (hX : ∀ {L : List HP} {w : World}, St B (X :: L) w → Rd w a l.length 3 (l.flatMap mtc)) (hb : SzM l) (hl : l.length ≤ 4398046511104) (hS : St B (X :: L) w) : Does Tryz.prog 29 [Value.slice a l.length cap] w (fun v w1 => v = .int .i64 (mchk l) ∧ St B (X :: L) w1) := by
 refine enter (n := 22) Tryz.func29 rfl rfl [Value.slice a l.length cap] rfl ?_
 refine WP.seq ?_
 refine WP.region rfl ?_
 refine WO.val (run_assign rfl) rfl rfl rfl ?_
 refine WO.nil ?_
 refine NX.go ?_
 refine WP.seq ?_
 refine WP.seq ?_
 refine WP.region rfl ?_
 refine WO.val (run_move rfl) rfl rfl rfl ?_
 refine WO.val (run_len rfl Tryz.underlying28 rfl) rfl rfl rfl ?_
 refine WO.val (run_gtr rfl rfl) rfl rfl rfl ?_
 refine WO.nil ?_
 refine NX.go ?_
 refine WP.condP rfl (fun g7 => ?_) (fun g7 => ?_)
 ·
  refine WP.seq ?_
  refine WP.region rfl ?_
  refine WO.val (run_assign rfl) rfl rfl rfl ?_
  refine WO.nil ?_
  refine NX.go ?_
  refine WP.ret ?_
  refine NX.thenRet ?_
  refine NX.done (l := [.tmp 2]) rfl rfl ?_
  exact ⟨congrArg (Value.int .i64) (if_pos (by omega)).symm, hS⟩
 ·
  refine WP.skip ?_
  refine NX.go ?_
  refine WP.seq ?_
  refine WP.seq ?_
  refine WP.region rfl ?_
  refine WO.val (run_assign rfl) rfl rfl rfl ?_
  refine WO.nil ?_
  refine NX.go ?_
  refine WP.block ?_
  refine WP.loop (α := Nat) (fun x => match x with | i => [(0, Value.slice a l.length cap), (3, Value.int .i64 (i : Int))]) (fun x w => match x with | i => (i ≤ l.length ∧ mgo (l.drop i) = mgo l) ∧ St B (X :: L) w) (fun x => match x with | i => l.length - i) 0 ⟨⟨Nat.zero_le _, rfl⟩, hS⟩ (Sub.cons rfl (Sub.consE rfl (by first | rfl | first | rfl | (congr 1; omega) | (simp; done) | (simp; omega)) (Sub.nil _))) ?_
  rintro i w1 ⟨⟨hi, hgo⟩, hS1⟩
  clear hS
  refine WP.seq ?_
  refine WP.seq ?_
  refine WP.region rfl ?_
  refine WO.val (run_move rfl) rfl rfl rfl ?_
  refine WO.val (run_move rfl) rfl rfl rfl ?_
  refine WO.val (run_len rfl Tryz.underlying28 rfl) rfl rfl rfl ?_
  refine WO.val (run_lss rfl rfl) rfl rfl rfl ?_
  refine WO.nil ?_
  refine NX.go ?_
  refine WP.condP rfl (fun g11 => ?_) (fun g11 => ?_)
  ·
   refine WP.skip ?_
   refine NX.go ?_
   refine WP.seq ?_
   refine WP.block ?_
   refine WP.seq ?_
   refine WP.region rfl ?_
   refine WO.val (run_move rfl) rfl rfl rfl ?_
   refine WO.val (run_move rfl) rfl rfl rfl ?_
   obtain ⟨m, hm⟩ : ∃ m, l[i]? = some m := ⟨_, List.getElem?_eq_getElem (by omega)⟩
   refine WO.val (run_indexAddr (q := adr a (i * 3)) Tryz.underlying28 Ty.sz37 rfl rfl (by omega) (by omega) ((hX (hS1.focus 0 rfl)).2.1 (by omega)) rfl) rfl rfl rfl ?_
   refine WO.val (run_loadAgg (vs := [Value.int .i64 m.k, str m.n, str m.v]) Ty.ag37 Ty.sz37 rfl ((hX (hS1.focus 0 rfl)).cells (by rw [flat_len mtc_len]; omega) (flat_part mtc_len hm)).1 ((hX (hS1.focus 0 rfl)).cells (by rw [flat_len mtc_len]; omega) (flat_part mtc_len hm)).2) rfl rfl rfl ?_
   refine WO.call rfl rfl Ty.hd41 rfl (rright_spec m (by have := hb m (List.mem_of_getElem? hm); omega) hS1) (fun v3 w2 pv3 => ?_)
   obtain ⟨rfl, hS2⟩ := pv3
   clear hS1
   refine WO.val (run_assign rfl) rfl rfl rfl ?_
   refine WO.nil ?_
   refine NX.go ?_
   refine WP.seq ?_
   refine WP.region rfl ?_
   refine WO.val (run_move rfl) rfl rfl rfl ?_
   refine WO.val (run_neq rfl rfl) rfl rfl rfl ?_
   refine WO.nil ?_
   refine NX.go ?_
   refine WP.condP rfl (fun g20 => ?_) (fun g20 => ?_)
   ·
    refine WP.seq ?_
    refine WP.region rfl ?_
    refine WO.val (run_move rfl) rfl rfl rfl ?_
    refine WO.val (run_assign rfl) rfl rfl rfl ?_
    refine WO.nil ?_
    refine NX.go ?_
    refine WP.ret ?_
    refine NX.blkRet ?_
    refine NX.thenRet ?_
    refine NX.thenRet ?_
    refine NX.blkRet ?_
    refine NX.thenRet ?_
    refine NX.done (l := [.tmp 2]) rfl rfl ?_
    refine ⟨congrArg (Value.int .i64) ?_, hS2⟩
    rw [drop_cons hm] at hgo
    rw [mchk, if_neg (by omega), ← hgo, mgo, if_pos (by assumption)]
   ·
    refine WP.skip ?_
    refine NX.blk ?_
    refine NX.go ?_
    refine WP.region rfl ?_
    refine WO.val (run_move rfl) rfl rfl rfl ?_
    refine WO.val (run_add rfl rfl (IntWalk.i64_in _ (by omega))) rfl rfl rfl ?_
    refine WO.val (run_assign rfl) rfl rfl rfl ?_
    refine WO.nil ?_
    exact NX.again (i + 1) ⟨⟨by omega, by rw [drop_cons hm] at hgo; rw [← hgo, mgo, if_neg (by assumption)]⟩, hS2⟩ (by show l.length - (i + 1) < l.length - i; omega) (Sub.cons rfl (Sub.consE rfl (by congr 1) (Sub.nil _)))
  ·
   refine WP.exit ?_
   refine NX.thenExit ?_
   refine NX.thenExit ?_
   refine NX.blkExit ?_
   refine NX.go ?_
   refine WP.seq ?_
   refine WP.region rfl ?_
   refine WO.val (run_assign rfl) rfl rfl rfl ?_
   refine WO.nil ?_
   refine NX.go ?_
   refine WP.ret ?_
   refine NX.done (l := [.tmp 2]) rfl rfl ?_
   exact ⟨congrArg (Value.int .i64) (by rw [mchk, if_neg (by omega), ← hgo, List.drop_of_length_le (by omega)]; rfl), hS1⟩
theorem rholds_spec_t8 : rtab .any (opsOf Tryz.f30 8) = (true, [([], []), ([0], [0]), ([], []), ([2], [2]), ([3], [3]), ([1, 4], [1, 4]), ([5], [5]), ([6], [6]), ([6], [6]), ([8, 6], [6, 8]), ([9, 6], [6, 9]), ([7, 10, 6], [6, 7, 10]), ([6], [6]), ([12, 6], [6, 12]), ([11, 13, 6], [6, 11, 13]), ([6, 14], [6, 14]), ([15, 6, 0, 1, 2, 3, 4, 5, 6, 7, 8, 9, 10, 11, 12, 13, 14, 15], [15])]) := by kernel_rfl
theorem rholds_spec {B w : World} {L : List HP} {Y : HP} {b : Option Addr} {cap2 : Nat} {ps : List Pr} (hY : ∀ {L : List HP} {w : World}, St B (Y :: L) w → Rd w b ps.length 2 (ps.flatMap prc)) (hl2 : ps.length ≤ 4398046511104) (m : Mt) (hS : St B (Y :: L) w) : Does Tryz.prog 30 [Value.agg #[Value.int .i64 m.k, str m.n, str m.v], Value.slice b ps.length cap2] w (fun v w1 => v = .bool (hold m (getV m.n ps)) ∧ St B (Y :: L) w1) := by
 refine enter (n := 44) Tryz.func30 rfl rfl [Value.agg #[Value.int .i64 m.k, str m.n, str m.v], Value.slice b ps.length cap2] rfl ?_
 refine WP.seq ?_
 refine WP.region rfl ?_
 refine WO.box (l := [Value.int .i64 m.k, str m.n, str m.v]) hS rfl rfl rfl (fun g2 w1 lg2 hS1 => ?_)
 clear hS
 refine WO.val (run_assign rfl) rfl rfl rfl ?_
 refine WO.nil ?_
 refine NX.go ?_
 refine WP.seq ?_
 refine WP.region rfl ?_
 refine WO.val (run_move rfl) rfl rfl rfl ?_
 refine WO.val (run_fieldAddr (q := ⟨g2, 1, none⟩) (show fieldB Tryz.prog 37 1 = some 1 from by kernel_rfl) rfl rfl) rfl rfl rfl ?_
 refine WO.val (run_load Ty.ag9 rfl ((hS1.cel_at 0 rfl 1).trans rfl)) rfl rfl rfl ?_
 have hS3 := hS1.permT [1, 0] (L' := Y :: cel g2 [Value.int .i64 m.k, str m.n, str m.v] 37 :: L) rfl
 clear hS1
 refine WO.call rfl rfl Ty.hd42 rfl (rget_spec hY hl2 m.n hS3) (fun v5 w4 pv5 => ?_)
 obtain ⟨rfl, hS4⟩ := pv5
 clear hS3
 refine WO.val (run_assign rfl) rfl rfl rfl ?_
 refine WO.nil ?_
 refine NX.go ?_
 refine WP.seq ?_
 refine WP.seq ?_
 refine WP.region rfl ?_
 refine WO.val (run_fieldAddr (q := ⟨g2, 0, none⟩) (show fieldB Tryz.prog 37 0 = some 0 from by kernel_rfl) rfl rfl) rfl rfl rfl ?_
 refine WO.val (run_load Ty.ag3 rfl ((hS4.cel_at 1 rfl 0).trans rfl)) rfl rfl rfl ?_
 refine WO.nil ?_
 refine NX.go ?_
 refine WP.block ?_
 refine WP.seq ?_
 refine WP.region rfl ?_
 refine WO.val (run_eql rfl rfl) rfl rfl rfl ?_
 refine WO.val (run_assign rfl) rfl rfl rfl ?_
 refine WO.nil ?_
 refine NX.go ?_
 refine WP.condP rfl (fun g12 => ?_) (fun g12 => ?_)
 ·
  refine WP.seq ?_
  refine WP.region rfl ?_
  refine WO.val (run_move rfl) rfl rfl rfl ?_
  refine WO.val (run_fieldAddr (q := ⟨g2, 2, none⟩) (show fieldB Tryz.prog 37 2 = some 2 from by kernel_rfl) rfl rfl) rfl rfl rfl ?_
  refine WO.val (run_load Ty.ag9 rfl ((hS4.cel_at 1 rfl 2).trans rfl)) rfl rfl rfl ?_
  refine WO.val (run_eqlS rfl rfl) rfl rfl rfl ?_
  refine WO.val (run_assign rfl) rfl rfl rfl ?_
  refine WO.nil ?_
  refine NX.go ?_
  refine WP.ret ?_
  refine NX.blkRet ?_
  refine NX.thenRet ?_
  refine NX.done (l := [.tmp 4]) rfl rfl ?_
  exact ⟨congrArg Value.bool (by simp [hold, g12] <;> intros <;> omega), (hS4.permT [1, 0] (L' := cel g2 [Value.int .i64 m.k, str m.n, str m.v] 37 :: Y :: L) rfl).drop⟩
 ·
  refine WP.seq ?_
  refine WP.region rfl ?_
  refine WO.val (run_eql rfl rfl) rfl rfl rfl ?_
  refine WO.val (run_assign rfl) rfl rfl rfl ?_
  refine WO.nil ?_
  refine NX.go ?_
  refine WP.condP rfl (fun g18 => ?_) (fun g18 => ?_)
  ·
   refine WP.seq ?_
   refine WP.region rfl ?_
   refine WO.val (run_move rfl) rfl rfl rfl ?_
   refine WO.val (run_fieldAddr (q := ⟨g2, 2, none⟩) (show fieldB Tryz.prog 37 2 = some 2 from by kernel_rfl) rfl rfl) rfl rfl rfl ?_
   refine WO.val (run_load Ty.ag9 rfl ((hS4.cel_at 1 rfl 2).trans rfl)) rfl rfl rfl ?_
   refine WO.val (run_neqS rfl rfl) rfl rfl rfl ?_
   refine WO.val (run_assign rfl) rfl rfl rfl ?_
   refine WO.nil ?_
   refine NX.go ?_
   refine WP.ret ?_
   refine NX.blkRet ?_
   refine NX.thenRet ?_
   refine NX.done (l := [.tmp 4]) rfl rfl ?_
   exact ⟨congrArg Value.bool (by simp [hold, g12, g18] <;> intros <;> omega), (hS4.permT [1, 0] (L' := cel g2 [Value.int .i64 m.k, str m.n, str m.v] 37 :: Y :: L) rfl).drop⟩
  ·
   refine WP.seq ?_
   refine WP.region rfl ?_
   refine WO.val (run_eql rfl rfl) rfl rfl rfl ?_
   refine WO.val (run_assign rfl) rfl rfl rfl ?_
   refine WO.nil ?_
   refine NX.go ?_
   refine WP.condP rfl (fun g24 => ?_) (fun g24 => ?_)
   ·
    refine WP.seq ?_
    refine WD.start (fun w => Rd w b ps.length 2 (ps.flatMap prc) ∧ (∀ j, World.cell? w ⟨g2, j, none⟩ = [Value.int .i64 m.k, str m.n, str m.v][j]?)) [] #[false, false, false, false, false, false, false, false, false, false, false, false, false, false, false, false, false] Ty.mo rfl (by kernel_rfl) hS4 (fun _ h => ⟨(hY (h.focus 0 rfl)), h.cel_at 1 rfl⟩) (fun w6 hS6 s7 => ?_)
    clear hS4
    refine WD.pure (i := 0) rholds_spec_t8 #[true, false, false, false, false, false, false, false, false, false, false, false, false, false, false, false, false] rfl rfl rfl (by kernel_rfl) (PQ.then (PQ.blk (PQ.then PQ.body))) rfl (fun w => run_move rfl) ?_
    refine WD.pure (i := 1) rholds_spec_t8 #[true, true, false, false, false, false, false, false, false, false, false, false, false, false, false, false, false] rfl rfl rfl (by kernel_rfl) (PQ.then (PQ.blk (PQ.then PQ.body))) rfl (fun w => run_lenS rfl Tryz.underlying9 rfl) ?_
    refine WD.pure (i := 2) rholds_spec_t8 #[true, true, true, false, false, false, false, false, false, false, false, false, false, false, false, false, false] rfl rfl rfl (by kernel_rfl) (PQ.then (PQ.blk (PQ.then PQ.body))) rfl (fun w => run_fieldAddr (q := ⟨g2, 2, none⟩) (show fieldB Tryz.prog 37 2 = some 2 from by kernel_rfl) rfl rfl) ?_
    refine WD.take (i := 3) rholds_spec_t8 #[true, true, true, true, false, false, false, false, false, false, false, false, false, false, false, false, false] s7 rfl rfl rfl (by kernel_rfl) (PQ.then (PQ.blk (PQ.then PQ.body))) rfl (fun w hs => run_load Ty.ag9 rfl ((hs.2 2).trans rfl)) ?_
    refine WD.pure (i := 4) rholds_spec_t8 #[true, true, true, true, true, false, false, false, false, false, false, false, false, false, false, false, false] rfl rfl rfl (by kernel_rfl) (PQ.then (PQ.blk (PQ.then PQ.body))) rfl (fun w => run_lenS rfl Tryz.underlying9 rfl) ?_
    refine WD.pure (i := 5) rholds_spec_t8 #[true, true, true, true, true, true, false, false, false, false, false, false, false, false, false, false, false] rfl rfl rfl (by kernel_rfl) (PQ.then (PQ.blk (PQ.then PQ.body))) rfl (fun w => run_geq rfl rfl) ?_
    refine WD.pure (i := 6) rholds_spec_t8 #[true, true, true, true, true, true, true, false, false, false, false, false, false, false, false, false, false] rfl rfl rfl (by kernel_rfl) (PQ.then (PQ.blk (PQ.then PQ.body))) rfl (fun w => run_move rfl) ?_
    by_cases g32 : (m.v.length : Int) ≤ ((getV m.n ps).length : Int)
    ·
     refine WD.pureOn (i := 7) rholds_spec_t8 #[true, true, true, true, true, true, true, true, false, false, false, false, false, false, false, false, false] rfl rfl rfl (decide_eq_true g32) (by kernel_rfl) (PQ.then (PQ.blk (PQ.then PQ.body))) rfl (fun w => run_move rfl) ?_
     refine WD.pureOn (i := 8) rholds_spec_t8 #[true, true, true, true, true, true, true, true, true, false, false, false, false, false, false, false, false] rfl rfl rfl (decide_eq_true g32) (by kernel_rfl) (PQ.then (PQ.blk (PQ.then PQ.body))) rfl (fun w => run_fieldAddr (q := ⟨g2, 2, none⟩) (show fieldB Tryz.prog 37 2 = some 2 from by kernel_rfl) rfl rfl) ?_
     refine WD.takeOn (i := 9) rholds_spec_t8 #[true, true, true, true, true, true, true, true, true, true, false, false, false, false, false, false, false] s7 rfl rfl rfl (decide_eq_true g32) (by kernel_rfl) (PQ.then (PQ.blk (PQ.then PQ.body))) rfl (fun w hs => run_load Ty.ag9 rfl ((hs.2 2).trans rfl)) ?_
     refine WD.pureOn (i := 10) rholds_spec_t8 #[true, true, true, true, true, true, true, true, true, true, true, false, false, false, false, false, false] rfl rfl rfl (decide_eq_true g32) (by kernel_rfl) (PQ.then (PQ.blk (PQ.then PQ.body))) rfl (fun w => run_lenS rfl Tryz.underlying9 rfl) ?_
     refine WD.pureOn (i := 11) rholds_spec_t8 #[true, true, true, true, true, true, true, true, true, true, true, true, false, false, false, false, false] rfl rfl rfl (decide_eq_true g32) (by kernel_rfl) (PQ.then (PQ.blk (PQ.then PQ.body))) rfl (fun w => run_sliceS (i := 0) (j := m.v.length) Tryz.underlying9 rfl rfl ⟨_, rfl⟩ (Nat.zero_le _) (by omega) (List.drop_zero)) ?_
     refine WD.pureOn (i := 12) rholds_spec_t8 #[true, true, true, true, true, true, true, true, true, true, true, true, true, false, false, false, false] rfl rfl rfl (decide_eq_true g32) (by kernel_rfl) (PQ.then (PQ.blk (PQ.then PQ.body))) rfl (fun w => run_fieldAddr (q := ⟨g2, 2, none⟩) (show fieldB Tryz.prog 37 2 = some 2 from by kernel_rfl) rfl rfl) ?_
     refine WD.takeOn (i := 13) rholds_spec_t8 #[true, true, true, true, true, true, true, true, true, true, true, true, true, true, false, false, false] s7 rfl rfl rfl (decide_eq_true g32) (by kernel_rfl) (PQ.then (PQ.blk (PQ.then PQ.body))) rfl (fun w hs => run_load Ty.ag9 rfl ((hs.2 2).trans rfl)) ?_
     refine WD.pureOn (i := 14) rholds_spec_t8 #[true, true, true, true, true, true, true, true, true, true, true, true, true, true, true, false, false] rfl rfl rfl (decide_eq_true g32) (by kernel_rfl) (PQ.then (PQ.blk (PQ.then PQ.body))) rfl (fun w => run_eqlS rfl rfl) ?_
     refine WD.pure (i := 15) rholds_spec_t8 #[true, true, true, true, true, true, true, true, true, true, true, true, true, true, true, true, false] rfl rfl rfl (by kernel_rfl) (PQ.then (PQ.blk (PQ.then PQ.body))) rfl (fun w => run_pickT rfl (decide_eq_true g32) rfl) ?_
     refine WD.pure (i := 16) rholds_spec_t8 #[true, true, true, true, true, true, true, true, true, true, true, true, true, true, true, true, true] rfl rfl rfl (by kernel_rfl) (PQ.then (PQ.blk (PQ.then PQ.body))) rfl (fun w => run_assign rfl) ?_
     refine WD.done rholds_spec_t8 (by kernel_rfl) ?_
     refine NX.go ?_
     refine WP.ret ?_
     refine NX.blkRet ?_
     refine NX.thenRet ?_
     refine NX.done (l := [.tmp 4]) rfl rfl ?_
     exact ⟨congrArg Value.bool (by simp [hold, g12, g18, g24, g32] <;> intros <;> omega), (hS6.permT [1, 0] (L' := cel g2 [Value.int .i64 m.k, str m.n, str m.v] 37 :: Y :: L) rfl).drop⟩
    ·
     refine WD.off (i := 7) rholds_spec_t8 #[true, true, true, true, true, true, true, true, false, false, false, false, false, false, false, false, false] rfl rfl rfl (decide_eq_false g32) (by kernel_rfl) (PQ.then (PQ.blk (PQ.then PQ.body))) rfl ?_
     refine WD.off (i := 8) rholds_spec_t8 #[true, true, true, true, true, true, true, true, true, false, false, false, false, false, false, false, false] rfl rfl rfl (decide_eq_false g32) (by kernel_rfl) (PQ.then (PQ.blk (PQ.then PQ.body))) rfl ?_
     refine WD.off (i := 9) rholds_spec_t8 #[true, true, true, true, true, true, true, true, true, true, false, false, false, false, false, false, false] rfl rfl rfl (decide_eq_false g32) (by kernel_rfl) (PQ.then (PQ.blk (PQ.then PQ.body))) rfl ?_
     refine WD.off (i := 10) rholds_spec_t8 #[true, true, true, true, true, true, true, true, true, true, true, false, false, false, false, false, false] rfl rfl rfl (decide_eq_false g32) (by kernel_rfl) (PQ.then (PQ.blk (PQ.then PQ.body))) rfl ?_
     refine WD.off (i := 11) rholds_spec_t8 #[true, true, true, true, true, true, true, true, true, true, true, true, false, false, false, false, false] rfl rfl rfl (decide_eq_false g32) (by kernel_rfl) (PQ.then (PQ.blk (PQ.then PQ.body))) rfl ?_
     refine WD.off (i := 12) rholds_spec_t8 #[true, true, true, true, true, true, true, true, true, true, true, true, true, false, false, false, false] rfl rfl rfl (decide_eq_false g32) (by kernel_rfl) (PQ.then (PQ.blk (PQ.then PQ.body))) rfl ?_
     refine WD.off (i := 13) rholds_spec_t8 #[true, true, true, true, true, true, true, true, true, true, true, true, true, true, false, false, false] rfl rfl rfl (decide_eq_false g32) (by kernel_rfl) (PQ.then (PQ.blk (PQ.then PQ.body))) rfl ?_
     refine WD.off (i := 14) rholds_spec_t8 #[true, true, true, true, true, true, true, true, true, true, true, true, true, true, true, false, false] rfl rfl rfl (decide_eq_false g32) (by kernel_rfl) (PQ.then (PQ.blk (PQ.then PQ.body))) rfl ?_
     refine WD.pure (i := 15) rholds_spec_t8 #[true, true, true, true, true, true, true, true, true, true, true, true, true, true, true, true, false] rfl rfl rfl (by kernel_rfl) (PQ.then (PQ.blk (PQ.then PQ.body))) rfl (fun w => run_pickF rfl (decide_eq_false g32) rfl) ?_
     refine WD.pure (i := 16) rholds_spec_t8 #[true, true, true, true, true, true, true, true, true, true, true, true, true, true, true, true, true] rfl rfl rfl (by kernel_rfl) (PQ.then (PQ.blk (PQ.then PQ.body))) rfl (fun w => run_assign rfl) ?_
     refine WD.done rholds_spec_t8 (by kernel_rfl) ?_
     refine NX.go ?_
     refine WP.ret ?_
     refine NX.blkRet ?_
     refine NX.thenRet ?_
     refine NX.done (l := [.tmp 4]) rfl rfl ?_
     exact ⟨congrArg Value.bool (by simp [hold, g12, g18, g24, g32] <;> intros <;> omega), (hS6.permT [1, 0] (L' := cel g2 [Value.int .i64 m.k, str m.n, str m.v] 37 :: Y :: L) rfl).drop⟩
   ·
    refine WP.skip ?_
    refine NX.blk ?_
    refine NX.go ?_
    refine WP.seq ?_
    refine WP.region rfl ?_
    refine WO.val (run_move rfl) rfl rfl rfl ?_
    refine WO.val (run_neqS rfl rfl) rfl rfl rfl ?_
    refine WO.val (run_assign rfl) rfl rfl rfl ?_
    refine WO.nil ?_
    refine NX.go ?_
    refine WP.ret ?_
    refine NX.done (l := [.tmp 4]) rfl rfl ?_
    exact ⟨congrArg Value.bool (by simp [hold, g12, g18, g24] <;> intros <;> omega), (hS4.permT [1, 0] (L' := cel g2 [Value.int .i64 m.k, str m.n, str m.v] 37 :: Y :: L) rfl).drop⟩
theorem ris_spec {B w : World} {L : List HP} {X Y : HP} {a b : Option Addr} {cap cap2 : Nat} {l : List Mt} {ps : List Pr} (hX : ∀ {L : List HP} {w : World}, St B (X :: L) w → Rd w a l.length 3 (l.flatMap mtc)) (hY : ∀ {L : List HP} {w : World}, St B (Y :: L) w → Rd w b ps.length 2 (ps.flatMap prc)) (hb : SzM l) (hl : l.length ≤ 4398046511104) (hl2 : ps.length ≤ 4398046511104) (hS : St B (X :: Y :: L) w) : Does Tryz.prog 21 [Value.slice a l.length cap, Value.slice b ps.length cap2] w (fun v w1 => v = .bool (isF l ps) ∧ St B (X :: Y :: L) w1) := by
 refine enter (n := 26) Tryz.func21 rfl rfl [Value.slice a l.length cap, Value.slice b ps.length cap2] rfl ?_
 refine WP.seq ?_
 refine WP.region rfl ?_
 refine WO.val (run_assign rfl) rfl rfl rfl ?_
 refine WO.nil ?_
 refine NX.go ?_
 refine WP.seq ?_
 refine WP.region rfl ?_
 refine WO.val (run_move rfl) rfl rfl rfl ?_
 refine WO.call rfl rfl Ty.hd29 rfl (rcheckm_spec hX hb hl hS) (fun v2 w1 pv2 => ?_)
 obtain ⟨rfl, hS1⟩ := pv2
 clear hS
 refine WO.val (run_eql rfl rfl) rfl rfl rfl ?_
 refine WO.val (run_assign rfl) rfl rfl rfl ?_
 refine WO.nil ?_
 refine NX.go ?_
 refine WP.seq ?_
 refine WP.seq ?_
 refine WP.region rfl ?_
 refine WO.val (run_assign rfl) rfl rfl rfl ?_
 refine WO.nil ?_
 refine NX.go ?_
 refine WP.block ?_
 refine WP.loop (α := Nat × Bool) (fun x => match x with | ⟨i, ok⟩ => [(0, Value.slice a l.length cap), (1, Value.slice b ps.length cap2), (5, Value.bool ok), (6, Value.int .i64 (i : Int))]) (fun x w => match x with | ⟨i, ok⟩ => (i ≤ l.length ∧ (ok && (l.drop i).all fun m => hold m (getV m.n ps)) = isF l ps) ∧ St B (X :: Y :: L) w) (fun x => match x with | ⟨i, ok⟩ => l.length - i) (0, decide (mchk l = 0)) ⟨⟨Nat.zero_le _, rfl⟩, hS1⟩ (Sub.cons rfl (Sub.cons rfl (Sub.consE rfl (by first | rfl | first | rfl | (congr 1; omega) | (simp; done) | (simp; omega)) (Sub.consE rfl (by first | rfl | first | rfl | (congr 1; omega) | (simp; done) | (simp; omega)) (Sub.nil _))))) ?_
 rintro ⟨i, ok⟩ w3 ⟨⟨hi, hgo⟩, hS3⟩
 clear hS1
 refine WP.seq ?_
 refine WP.seq ?_
 refine WP.region rfl ?_
 refine WO.val (run_move rfl) rfl rfl rfl ?_
 refine WO.val (run_move rfl) rfl rfl rfl ?_
 refine WO.val (run_len rfl Tryz.underlying28 rfl) rfl rfl rfl ?_
 refine WO.val (run_lss rfl rfl) rfl rfl rfl ?_
 refine WO.val (run_move rfl) rfl rfl rfl ?_
 by_cases g14 : (i : Int) < ((l.length : Nat) : Int)
 ·
  refine WO.on rfl rfl (decide_eq_true g14) ?_
  refine WO.val (run_move rfl) rfl rfl rfl ?_
  refine WO.val (run_pickT rfl (decide_eq_true g14) rfl) rfl rfl rfl ?_
  refine WO.nil ?_
  refine NX.go ?_
  refine WP.condB rfl (fun g16 => ?_) (fun g16 => ?_)
  ·
   refine WP.skip ?_
   refine NX.go ?_
   refine WP.seq ?_
   refine WP.block ?_
   refine WP.region rfl ?_
   refine WO.val (run_move rfl) rfl rfl rfl ?_
   refine WO.val (run_move rfl) rfl rfl rfl ?_
   obtain ⟨m, hm⟩ : ∃ m, l[i]? = some m := ⟨_, List.getElem?_eq_getElem (by omega)⟩
   refine WO.val (run_indexAddr (q := adr a (i * 3)) Tryz.underlying28 Ty.sz37 rfl rfl (by omega) (by omega) ((hX (hS3.focus 0 rfl)).2.1 (by omega)) rfl) rfl rfl rfl ?_
   refine WO.val (run_loadAgg (vs := [Value.int .i64 m.k, str m.n, str m.v]) Ty.ag37 Ty.sz37 rfl ((hX (hS3.focus 0 rfl)).cells (by rw [flat_len mtc_len]; omega) (flat_part mtc_len hm)).1 ((hX (hS3.focus 0 rfl)).cells (by rw [flat_len mtc_len]; omega) (flat_part mtc_len hm)).2) rfl rfl rfl ?_
   refine WO.val (run_move rfl) rfl rfl rfl ?_
   have hS4 := hS3.permT [1, 0] (L' := Y :: X :: L) rfl
   clear hS3
   refine WO.call rfl rfl Ty.hd30 rfl (rholds_spec hY hl2 m hS4) (fun v6 w5 pv6 => ?_)
   obtain ⟨rfl, hS5⟩ := pv6
   clear hS4
   refine WO.val (run_assign rfl) rfl rfl rfl ?_
   refine WO.nil ?_
   refine NX.blk ?_
   refine NX.go ?_
   refine WP.region rfl ?_
   refine WO.val (run_move rfl) rfl rfl rfl ?_
   refine WO.val (run_add rfl rfl (IntWalk.i64_in _ (by omega))) rfl rfl rfl ?_
   refine WO.val (run_assign rfl) rfl rfl rfl ?_
   refine WO.nil ?_
   exact NX.again (i + 1, hold m (getV m.n ps)) ⟨⟨by omega, by rw [drop_cons hm, g16] at hgo; rw [← hgo]; simp⟩, (hS5.permT [1, 0] (L' := X :: Y :: L) rfl)⟩ (by show l.length - (i + 1) < l.length - i; omega) (Sub.cons rfl (Sub.cons rfl (Sub.consE rfl rfl (Sub.consE rfl (by congr 1) (Sub.nil _)))))
  ·
   refine WP.exit ?_
   refine NX.thenExit ?_
   refine NX.thenExit ?_
   refine NX.blkExit ?_
   refine NX.go ?_
   refine WP.seq ?_
   refine WP.region rfl ?_
   refine WO.val (run_move rfl) rfl rfl rfl ?_
   refine WO.val (run_assign rfl) rfl rfl rfl ?_
   refine WO.nil ?_
   refine NX.go ?_
   refine WP.ret ?_
   refine NX.done (l := [.tmp 4]) rfl rfl ?_
   exact ⟨congrArg Value.bool (by rw [← hgo, g16]; rfl), hS3⟩
 ·
  refine WO.off rfl rfl (decide_eq_false g14) rfl ?_
  refine WO.val (run_pickF rfl (decide_eq_false g14) rfl) rfl rfl rfl ?_
  refine WO.nil ?_
  refine NX.go ?_
  refine WP.condF rfl rfl ?_
  refine WP.exit ?_
  refine NX.thenExit ?_
  refine NX.thenExit ?_
  refine NX.blkExit ?_
  refine NX.go ?_
  refine WP.seq ?_
  refine WP.region rfl ?_
  refine WO.val (run_move rfl) rfl rfl rfl ?_
  refine WO.val (run_assign rfl) rfl rfl rfl ?_
  refine WO.nil ?_
  refine NX.go ?_
  refine WP.ret ?_
  refine NX.done (l := [.tmp 4]) rfl rfl ?_
  exact ⟨congrArg Value.bool (by rw [← hgo, List.drop_of_length_le (by omega)]; simp), hS3⟩
end Go.Proofs.YtogidmceomlkeaaGreatDoor.SL
