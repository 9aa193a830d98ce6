/- The document's manifest, published and loaded. -/
import Derived.Test.YtcehlnpbdffdhaaGreatDoorPbM
import Derived.Test.YtcehlnpbdffdhaaGreatDoorRe8
namespace Go.Proofs.YtcehlnpbdffdhaaGreatDoor.SL
open Go.RowKit Go.Proofs.YtcehlnpbdffdhaaGreatDoor
open Go.Proofs.YtcehlnpbdffdhaaGreatDoorW.PrintLast (rtab opsOf)
set_option linter.unusedVariables false
set_option linter.unusedSimpArgs false

theorem runP_a (s : List UInt8) (E : Dk) : runD (stepsP s) E = if (appendD E [110] s).2 = 0 then runD [fun D => syncD D [110], fun D => renameD D [110] [109], syncNamesD] (appendD E [110] s).1 else appendD E [110] s := rfl
theorem runP_r (s : List UInt8) (E : Dk) : runD (stepsR s) E = if (removeD E [110]).2 = 0 then runD (stepsP s) (removeD E [110]).1 else removeD E [110] := rfl
theorem runP_b (E : Dk) : runD [fun D => syncD D [110], fun D => renameD D [110] [109], syncNamesD] E = if (syncD E [110]).2 = 0 then runD [fun D => renameD D [110] [109], syncNamesD] (syncD E [110]).1 else syncD E [110] := rfl
theorem runP_c (E : Dk) : runD [fun D => renameD D [110] [109], syncNamesD] E = if (renameD E [110] [109]).2 = 0 then runD [syncNamesD] (renameD E [110] [109]).1 else renameD E [110] [109] := rfl
theorem runP_d (E : Dk) : runD [syncNamesD] E = syncNamesD E := by
  show (if (syncNamesD E).2 = 0 then ((syncNamesD E).1, (0 : Int)) else syncNamesD E) = syncNamesD E
  split
  · rename_i h; rw [← h]
  · rfl
theorem rpublish_spec {B w : World} {L : List HP} {X : HP} {a : Option Addr} {cap : Nat} {m : Man} {g n t : Nat} {D : Dk} (hX : ∀ {L : List HP} {w : World}, St B (X :: L) w → Rd w a m.bl.length 1 (m.bl.map str)) (hr : RngM m) (hk : OkD D n t) (hn : n ≤ 100000) (ht : t ≤ 100000000) (hel : (encM m).1.length ≤ 100000) (hS : St B (refA g D :: X :: L) w) : Does Tryz.prog 28 [Value.pointer (some ⟨g, 0, none⟩), Value.agg #[Value.int .i64 m.e, Value.int .i64 m.b, Value.int .i64 m.p, Value.int .i64 m.k, Value.int .i64 m.c, Value.slice a m.bl.length cap]] w (fun v w1 => v = .int .i64 (publishD D m).2 ∧ St B (refA g (publishD D m).1 :: X :: L) w1) := by
 refine enter (n := 43) Tryz.func28 rfl rfl [Value.pointer (some ⟨g, 0, none⟩), Value.agg #[Value.int .i64 m.e, Value.int .i64 m.b, Value.int .i64 m.p, Value.int .i64 m.k, Value.int .i64 m.c, Value.slice a m.bl.length cap]] rfl ?_
 refine WP.seq (WP.region rfl ?_)
 refine WO.box (l := [Value.int .i64 m.e, Value.int .i64 m.b, Value.int .i64 m.p, Value.int .i64 m.k, Value.int .i64 m.c, Value.slice a m.bl.length cap]) hS rfl rfl rfl (fun g2 w1 lg2 hS1 => ?_)
 clear hS
 refine WO.asg rfl rfl ?_
 refine WO.nil (NX.go (WP.seq (WP.region rfl ?_)))
 refine WO.val (run_loadAgg (vs := [Value.int .i64 m.e, Value.int .i64 m.b, Value.int .i64 m.p, Value.int .i64 m.k, Value.int .i64 m.c, Value.slice a m.bl.length cap]) Ty.ag24 Ty.sz24 rfl rfl (cell_all (hS1.cel_at 0 rfl) 0 rfl)) rfl rfl rfl ?_
 have hS3 := hS1.permT [2, 0, 0] (L' := X :: cel g2 [Value.int .i64 m.e, Value.int .i64 m.b, Value.int .i64 m.p, Value.int .i64 m.k, Value.int .i64 m.c, Value.slice a m.bl.length cap] 24 :: refA g D :: L) rfl
 clear hS1
 refine WO.call rfl rfl Ty.hd69 rfl (rencM_spec (m := m) hX hr hS3) (fun v5 w4 pv5 => ?_)
 obtain ⟨rfl, hS4⟩ := pv5
 clear hS3
 refine WO.mv rfl rfl ?_
 refine WO.val (run_extract rfl rfl) rfl rfl rfl ?_
 refine WO.val (run_extract rfl rfl) rfl rfl rfl ?_
 refine WO.asg rfl rfl ?_
 refine WO.asg rfl rfl ?_
 refine WO.nil (NX.go (WP.seq (WP.seq (WP.region rfl ?_))))
 refine WO.mv rfl rfl ?_
 refine WO.val (run_neq rfl rfl) rfl rfl rfl ?_
 refine WO.nil (NX.go ?_)
 refine WP.condP rfl (fun g13 => ?_) (fun g13 => ?_)
 ·
  refine WP.seq (WP.region rfl ?_)
  refine WO.mv rfl rfl ?_
  refine WO.asg rfl rfl ?_
  refine WO.nil (NX.go (WP.ret (NX.thenRet ?_)))
  refine NX.done (l := [.tmp 4]) rfl rfl ?_
  have e0 : publishD D m = (D, (encM m).2) := by unfold publishD; rw [if_pos g13]
  rw [e0]
  exact ⟨rfl, (hS4.permT [1, 1, 0] (L' := cel g2 [Value.int .i64 m.e, Value.int .i64 m.b, Value.int .i64 m.p, Value.int .i64 m.k, Value.int .i64 m.c, Value.slice a m.bl.length cap] 24 :: refA g D :: X :: L) rfl).drop⟩
 ·
  refine WP.skip (NX.go (WP.seq (WP.region rfl ?_)))
  refine WO.mv rfl rfl ?_
  have hS6 := hS4.permT [2, 0, 0] (L' := refA g D :: X :: cel g2 [Value.int .i64 m.e, Value.int .i64 m.b, Value.int .i64 m.p, Value.int .i64 m.k, Value.int .i64 m.c, Value.slice a m.bl.length cap] 24 :: L) rfl
  clear hS4
  refine WO.call rfl rfl Ty.hd70 rfl (r4read_spec hk (by omega) (by omega) [110] hS6) (fun v8 w7 pv8 => ?_)
  obtain ⟨rfl, hS7⟩ := pv8
  clear hS6
  refine WO.mv rfl rfl ?_
  refine WO.val (run_extract rfl rfl) rfl rfl rfl ?_
  refine WO.val (run_extract rfl rfl) rfl rfl rfl ?_
  refine WO.asg rfl rfl ?_
  refine WO.nil (NX.go (WP.seq (WP.seq (WP.region rfl ?_))))
  refine WO.mv rfl rfl ?_
  refine WO.val (run_eql rfl rfl) rfl rfl rfl ?_
  refine WO.nil (NX.go ?_)
  refine WP.condP rfl (fun g21 => ?_) (fun g21 => ?_)
  ·
   refine WP.seq (WP.region rfl ?_)
   refine WO.mv rfl rfl ?_
   refine WO.call rfl rfl Ty.hd71 rfl (r4remove_spec hk (by omega) (by omega) [110] hS7) (fun v10 w9 pv10 => ?_)
   obtain ⟨rfl, hS9⟩ := pv10
   clear hS7
   refine WO.asg rfl rfl ?_
   refine WO.nil (NX.go (WP.seq (WP.region rfl ?_)))
   refine WO.mv rfl rfl ?_
   refine WO.val (run_neq rfl rfl) rfl rfl rfl ?_
   refine WO.nil (NX.go ?_)
   refine WP.condP rfl (fun g25 => ?_) (fun g25 => ?_)
   ·
    refine WP.seq (WP.region rfl ?_)
    refine WO.mv rfl rfl ?_
    refine WO.asg rfl rfl ?_
    refine WO.nil (NX.go (WP.ret (NX.thenRet ?_)))
    refine NX.done (l := [.tmp 4]) rfl rfl ?_
    have e0 : publishD D m = ((removeD D [110]).1, (removeD D [110]).2) := by unfold publishD; rw [if_neg g13, if_pos g21, runP_r, if_neg g25]
    rw [e0]
    exact ⟨rfl, (hS9.permT [2, 0, 0] (L' := cel g2 [Value.int .i64 m.e, Value.int .i64 m.b, Value.int .i64 m.p, Value.int .i64 m.k, Value.int .i64 m.c, Value.slice a m.bl.length cap] 24 :: refA g ((removeD D [110]).1) :: X :: L) rfl).drop⟩
   ·
    refine WP.skip (NX.go (WP.seq (WP.region rfl ?_)))
    refine WO.mv rfl rfl ?_
    refine WO.mv rfl rfl ?_
    refine WO.call rfl rfl Ty.hd25 rfl (r4append_spec (hk.remove) (by omega) (by omega) [110] (encM m).1 (by decide) (by omega) hS9) (fun v12 w11 pv12 => ?_)
    obtain ⟨rfl, hS11⟩ := pv12
    clear hS9
    refine WO.asg rfl rfl ?_
    refine WO.nil (NX.go (WP.seq (WP.seq (WP.region rfl ?_))))
    refine WO.mv rfl rfl ?_
    refine WO.val (run_eql rfl rfl) rfl rfl rfl ?_
    refine WO.nil (NX.go ?_)
    refine WP.condP rfl (fun g31 => ?_) (fun g31 => ?_)
    ·
     refine WP.region rfl ?_
     refine WO.mv rfl rfl ?_
     refine WO.call rfl rfl Ty.hd72 rfl (r4sync_spec ((hk.remove).append) (by omega) (by omega) [110] hS11) (fun v14 w13 pv14 => ?_)
     obtain ⟨rfl, hS13⟩ := pv14
     clear hS11
     refine WO.asg rfl rfl ?_
     refine WO.nil (NX.go (WP.seq (WP.seq (WP.region rfl ?_))))
     refine WO.mv rfl rfl ?_
     refine WO.val (run_eql rfl rfl) rfl rfl rfl ?_
     refine WO.nil (NX.go ?_)
     refine WP.condP rfl (fun g35 => ?_) (fun g35 => ?_)
     ·
      refine WP.region rfl ?_
      refine WO.mv rfl rfl ?_
      refine WO.call rfl rfl Ty.hd73 rfl (r4rename_spec (((hk.remove).append).sync) (by omega) (by omega) [110] [109] (by decide) hS13) (fun v16 w15 pv16 => ?_)
      obtain ⟨rfl, hS15⟩ := pv16
      clear hS13
      refine WO.asg rfl rfl ?_
      refine WO.nil (NX.go (WP.seq (WP.seq (WP.region rfl ?_))))
      refine WO.mv rfl rfl ?_
      refine WO.val (run_eql rfl rfl) rfl rfl rfl ?_
      refine WO.nil (NX.go ?_)
      refine WP.condP rfl (fun g39 => ?_) (fun g39 => ?_)
      ·
       refine WP.region rfl ?_
       refine WO.mv rfl rfl ?_
       refine WO.call rfl rfl Ty.hd74 rfl (r4syncNames_spec ((((hk.remove).append).sync).rename) hS15) (fun v18 w17 pv18 => ?_)
       obtain ⟨rfl, hS17⟩ := pv18
       clear hS15
       refine WO.asg rfl rfl ?_
       refine WO.nil (NX.go (WP.seq (WP.region rfl ?_)))
       refine WO.mv rfl rfl ?_
       refine WO.asg rfl rfl ?_
       refine WO.nil (NX.go (WP.ret ?_))
       refine NX.done (l := [.tmp 4]) rfl rfl ?_
       have e0 : publishD D m = ((syncNamesD ((renameD ((syncD ((appendD ((removeD D [110]).1) [110] (encM m).1).1) [110]).1) [110] [109]).1)).1, (syncNamesD ((renameD ((syncD ((appendD ((removeD D [110]).1) [110] (encM m).1).1) [110]).1) [110] [109]).1)).2) := by unfold publishD; rw [if_neg g13, if_pos g21, runP_r, if_pos (Decidable.of_not_not g25), runP_a, if_pos g31, runP_b, if_pos g35, runP_c, if_pos g39, runP_d]
       rw [e0]
       exact ⟨rfl, (hS17.permT [2, 0, 0] (L' := cel g2 [Value.int .i64 m.e, Value.int .i64 m.b, Value.int .i64 m.p, Value.int .i64 m.k, Value.int .i64 m.c, Value.slice a m.bl.length cap] 24 :: refA g ((syncNamesD ((renameD ((syncD ((appendD ((removeD D [110]).1) [110] (encM m).1).1) [110]).1) [110] [109]).1)).1) :: X :: L) rfl).drop⟩
      ·
       refine WP.skip (NX.go (WP.seq (WP.region rfl ?_)))
       refine WO.mv rfl rfl ?_
       refine WO.asg rfl rfl ?_
       refine WO.nil (NX.go (WP.ret ?_))
       refine NX.done (l := [.tmp 4]) rfl rfl ?_
       have e0 : publishD D m = ((renameD ((syncD ((appendD ((removeD D [110]).1) [110] (encM m).1).1) [110]).1) [110] [109]).1, (renameD ((syncD ((appendD ((removeD D [110]).1) [110] (encM m).1).1) [110]).1) [110] [109]).2) := by unfold publishD; rw [if_neg g13, if_pos g21, runP_r, if_pos (Decidable.of_not_not g25), runP_a, if_pos g31, runP_b, if_pos g35, runP_c, if_neg g39]
       rw [e0]
       exact ⟨rfl, (hS15.permT [2, 0, 0] (L' := cel g2 [Value.int .i64 m.e, Value.int .i64 m.b, Value.int .i64 m.p, Value.int .i64 m.k, Value.int .i64 m.c, Value.slice a m.bl.length cap] 24 :: refA g ((renameD ((syncD ((appendD ((removeD D [110]).1) [110] (encM m).1).1) [110]).1) [110] [109]).1) :: X :: L) rfl).drop⟩
     ·
      refine WP.skip (NX.go (WP.seq (WP.seq (WP.region rfl ?_))))
      refine WO.mv rfl rfl ?_
      refine WO.val (run_eql rfl rfl) rfl rfl rfl ?_
      refine WO.nil (NX.go ?_)
      refine WP.condP rfl (fun g39 => ?_) (fun g39 => ?_)
      ·
       exact absurd g39 g35
      ·
       refine WP.skip (NX.go (WP.seq (WP.region rfl ?_)))
       refine WO.mv rfl rfl ?_
       refine WO.asg rfl rfl ?_
       refine WO.nil (NX.go (WP.ret ?_))
       refine NX.done (l := [.tmp 4]) rfl rfl ?_
       have e0 : publishD D m = ((syncD ((appendD ((removeD D [110]).1) [110] (encM m).1).1) [110]).1, (syncD ((appendD ((removeD D [110]).1) [110] (encM m).1).1) [110]).2) := by unfold publishD; rw [if_neg g13, if_pos g21, runP_r, if_pos (Decidable.of_not_not g25), runP_a, if_pos g31, runP_b, if_neg g35]
       rw [e0]
       exact ⟨rfl, (hS13.permT [2, 0, 0] (L' := cel g2 [Value.int .i64 m.e, Value.int .i64 m.b, Value.int .i64 m.p, Value.int .i64 m.k, Value.int .i64 m.c, Value.slice a m.bl.length cap] 24 :: refA g ((syncD ((appendD ((removeD D [110]).1) [110] (encM m).1).1) [110]).1) :: X :: L) rfl).drop⟩
    ·
     refine WP.skip (NX.go (WP.seq (WP.seq (WP.region rfl ?_))))
     refine WO.mv rfl rfl ?_
     refine WO.val (run_eql rfl rfl) rfl rfl rfl ?_
     refine WO.nil (NX.go ?_)
     refine WP.condP rfl (fun g35 => ?_) (fun g35 => ?_)
     ·
      exact absurd g35 g31
     ·
      refine WP.skip (NX.go (WP.seq (WP.seq (WP.region rfl ?_))))
      refine WO.mv rfl rfl ?_
      refine WO.val (run_eql rfl rfl) rfl rfl rfl ?_
      refine WO.nil (NX.go ?_)
      refine WP.condP rfl (fun g39 => ?_) (fun g39 => ?_)
      ·
       exact absurd g39 g31
      ·
       refine WP.skip (NX.go (WP.seq (WP.region rfl ?_)))
       refine WO.mv rfl rfl ?_
       refine WO.asg rfl rfl ?_
       refine WO.nil (NX.go (WP.ret ?_))
       refine NX.done (l := [.tmp 4]) rfl rfl ?_
       have e0 : publishD D m = ((appendD ((removeD D [110]).1) [110] (encM m).1).1, (appendD ((removeD D [110]).1) [110] (encM m).1).2) := by unfold publishD; rw [if_neg g13, if_pos g21, runP_r, if_pos (Decidable.of_not_not g25), runP_a, if_neg g31]
       rw [e0]
       exact ⟨rfl, (hS11.permT [2, 0, 0] (L' := cel g2 [Value.int .i64 m.e, Value.int .i64 m.b, Value.int .i64 m.p, Value.int .i64 m.k, Value.int .i64 m.c, Value.slice a m.bl.length cap] 24 :: refA g ((appendD ((removeD D [110]).1) [110] (encM m).1).1) :: X :: L) rfl).drop⟩
  ·
   refine WP.skip (NX.go (WP.seq (WP.region rfl ?_)))
   refine WO.mv rfl rfl ?_
   refine WO.mv rfl rfl ?_
   refine WO.call rfl rfl Ty.hd25 rfl (r4append_spec hk (by omega) (by omega) [110] (encM m).1 (by decide) (by omega) hS7) (fun v20 w19 pv20 => ?_)
   obtain ⟨rfl, hS19⟩ := pv20
   clear hS7
   refine WO.asg rfl rfl ?_
   refine WO.nil (NX.go (WP.seq (WP.seq (WP.region rfl ?_))))
   refine WO.mv rfl rfl ?_
   refine WO.val (run_eql rfl rfl) rfl rfl rfl ?_
   refine WO.nil (NX.go ?_)
   refine WP.condP rfl (fun g31 => ?_) (fun g31 => ?_)
   ·
    refine WP.region rfl ?_
    refine WO.mv rfl rfl ?_
    refine WO.call rfl rfl Ty.hd72 rfl (r4sync_spec (hk.append) (by omega) (by omega) [110] hS19) (fun v22 w21 pv22 => ?_)
    obtain ⟨rfl, hS21⟩ := pv22
    clear hS19
    refine WO.asg rfl rfl ?_
    refine WO.nil (NX.go (WP.seq (WP.seq (WP.region rfl ?_))))
    refine WO.mv rfl rfl ?_
    refine WO.val (run_eql rfl rfl) rfl rfl rfl ?_
    refine WO.nil (NX.go ?_)
    refine WP.condP rfl (fun g35 => ?_) (fun g35 => ?_)
    ·
     refine WP.region rfl ?_
     refine WO.mv rfl rfl ?_
     refine WO.call rfl rfl Ty.hd73 rfl (r4rename_spec ((hk.append).sync) (by omega) (by omega) [110] [109] (by decide) hS21) (fun v24 w23 pv24 => ?_)
     obtain ⟨rfl, hS23⟩ := pv24
     clear hS21
     refine WO.asg rfl rfl ?_
     refine WO.nil (NX.go (WP.seq (WP.seq (WP.region rfl ?_))))
     refine WO.mv rfl rfl ?_
     refine WO.val (run_eql rfl rfl) rfl rfl rfl ?_
     refine WO.nil (NX.go ?_)
     refine WP.condP rfl (fun g39 => ?_) (fun g39 => ?_)
     ·
      refine WP.region rfl ?_
      refine WO.mv rfl rfl ?_
      refine WO.call rfl rfl Ty.hd74 rfl (r4syncNames_spec (((hk.append).sync).rename) hS23) (fun v26 w25 pv26 => ?_)
      obtain ⟨rfl, hS25⟩ := pv26
      clear hS23
      refine WO.asg rfl rfl ?_
      refine WO.nil (NX.go (WP.seq (WP.region rfl ?_)))
      refine WO.mv rfl rfl ?_
      refine WO.asg rfl rfl ?_
      refine WO.nil (NX.go (WP.ret ?_))
      refine NX.done (l := [.tmp 4]) rfl rfl ?_
      have e0 : publishD D m = ((syncNamesD ((renameD ((syncD ((appendD D [110] (encM m).1).1) [110]).1) [110] [109]).1)).1, (syncNamesD ((renameD ((syncD ((appendD D [110] (encM m).1).1) [110]).1) [110] [109]).1)).2) := by unfold publishD; rw [if_neg g13, if_neg g21, runP_a, if_pos g31, runP_b, if_pos g35, runP_c, if_pos g39, runP_d]
      rw [e0]
      exact ⟨rfl, (hS25.permT [2, 0, 0] (L' := cel g2 [Value.int .i64 m.e, Value.int .i64 m.b, Value.int .i64 m.p, Value.int .i64 m.k, Value.int .i64 m.c, Value.slice a m.bl.length cap] 24 :: refA g ((syncNamesD ((renameD ((syncD ((appendD D [110] (encM m).1).1) [110]).1) [110] [109]).1)).1) :: X :: L) rfl).drop⟩
     ·
      refine WP.skip (NX.go (WP.seq (WP.region rfl ?_)))
      refine WO.mv rfl rfl ?_
      refine WO.asg rfl rfl ?_
      refine WO.nil (NX.go (WP.ret ?_))
      refine NX.done (l := [.tmp 4]) rfl rfl ?_
      have e0 : publishD D m = ((renameD ((syncD ((appendD D [110] (encM m).1).1) [110]).1) [110] [109]).1, (renameD ((syncD ((appendD D [110] (encM m).1).1) [110]).1) [110] [109]).2) := by unfold publishD; rw [if_neg g13, if_neg g21, runP_a, if_pos g31, runP_b, if_pos g35, runP_c, if_neg g39]
      rw [e0]
      exact ⟨rfl, (hS23.permT [2, 0, 0] (L' := cel g2 [Value.int .i64 m.e, Value.int .i64 m.b, Value.int .i64 m.p, Value.int .i64 m.k, Value.int .i64 m.c, Value.slice a m.bl.length cap] 24 :: refA g ((renameD ((syncD ((appendD D [110] (encM m).1).1) [110]).1) [110] [109]).1) :: X :: L) rfl).drop⟩
    ·
     refine WP.skip (NX.go (WP.seq (WP.seq (WP.region rfl ?_))))
     refine WO.mv rfl rfl ?_
     refine WO.val (run_eql rfl rfl) rfl rfl rfl ?_
     refine WO.nil (NX.go ?_)
     refine WP.condP rfl (fun g39 => ?_) (fun g39 => ?_)
     ·
      exact absurd g39 g35
     ·
      refine WP.skip (NX.go (WP.seq (WP.region rfl ?_)))
      refine WO.mv rfl rfl ?_
      refine WO.asg rfl rfl ?_
      refine WO.nil (NX.go (WP.ret ?_))
      refine NX.done (l := [.tmp 4]) rfl rfl ?_
      have e0 : publishD D m = ((syncD ((appendD D [110] (encM m).1).1) [110]).1, (syncD ((appendD D [110] (encM m).1).1) [110]).2) := by unfold publishD; rw [if_neg g13, if_neg g21, runP_a, if_pos g31, runP_b, if_neg g35]
      rw [e0]
      exact ⟨rfl, (hS21.permT [2, 0, 0] (L' := cel g2 [Value.int .i64 m.e, Value.int .i64 m.b, Value.int .i64 m.p, Value.int .i64 m.k, Value.int .i64 m.c, Value.slice a m.bl.length cap] 24 :: refA g ((syncD ((appendD D [110] (encM m).1).1) [110]).1) :: X :: L) rfl).drop⟩
   ·
    refine WP.skip (NX.go (WP.seq (WP.seq (WP.region rfl ?_))))
    refine WO.mv rfl rfl ?_
    refine WO.val (run_eql rfl rfl) rfl rfl rfl ?_
    refine WO.nil (NX.go ?_)
    refine WP.condP rfl (fun g35 => ?_) (fun g35 => ?_)
    ·
     exact absurd g35 g31
    ·
     refine WP.skip (NX.go (WP.seq (WP.seq (WP.region rfl ?_))))
     refine WO.mv rfl rfl ?_
     refine WO.val (run_eql rfl rfl) rfl rfl rfl ?_
     refine WO.nil (NX.go ?_)
     refine WP.condP rfl (fun g39 => ?_) (fun g39 => ?_)
     ·
      exact absurd g39 g31
     ·
      refine WP.skip (NX.go (WP.seq (WP.region rfl ?_)))
      refine WO.mv rfl rfl ?_
      refine WO.asg rfl rfl ?_
      refine WO.nil (NX.go (WP.ret ?_))
      refine NX.done (l := [.tmp 4]) rfl rfl ?_
      have e0 : publishD D m = ((appendD D [110] (encM m).1).1, (appendD D [110] (encM m).1).2) := by unfold publishD; rw [if_neg g13, if_neg g21, runP_a, if_neg g31]
      rw [e0]
      exact ⟨rfl, (hS19.permT [2, 0, 0] (L' := cel g2 [Value.int .i64 m.e, Value.int .i64 m.b, Value.int .i64 m.p, Value.int .i64 m.k, Value.int .i64 m.c, Value.slice a m.bl.length cap] 24 :: refA g ((appendD D [110] (encM m).1).1) :: X :: L) rfl).drop⟩
theorem rload_spec {B w : World} {L : List HP} {g n t : Nat} {D : Dk} (hk : OkD D n t) (hn : n ≤ 1000000000) (ht : t ≤ 100000000) (hS : St B (refA g D :: L) w) : Does Tryz.prog 29 [Value.pointer (some ⟨g, 0, none⟩)] w (fun v w1 => ∃ (a : Option Addr) (cap : Nat), v = .tuple #[manV (loadD D).1 a cap, .int .i64 (loadD D).2] ∧ RngM (loadD D).1 ∧ St B (own a (loadD D).1.bl.length cap 9 1 ((loadD D).1.bl.map str) :: refA g D :: L) w1) := by
 refine enter (n := 23) Tryz.func29 rfl rfl [Value.pointer (some ⟨g, 0, none⟩)] rfl ?_
 refine WP.seq (WP.region rfl ?_)
 refine WO.alloc (l := [Value.int .i64 0, Value.int .i64 0, Value.int .i64 0, Value.int .i64 0, Value.int .i64 0, Value.slice none 0 0]) hS Ty.zr24 rfl rfl (fun g2 w1 lg2 hS1 => ?_)
 clear hS
 refine WO.asg rfl rfl ?_
 refine WO.nil (NX.go (WP.seq (WP.region rfl ?_)))
 refine WO.mv rfl rfl ?_
 have hS3 := hS1.permT [1, 0] (L' := refA g D :: cel g2 [Value.int .i64 0, Value.int .i64 0, Value.int .i64 0, Value.int .i64 0, Value.int .i64 0, Value.slice none 0 0] 24 :: L) rfl
 clear hS1
 refine WO.call rfl rfl Ty.hd70 rfl (r4read_spec hk (by omega) (by omega) [109] hS3) (fun v5 w4 pv5 => ?_)
 obtain ⟨rfl, hS4⟩ := pv5
 clear hS3
 refine WO.mv rfl rfl ?_
 refine WO.val (run_extract rfl rfl) rfl rfl rfl ?_
 refine WO.val (run_extract rfl rfl) rfl rfl rfl ?_
 refine WO.asg rfl rfl ?_
 refine WO.asg rfl rfl ?_
 refine WO.nil (NX.go (WP.seq (WP.seq (WP.region rfl ?_))))
 refine WO.mv rfl rfl ?_
 refine WO.nil (NX.go (WP.block (WP.seq (WP.region rfl ?_))))
 refine WO.val (run_eql rfl rfl) rfl rfl rfl ?_
 refine WO.asg rfl rfl ?_
 refine WO.nil (NX.go ?_)
 refine WP.condP rfl (fun g12 => ?_) (fun g12 => ?_)
 ·
  refine WP.seq (WP.region rfl ?_)
  refine WO.mv rfl rfl ?_
  refine WO.call rfl rfl Ty.hd75 rfl (rdecM_spec (readD D [109]).1 (by have := readD_len (k := [109]) hk; omega) hS4) (fun v7 w6 pv7 => ?_)
  obtain ⟨da, dc, rfl, hrd, hS6⟩ := pv7
  clear hS4
  refine WO.val (run_extract rfl rfl) rfl rfl rfl ?_
  refine WO.val (run_extract rfl rfl) rfl rfl rfl ?_
  refine WO.store (l' := [Value.int .i64 ((decM (readD D [109]).1).1.e), Value.int .i64 ((decM (readD D [109]).1).1.b), Value.int .i64 ((decM (readD D [109]).1).1.p), Value.int .i64 ((decM (readD D [109]).1).1.k), Value.int .i64 ((decM (readD D [109]).1).1.c), Value.slice da ((decM (readD D [109]).1).1.bl.length) dc]) 2 hS6 rfl Ty.sz24 rfl rfl rfl rfl rfl (Nat.le_of_ble_eq_true rfl) rfl (fun w8 (hS8 : St B (own da ((decM (readD D [109]).1).1.bl.length) dc 9 1 ((decM (readD D [109]).1).1.bl.map str) :: refA g D :: cel g2 [Value.int .i64 ((decM (readD D [109]).1).1.e), Value.int .i64 ((decM (readD D [109]).1).1.b), Value.int .i64 ((decM (readD D [109]).1).1.p), Value.int .i64 ((decM (readD D [109]).1).1.k), Value.int .i64 ((decM (readD D [109]).1).1.c), Value.slice da ((decM (readD D [109]).1).1.bl.length) dc] 24 :: L) w8) => ?_)
  clear hS6
  refine WO.asg rfl rfl ?_
  refine WO.nil (NX.go (WP.ret (NX.blkRet (NX.thenRet ?_))))
  refine NX.doneC (l := [.cell 2 24, .tmp 3]) rfl (.cons (.cell rfl (loadVar_agg (vs := [Value.int .i64 ((decM (readD D [109]).1).1.e), Value.int .i64 ((decM (readD D [109]).1).1.b), Value.int .i64 ((decM (readD D [109]).1).1.p), Value.int .i64 ((decM (readD D [109]).1).1.k), Value.int .i64 ((decM (readD D [109]).1).1.c), Value.slice da ((decM (readD D [109]).1).1.bl.length) dc]) Ty.ag24 Ty.sz24 rfl (cell_all (hS8.cel_at 2 rfl) 0 rfl))) (.cons (.tmp rfl) .nil)) ?_
  have e0 : loadD D = (decM (readD D [109]).1) := by unfold loadD; rw [if_pos g12]
  rw [e0]
  exact ⟨da, dc, rfl, hrd, (hS8.permT [2, 0, 0] (L' := cel g2 [Value.int .i64 ((decM (readD D [109]).1).1.e), Value.int .i64 ((decM (readD D [109]).1).1.b), Value.int .i64 ((decM (readD D [109]).1).1.p), Value.int .i64 ((decM (readD D [109]).1).1.k), Value.int .i64 ((decM (readD D [109]).1).1.c), Value.slice da ((decM (readD D [109]).1).1.bl.length) dc] 24 :: own da ((decM (readD D [109]).1).1.bl.length) dc 9 1 ((decM (readD D [109]).1).1.bl.map str) :: refA g D :: L) rfl).drop⟩
 ·
  refine WP.seq (WP.region rfl ?_)
  refine WO.val (run_eql rfl rfl) rfl rfl rfl ?_
  refine WO.asg rfl rfl ?_
  refine WO.nil (NX.go ?_)
  refine WP.condP rfl (fun g18 => ?_) (fun g18 => ?_)
  ·
   refine WP.seq (WP.region rfl ?_)
   refine WO.call rfl rfl Ty.hd21 rfl (rnone_spec hS4) (fun v10 w9 pv10 => ?_)
   obtain ⟨rfl, hS9⟩ := pv10
   clear hS4
   refine WO.store (l' := [Value.int .i64 noneM.e, Value.int .i64 noneM.b, Value.int .i64 noneM.p, Value.int .i64 noneM.k, Value.int .i64 noneM.c, Value.slice none noneM.bl.length 0]) 1 hS9 rfl Ty.sz24 rfl rfl rfl rfl rfl (Nat.le_of_ble_eq_true rfl) rfl (fun w11 (hS11 : St B (refA g D :: cel g2 [Value.int .i64 noneM.e, Value.int .i64 noneM.b, Value.int .i64 noneM.p, Value.int .i64 noneM.k, Value.int .i64 noneM.c, Value.slice none noneM.bl.length 0] 24 :: L) w11) => ?_)
   clear hS9
   refine WO.asg rfl rfl ?_
   refine WO.nil (NX.go (WP.ret (NX.blkRet (NX.thenRet ?_))))
   refine NX.doneC (l := [.cell 2 24, .tmp 3]) rfl (.cons (.cell rfl (loadVar_agg (vs := [Value.int .i64 noneM.e, Value.int .i64 noneM.b, Value.int .i64 noneM.p, Value.int .i64 noneM.k, Value.int .i64 noneM.c, Value.slice none noneM.bl.length 0]) Ty.ag24 Ty.sz24 rfl (cell_all (hS11.cel_at 1 rfl) 0 rfl))) (.cons (.tmp rfl) .nil)) ?_
   have e0 : loadD D = (noneM, 0) := by unfold loadD; rw [if_neg g12, if_pos g18]
   rw [e0]
   exact ⟨none, 0, rfl, noneM_rng2, ((hS11.permT [1, 0] (L' := cel g2 [Value.int .i64 noneM.e, Value.int .i64 noneM.b, Value.int .i64 noneM.p, Value.int .i64 noneM.k, Value.int .i64 noneM.c, Value.slice none noneM.bl.length 0] 24 :: refA g D :: L) rfl).drop).own_nil 9 1⟩
  ·
   refine WP.skip (NX.blk (NX.go (WP.seq (WP.region rfl ?_))))
   refine WO.val (run_build (v := Value.agg #[Value.int .i64 0, Value.int .i64 0, Value.int .i64 0, Value.int .i64 0, Value.int .i64 0, Value.slice none 0 0]) rfl (fun w => by kernel_rfl)) rfl rfl rfl ?_
   refine WO.mv rfl rfl ?_
   refine WO.store (l' := [Value.int .i64 0, Value.int .i64 0, Value.int .i64 0, Value.int .i64 0, Value.int .i64 0, Value.slice none 0 0]) 1 hS4 rfl Ty.sz24 rfl rfl rfl rfl rfl (Nat.le_of_ble_eq_true rfl) rfl (fun w12 (hS12 : St B (refA g D :: cel g2 [Value.int .i64 0, Value.int .i64 0, Value.int .i64 0, Value.int .i64 0, Value.int .i64 0, Value.slice none 0 0] 24 :: L) w12) => ?_)
   clear hS4
   refine WO.asg rfl rfl ?_
   refine WO.nil (NX.go (WP.ret ?_))
   refine NX.doneC (l := [.cell 2 24, .tmp 3]) rfl (.cons (.cell rfl (loadVar_agg (vs := [Value.int .i64 0, Value.int .i64 0, Value.int .i64 0, Value.int .i64 0, Value.int .i64 0, Value.slice none 0 0]) Ty.ag24 Ty.sz24 rfl (cell_all (hS12.cel_at 1 rfl) 0 rfl))) (.cons (.tmp rfl) .nil)) ?_
   have e0 : loadD D = (zeroM, (readD D [109]).2) := by unfold loadD; rw [if_neg g12, if_neg g18]
   rw [e0]
   exact ⟨none, 0, rfl, zeroM_rng, ((hS12.permT [1, 0] (L' := cel g2 [Value.int .i64 0, Value.int .i64 0, Value.int .i64 0, Value.int .i64 0, Value.int .i64 0, Value.slice none 0 0] 24 :: refA g D :: L) rfl).drop).own_nil 9 1⟩
end Go.Proofs.YtcehlnpbdffdhaaGreatDoor.SL
