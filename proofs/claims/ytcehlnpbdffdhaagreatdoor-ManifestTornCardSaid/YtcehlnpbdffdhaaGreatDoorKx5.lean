/- Manifests: read of bytes. -/
import Derived.Test.YtcehlnpbdffdhaaGreatDoorKx4
namespace Go.Proofs.YtcehlnpbdffdhaaGreatDoor.SL
open Go.RowKit Go.Proofs.YtcehlnpbdffdhaaGreatDoor
open Go.Proofs.YtcehlnpbdffdhaaGreatDoorW.PrintLast (rtab opsOf)
set_option linter.unusedVariables false
set_option linter.unusedSimpArgs false
theorem none_spec {B w : World} {L : List HP} (hS : St B L w) : Does Tryz.prog 58 [] w (fun v w1 => v = manV noneM none 0 ∧ St B L w1) := by
 refine enter (n := 2) Tryz.func58 rfl rfl [] rfl ?_
 refine WP.seq ?_
 refine WP.region rfl ?_
 refine WO.alloc (l := [Value.int .i64 0, Value.int .i64 0, Value.int .i64 0, Value.int .i64 0, Value.int .i64 0, Value.slice none 0 0]) hS Ty.zr30 rfl rfl (fun g2 w1 lg2 hS1 => ?_)
 clear hS
 refine WO.nil ?_
 refine NX.go ?_
 refine WP.seq ?_
 refine WP.region rfl ?_
 refine WO.val (run_build (v := Value.agg #[Value.int .i64 1, Value.int .i64 0, Value.int .i64 1, Value.int .i64 (-9223372036854775808), Value.int .i64 0, Value.slice none 0 0]) rfl (fun w => by kernel_rfl)) rfl rfl rfl ?_
 refine WO.store (l' := [Value.int .i64 1, Value.int .i64 0, Value.int .i64 1, Value.int .i64 (-9223372036854775808), Value.int .i64 0, Value.slice none 0 0]) 0 hS1 rfl Ty.sz30 rfl rfl rfl rfl rfl (Nat.le_of_ble_eq_true rfl) rfl (fun w3 (hS3 : St B (cel g2 [Value.int .i64 1, Value.int .i64 0, Value.int .i64 1, Value.int .i64 (-9223372036854775808), Value.int .i64 0, Value.slice none 0 0] 30 :: L) w3) => ?_)
 clear hS1
 refine WO.nil ?_
 refine NX.go ?_
 refine WP.ret ?_
 refine NX.doneC (l := [.cell 0 30]) rfl (.cons (.cell rfl (loadVar_agg (vs := [Value.int .i64 1, Value.int .i64 0, Value.int .i64 1, Value.int .i64 (-9223372036854775808), Value.int .i64 0, Value.slice none 0 0]) Ty.ag30 Ty.sz30 rfl (cell_all (hS3.cel_at 0 rfl) 0 rfl))) .nil) ?_
 exact ⟨rfl, hS3.drop⟩
theorem decM_spec {B w : World} {L : List HP} (s : List UInt8) (hs : s.length ≤ 140737488355328) (hS : St B L w) : Does Tryz.prog 12 [str s] w (fun v w1 => ∃ (a : Option Addr) (cap : Nat), v = .tuple #[manV (decM s).1 a cap, .int .i64 (decM s).2] ∧ RngM (decM s).1 ∧ St B (own a (decM s).1.bl.length cap 9 1 ((decM s).1.bl.map str) :: L) w1) := by
 refine enter (n := 44) Tryz.func12 rfl rfl [str s] rfl ?_
 refine WP.seq ?_
 refine WP.region rfl ?_
 refine WO.alloc (l := [Value.int .i64 0, Value.int .i64 0, Value.int .i64 0, Value.int .i64 0, Value.int .i64 0, Value.slice none 0 0]) hS Ty.zr30 rfl rfl (fun g2 w1 lg2 hS1 => ?_)
 clear hS
 refine WO.val (run_assign rfl) rfl rfl rfl ?_
 refine WO.nil ?_
 refine NX.go ?_
 refine WP.seq ?_
 refine WP.region rfl ?_
 refine WO.val (run_move rfl) rfl rfl rfl ?_
 refine WO.call rfl rfl Ty.hd41 rfl (getFrame_spec s hs hS1) (fun v4 w3 pv4 => ?_)
 obtain ⟨rfl, hS3⟩ := pv4
 clear hS1
 refine WO.val (run_move rfl) rfl rfl rfl ?_
 refine WO.val (run_extract rfl rfl) rfl rfl rfl ?_
 refine WO.val (run_extract rfl rfl) rfl rfl rfl ?_
 refine WO.val (run_extract rfl rfl) rfl rfl rfl ?_
 refine WO.alloc (l := [Value.int .i64 0, str []]) hS3 Ty.zr72 rfl rfl (fun g6 w5 lg6 hS5 => ?_)
 clear hS3
 refine WO.store (l' := [Value.int .i64 ((getF s).1.1), str ((getF s).1.2)]) 0 hS5 rfl Ty.sz72 rfl rfl rfl rfl rfl (Nat.le_of_ble_eq_true rfl) rfl (fun w7 (hS7 : St B (cel g6 [Value.int .i64 ((getF s).1.1), str ((getF s).1.2)] 72 :: cel g2 [Value.int .i64 0, Value.int .i64 0, Value.int .i64 0, Value.int .i64 0, Value.int .i64 0, Value.slice none 0 0] 30 :: L) w7) => ?_)
 clear hS5
 refine WO.val (run_assign rfl) rfl rfl rfl ?_
 refine WO.val (run_assign rfl) rfl rfl rfl ?_
 refine WO.nil ?_
 refine NX.go ?_
 refine WP.seq ?_
 refine WP.seq ?_
 refine WP.region rfl ?_
 refine WO.val (run_move rfl) rfl rfl rfl ?_
 refine WO.val (run_neq rfl rfl) rfl rfl rfl ?_
 refine WO.val (run_move rfl) rfl rfl rfl ?_
 by_cases g17 : ¬ ((getF s).2.2) = 0
 ·
  refine WO.off rfl rfl (decide_eq_true g17) rfl ?_
  refine WO.off rfl rfl (decide_eq_true g17) rfl ?_
  refine WO.off rfl rfl (decide_eq_true g17) rfl ?_
  refine WO.off rfl rfl (decide_eq_true g17) rfl ?_
  refine WO.val (run_pickT rfl (decide_eq_true g17) rfl) rfl rfl rfl ?_
  refine WO.val (run_move rfl) rfl rfl rfl ?_
  refine WO.off rfl rfl rfl rfl ?_
  refine WO.off rfl rfl rfl rfl ?_
  refine WO.off rfl rfl rfl rfl ?_
  refine WO.val (run_pickT rfl rfl rfl) rfl rfl rfl ?_
  refine WO.nil ?_
  refine NX.go ?_
  refine WP.condT rfl rfl ?_
  refine WP.seq ?_
  refine WP.region rfl ?_
  refine WO.val (run_build (v := Value.agg #[Value.int .i64 0, Value.int .i64 0, Value.int .i64 0, Value.int .i64 0, Value.int .i64 0, Value.slice none 0 0]) rfl (fun w => by kernel_rfl)) rfl rfl rfl ?_
  refine WO.store (l' := [Value.int .i64 0, Value.int .i64 0, Value.int .i64 0, Value.int .i64 0, Value.int .i64 0, Value.slice none 0 0]) 1 hS7 rfl Ty.sz30 rfl rfl rfl rfl rfl (Nat.le_of_ble_eq_true rfl) rfl (fun w8 (hS8 : St B (cel g6 [Value.int .i64 ((getF s).1.1), str ((getF s).1.2)] 72 :: cel g2 [Value.int .i64 0, Value.int .i64 0, Value.int .i64 0, Value.int .i64 0, Value.int .i64 0, Value.slice none 0 0] 30 :: L) w8) => ?_)
  clear hS7
  refine WO.val (run_assign rfl) rfl rfl rfl ?_
  refine WO.nil ?_
  refine NX.go ?_
  refine WP.ret ?_
  refine NX.thenRet ?_
  refine NX.doneC (l := [.cell 2 30, .tmp 3]) rfl (.cons (.cell rfl (loadVar_agg (vs := [Value.int .i64 0, Value.int .i64 0, Value.int .i64 0, Value.int .i64 0, Value.int .i64 0, Value.slice none 0 0]) Ty.ag30 Ty.sz30 rfl (cell_all (hS8.cel_at 1 rfl) 0 rfl))) (.cons (.tmp rfl) .nil)) ?_
  have hdc : decM s = (zeroM, 3) := by rw [decM, if_neg (fun q => g17 q.1)]
  rw [hdc]
  exact ⟨none, 0, rfl, zeroM_rng, (hS8.drop.drop).own_nil 9 1⟩
 ·
  refine WO.on rfl rfl (decide_eq_false g17) ?_
  refine WO.val (run_move rfl) rfl rfl rfl ?_
  refine WO.on rfl rfl (decide_eq_false g17) ?_
  refine WO.val (run_move rfl) rfl rfl rfl ?_
  refine WO.on rfl rfl (decide_eq_false g17) ?_
  refine WO.val (run_lenS rfl Tryz.underlying9 rfl) rfl rfl rfl ?_
  refine WO.on rfl rfl (decide_eq_false g17) ?_
  refine WO.val (run_neq rfl rfl) rfl rfl rfl ?_
  refine WO.val (run_pickF rfl (decide_eq_false g17) rfl) rfl rfl rfl ?_
  refine WO.val (run_move rfl) rfl rfl rfl ?_
  by_cases g23 : ¬ ((getF s).2.1) = (s.length : Int)
  ·
   refine WO.off rfl rfl (decide_eq_true g23) rfl ?_
   refine WO.off rfl rfl (decide_eq_true g23) rfl ?_
   refine WO.off rfl rfl (decide_eq_true g23) rfl ?_
   refine WO.val (run_pickT rfl (decide_eq_true g23) rfl) rfl rfl rfl ?_
   refine WO.nil ?_
   refine NX.go ?_
   refine WP.condT rfl rfl ?_
   refine WP.seq ?_
   refine WP.region rfl ?_
   refine WO.val (run_build (v := Value.agg #[Value.int .i64 0, Value.int .i64 0, Value.int .i64 0, Value.int .i64 0, Value.int .i64 0, Value.slice none 0 0]) rfl (fun w => by kernel_rfl)) rfl rfl rfl ?_
   refine WO.store (l' := [Value.int .i64 0, Value.int .i64 0, Value.int .i64 0, Value.int .i64 0, Value.int .i64 0, Value.slice none 0 0]) 1 hS7 rfl Ty.sz30 rfl rfl rfl rfl rfl (Nat.le_of_ble_eq_true rfl) rfl (fun w9 (hS9 : St B (cel g6 [Value.int .i64 ((getF s).1.1), str ((getF s).1.2)] 72 :: cel g2 [Value.int .i64 0, Value.int .i64 0, Value.int .i64 0, Value.int .i64 0, Value.int .i64 0, Value.slice none 0 0] 30 :: L) w9) => ?_)
   clear hS7
   refine WO.val (run_assign rfl) rfl rfl rfl ?_
   refine WO.nil ?_
   refine NX.go ?_
   refine WP.ret ?_
   refine NX.thenRet ?_
   refine NX.doneC (l := [.cell 2 30, .tmp 3]) rfl (.cons (.cell rfl (loadVar_agg (vs := [Value.int .i64 0, Value.int .i64 0, Value.int .i64 0, Value.int .i64 0, Value.int .i64 0, Value.slice none 0 0]) Ty.ag30 Ty.sz30 rfl (cell_all (hS9.cel_at 1 rfl) 0 rfl))) (.cons (.tmp rfl) .nil)) ?_
   have hdc : decM s = (zeroM, 3) := by rw [decM, if_neg (fun q => g23 q.2.1)]
   rw [hdc]
   exact ⟨none, 0, rfl, zeroM_rng, (hS9.drop.drop).own_nil 9 1⟩
  ·
   refine WO.on rfl rfl (decide_eq_false g23) ?_
   refine WO.val (run_fieldAddr (q := ⟨g6, 0, none⟩) (show fieldB Tryz.prog 72 0 = some 0 from by kernel_rfl) rfl rfl) rfl rfl rfl ?_
   refine WO.on rfl rfl (decide_eq_false g23) ?_
   refine WO.val (run_load Ty.ag3 rfl ((hS7.cel_at 0 rfl 0).trans rfl)) rfl rfl rfl ?_
   refine WO.on rfl rfl (decide_eq_false g23) ?_
   refine WO.val (run_neq rfl rfl) rfl rfl rfl ?_
   refine WO.val (run_pickF rfl (decide_eq_false g23) rfl) rfl rfl rfl ?_
   refine WO.nil ?_
   refine NX.go ?_
   refine WP.condP rfl (fun g27 => ?_) (fun g27 => ?_)
   ·
    refine WP.seq ?_
    refine WP.region rfl ?_
    refine WO.val (run_build (v := Value.agg #[Value.int .i64 0, Value.int .i64 0, Value.int .i64 0, Value.int .i64 0, Value.int .i64 0, Value.slice none 0 0]) rfl (fun w => by kernel_rfl)) rfl rfl rfl ?_
    refine WO.store (l' := [Value.int .i64 0, Value.int .i64 0, Value.int .i64 0, Value.int .i64 0, Value.int .i64 0, Value.slice none 0 0]) 1 hS7 rfl Ty.sz30 rfl rfl rfl rfl rfl (Nat.le_of_ble_eq_true rfl) rfl (fun w10 (hS10 : St B (cel g6 [Value.int .i64 ((getF s).1.1), str ((getF s).1.2)] 72 :: cel g2 [Value.int .i64 0, Value.int .i64 0, Value.int .i64 0, Value.int .i64 0, Value.int .i64 0, Value.slice none 0 0] 30 :: L) w10) => ?_)
    clear hS7
    refine WO.val (run_assign rfl) rfl rfl rfl ?_
    refine WO.nil ?_
    refine NX.go ?_
    refine WP.ret ?_
    refine NX.thenRet ?_
    refine NX.doneC (l := [.cell 2 30, .tmp 3]) rfl (.cons (.cell rfl (loadVar_agg (vs := [Value.int .i64 0, Value.int .i64 0, Value.int .i64 0, Value.int .i64 0, Value.int .i64 0, Value.slice none 0 0]) Ty.ag30 Ty.sz30 rfl (cell_all (hS10.cel_at 1 rfl) 0 rfl))) (.cons (.tmp rfl) .nil)) ?_
    have hdc : decM s = (zeroM, 3) := by rw [decM, if_neg (fun q => g27 q.2.2)]
    rw [hdc]
    exact ⟨none, 0, rfl, zeroM_rng, (hS10.drop.drop).own_nil 9 1⟩
   ·
    refine WP.skip ?_
    refine NX.go ?_
    refine WP.seq ?_
    refine WP.region rfl ?_
    refine WO.val (run_fieldAddr (q := ⟨g6, 1, none⟩) (show fieldB Tryz.prog 72 1 = some 1 from by kernel_rfl) rfl rfl) rfl rfl rfl ?_
    refine WO.val (run_load Ty.ag9 rfl ((hS7.cel_at 0 rfl 1).trans rfl)) rfl rfl rfl ?_
    refine WO.call rfl rfl Ty.hd42 rfl (parseM_spec (getF s).1.2 (by have := getF_le s; omega) hS7) (fun v12 w11 pv12 => ?_)
    obtain ⟨pm, pa, pc, pb, rfl, hpt, hpf, hS11⟩ := pv12
    clear hS7
    refine WO.val (run_move rfl) rfl rfl rfl ?_
    refine WO.val (run_extract rfl rfl) rfl rfl rfl ?_
    refine WO.val (run_extract rfl rfl) rfl rfl rfl ?_
    refine WO.alloc (l := [Value.int .i64 0, Value.int .i64 0, Value.int .i64 0, Value.int .i64 0, Value.int .i64 0, Value.slice none 0 0]) hS11 Ty.zr30 rfl rfl (fun g14 w13 lg14 hS13 => ?_)
    clear hS11
    refine WO.store (l' := [Value.int .i64 pm.e, Value.int .i64 pm.b, Value.int .i64 pm.p, Value.int .i64 pm.k, Value.int .i64 pm.c, Value.slice pa pm.bl.length pc]) 0 hS13 rfl Ty.sz30 rfl rfl rfl rfl rfl (Nat.le_of_ble_eq_true rfl) rfl (fun w15 (hS15 : St B (cel g14 [Value.int .i64 pm.e, Value.int .i64 pm.b, Value.int .i64 pm.p, Value.int .i64 pm.k, Value.int .i64 pm.c, Value.slice pa pm.bl.length pc] 30 :: own pa pm.bl.length pc 9 1 (pm.bl.map str) :: cel g6 [Value.int .i64 ((getF s).1.1), str ((getF s).1.2)] 72 :: cel g2 [Value.int .i64 0, Value.int .i64 0, Value.int .i64 0, Value.int .i64 0, Value.int .i64 0, Value.slice none 0 0] 30 :: L) w15) => ?_)
    clear hS13
    refine WO.val (run_assign rfl) rfl rfl rfl ?_
    refine WO.nil ?_
    refine NX.go ?_
    refine WP.seq ?_
    refine WP.seq ?_
    refine WP.region rfl ?_
    refine WO.val (run_move rfl) rfl rfl rfl ?_
    refine WO.val (run_not rfl rfl) rfl rfl rfl ?_
    refine WO.val (run_move rfl) rfl rfl rfl ?_
    rcases Bool.eq_false_or_eq_true (!pb) with g37 | g37
    ·
     refine WO.off rfl rfl g37 rfl ?_
     refine WO.off rfl rfl g37 rfl ?_
     refine WO.off rfl rfl g37 rfl ?_
     refine WO.val (run_pickT rfl g37 rfl) rfl rfl rfl ?_
     refine WO.nil ?_
     refine NX.go ?_
     refine WP.condT rfl rfl ?_
     refine WP.seq ?_
     refine WP.region rfl ?_
     refine WO.val (run_build (v := Value.agg #[Value.int .i64 0, Value.int .i64 0, Value.int .i64 0, Value.int .i64 0, Value.int .i64 0, Value.slice none 0 0]) rfl (fun w => by kernel_rfl)) rfl rfl rfl ?_
     refine WO.store (l' := [Value.int .i64 0, Value.int .i64 0, Value.int .i64 0, Value.int .i64 0, Value.int .i64 0, Value.slice none 0 0]) 3 hS15 rfl Ty.sz30 rfl rfl rfl rfl rfl (Nat.le_of_ble_eq_true rfl) rfl (fun w16 (hS16 : St B (cel g14 [Value.int .i64 pm.e, Value.int .i64 pm.b, Value.int .i64 pm.p, Value.int .i64 pm.k, Value.int .i64 pm.c, Value.slice pa pm.bl.length pc] 30 :: own pa pm.bl.length pc 9 1 (pm.bl.map str) :: cel g6 [Value.int .i64 ((getF s).1.1), str ((getF s).1.2)] 72 :: cel g2 [Value.int .i64 0, Value.int .i64 0, Value.int .i64 0, Value.int .i64 0, Value.int .i64 0, Value.slice none 0 0] 30 :: L) w16) => ?_)
     clear hS15
     refine WO.val (run_assign rfl) rfl rfl rfl ?_
     refine WO.nil ?_
     refine NX.go ?_
     refine WP.ret ?_
     refine NX.thenRet ?_
     refine NX.doneC (l := [.cell 2 30, .tmp 3]) rfl (.cons (.cell rfl (loadVar_agg (vs := [Value.int .i64 0, Value.int .i64 0, Value.int .i64 0, Value.int .i64 0, Value.int .i64 0, Value.slice none 0 0]) Ty.ag30 Ty.sz30 rfl (cell_all (hS16.cel_at 3 rfl) 0 rfl))) (.cons (.tmp rfl) .nil)) ?_
     have hdc : decM s = (zeroM, 3) := by rw [decM, if_pos ⟨Decidable.of_not_not g17, Decidable.of_not_not g23, Decidable.of_not_not g27⟩, hpf (by simpa using g37)]
     rw [hdc]
     exact ⟨none, 0, rfl, zeroM_rng, (hS16.drop.drop.drop.drop).own_nil 9 1⟩
    ·
     refine WO.on rfl rfl g37 ?_
     refine WO.val (run_loadAgg (vs := [Value.int .i64 pm.e, Value.int .i64 pm.b, Value.int .i64 pm.p, Value.int .i64 pm.k, Value.int .i64 pm.c, Value.slice pa pm.bl.length pc]) Ty.ag30 Ty.sz30 rfl rfl (cell_all (hS15.cel_at 0 rfl) 0 rfl)) rfl rfl rfl ?_
     refine WO.on rfl rfl g37 ?_
     have hS17 := hS15.permT [1, 0, 0, 0] (L' := own pa pm.bl.length pc 9 1 (pm.bl.map str) :: cel g14 [Value.int .i64 pm.e, Value.int .i64 pm.b, Value.int .i64 pm.p, Value.int .i64 pm.k, Value.int .i64 pm.c, Value.slice pa pm.bl.length pc] 30 :: cel g6 [Value.int .i64 ((getF s).1.1), str ((getF s).1.2)] 72 :: cel g2 [Value.int .i64 0, Value.int .i64 0, Value.int .i64 0, Value.int .i64 0, Value.int .i64 0, Value.slice none 0 0] 30 :: L) rfl
     clear hS15
     refine WO.call rfl rfl Ty.hd34 rfl (checkM_spec (m := pm) (fun h => h.own_rd.1) (hpt (by simpa using g37)).2 hS17) (fun v19 w18 pv19 => ?_)
     obtain ⟨rfl, hS18⟩ := pv19
     clear hS17
     refine WO.on rfl rfl g37 ?_
     refine WO.val (run_neq rfl rfl) rfl rfl rfl ?_
     refine WO.val (run_pickF rfl g37 rfl) rfl rfl rfl ?_
     refine WO.nil ?_
     refine NX.go ?_
     refine WP.condP rfl (fun g41 => ?_) (fun g41 => ?_)
     ·
      refine WP.seq ?_
      refine WP.region rfl ?_
      refine WO.val (run_build (v := Value.agg #[Value.int .i64 0, Value.int .i64 0, Value.int .i64 0, Value.int .i64 0, Value.int .i64 0, Value.slice none 0 0]) rfl (fun w => by kernel_rfl)) rfl rfl rfl ?_
      refine WO.store (l' := [Value.int .i64 0, Value.int .i64 0, Value.int .i64 0, Value.int .i64 0, Value.int .i64 0, Value.slice none 0 0]) 3 hS18 rfl Ty.sz30 rfl rfl rfl rfl rfl (Nat.le_of_ble_eq_true rfl) rfl (fun w20 (hS20 : St B (own pa pm.bl.length pc 9 1 (pm.bl.map str) :: cel g14 [Value.int .i64 pm.e, Value.int .i64 pm.b, Value.int .i64 pm.p, Value.int .i64 pm.k, Value.int .i64 pm.c, Value.slice pa pm.bl.length pc] 30 :: cel g6 [Value.int .i64 ((getF s).1.1), str ((getF s).1.2)] 72 :: cel g2 [Value.int .i64 0, Value.int .i64 0, Value.int .i64 0, Value.int .i64 0, Value.int .i64 0, Value.slice none 0 0] 30 :: L) w20) => ?_)
      clear hS18
      refine WO.val (run_assign rfl) rfl rfl rfl ?_
      refine WO.nil ?_
      refine NX.go ?_
      refine WP.ret ?_
      refine NX.thenRet ?_
      refine NX.doneC (l := [.cell 2 30, .tmp 3]) rfl (.cons (.cell rfl (loadVar_agg (vs := [Value.int .i64 0, Value.int .i64 0, Value.int .i64 0, Value.int .i64 0, Value.int .i64 0, Value.slice none 0 0]) Ty.ag30 Ty.sz30 rfl (cell_all (hS20.cel_at 3 rfl) 0 rfl))) (.cons (.tmp rfl) .nil)) ?_
      have hdc : decM s = (zeroM, 3) := by rw [decM, if_pos ⟨Decidable.of_not_not g17, Decidable.of_not_not g23, Decidable.of_not_not g27⟩, (hpt (by simpa using g37)).1]; exact if_neg g41
      rw [hdc]
      exact ⟨none, 0, rfl, zeroM_rng, (hS20.drop.drop.drop.drop).own_nil 9 1⟩
     ·
      refine WP.skip ?_
      refine NX.go ?_
      refine WP.seq ?_
      refine WP.region rfl ?_
      refine WO.val (run_loadAgg (vs := [Value.int .i64 pm.e, Value.int .i64 pm.b, Value.int .i64 pm.p, Value.int .i64 pm.k, Value.int .i64 pm.c, Value.slice pa pm.bl.length pc]) Ty.ag30 Ty.sz30 rfl rfl (cell_all (hS18.cel_at 1 rfl) 0 rfl)) rfl rfl rfl ?_
      refine WO.store (l' := [Value.int .i64 pm.e, Value.int .i64 pm.b, Value.int .i64 pm.p, Value.int .i64 pm.k, Value.int .i64 pm.c, Value.slice pa pm.bl.length pc]) 3 hS18 rfl Ty.sz30 rfl rfl rfl rfl rfl (Nat.le_of_ble_eq_true rfl) rfl (fun w21 (hS21 : St B (own pa pm.bl.length pc 9 1 (pm.bl.map str) :: cel g14 [Value.int .i64 pm.e, Value.int .i64 pm.b, Value.int .i64 pm.p, Value.int .i64 pm.k, Value.int .i64 pm.c, Value.slice pa pm.bl.length pc] 30 :: cel g6 [Value.int .i64 ((getF s).1.1), str ((getF s).1.2)] 72 :: cel g2 [Value.int .i64 pm.e, Value.int .i64 pm.b, Value.int .i64 pm.p, Value.int .i64 pm.k, Value.int .i64 pm.c, Value.slice pa pm.bl.length pc] 30 :: L) w21) => ?_)
      clear hS18
      refine WO.val (run_assign rfl) rfl rfl rfl ?_
      refine WO.nil ?_
      refine NX.go ?_
      refine WP.ret ?_
      refine NX.doneC (l := [.cell 2 30, .tmp 3]) rfl (.cons (.cell rfl (loadVar_agg (vs := [Value.int .i64 pm.e, Value.int .i64 pm.b, Value.int .i64 pm.p, Value.int .i64 pm.k, Value.int .i64 pm.c, Value.slice pa pm.bl.length pc]) Ty.ag30 Ty.sz30 rfl (cell_all (hS21.cel_at 3 rfl) 0 rfl))) (.cons (.tmp rfl) .nil)) ?_
      have hdc : decM s = (pm, 0) := by rw [decM, if_pos ⟨Decidable.of_not_not g17, Decidable.of_not_not g23, Decidable.of_not_not g27⟩, (hpt (by simpa using g37)).1]; exact if_pos (Decidable.of_not_not g41)
      rw [hdc]
      exact ⟨pa, pc, rfl, (hpt (by simpa using g37)).2, (hS21.permT [1, 1, 1, 0] (L' := cel g14 [Value.int .i64 pm.e, Value.int .i64 pm.b, Value.int .i64 pm.p, Value.int .i64 pm.k, Value.int .i64 pm.c, Value.slice pa pm.bl.length pc] 30 :: cel g6 [Value.int .i64 ((getF s).1.1), str ((getF s).1.2)] 72 :: cel g2 [Value.int .i64 pm.e, Value.int .i64 pm.b, Value.int .i64 pm.p, Value.int .i64 pm.k, Value.int .i64 pm.c, Value.slice pa pm.bl.length pc] 30 :: own pa pm.bl.length pc 9 1 (pm.bl.map str) :: L) rfl).drop.drop.drop⟩
end Go.Proofs.YtcehlnpbdffdhaaGreatDoor.SL
