/- A manifest that is written is read as it was. -/
import Derived.Test.YtcehlnpbdffdhaaGreatDoorPb4
import Derived.Test.YtcehlnpbdffdhaaGreatDoorKv
namespace Go.Proofs.YtcehlnpbdffdhaaGreatDoor.SL
open Go.RowKit Go.Proofs.YtcehlnpbdffdhaaGreatDoor
open Go.Proofs.YtcehlnpbdffdhaaGreatDoorW.PrintLast (rtab opsOf)
set_option linter.unusedVariables false
set_option linter.unusedSimpArgs false
theorem manifestBack_core_t9 : rtab .any (opsOf Tryz.f3 9) = (true, [([], []), ([0], [0]), ([1], [1]), ([2], [2]), ([3, 2, 2], [2, 3]), ([2], [2]), ([4, 5, 4, 2], [2, 4, 5]), ([6, 2], [2, 6]), ([2, 7], [2, 7]), ([8, 6], [8]), ([9], [9]), ([10, 9], [9, 10]), ([9, 11], [9, 11])]) := by kernel_rfl
theorem manifestBack_core {B w : World} {L : List HP} {a : Option Addr} {cap : Nat} {m : Man} (hA : Rd B a m.bl.length 1 (m.bl.map str)) (hr : RngM m) (s : List UInt8) (hs : s.length ≤ 140737488355328) (hS : St B L w) : Does Tryz.prog 3 [Value.agg #[Value.int .i64 m.e, Value.int .i64 m.b, Value.int .i64 m.p, Value.int .i64 m.k, Value.int .i64 m.c, Value.slice a m.bl.length cap], str s] w (fun v w1 => v = .bool true ∧ St B L w1) := by
 replace hS := hS.addPure (p := True) trivial
 refine enter (n := 82) Tryz.func3 rfl rfl [Value.agg #[Value.int .i64 m.e, Value.int .i64 m.b, Value.int .i64 m.p, Value.int .i64 m.k, Value.int .i64 m.c, Value.slice a m.bl.length cap], str s] rfl ?_
 refine WP.seq ?_
 refine WP.region rfl ?_
 refine WO.box (l := [Value.int .i64 m.e, Value.int .i64 m.b, Value.int .i64 m.p, Value.int .i64 m.k, Value.int .i64 m.c, Value.slice a m.bl.length cap]) hS rfl rfl rfl (fun g2 w1 lg2 hS1 => ?_)
 clear hS
 refine WO.val (run_assign rfl) rfl rfl rfl ?_
 refine WO.nil ?_
 refine NX.go ?_
 refine WP.seq ?_
 refine WP.seq ?_
 refine WP.region rfl ?_
 refine WO.call rfl rfl Ty.hd8 rfl (works17_spec hS1) (fun v4 w3 pv4 => ?_)
 obtain ⟨rfl, hS3⟩ := pv4
 clear hS1
 refine WO.val (run_not rfl rfl) rfl rfl rfl ?_
 refine WO.nil ?_
 refine NX.go ?_
 refine WP.condF rfl (notB_t rfl) ?_
 refine WP.skip ?_
 refine NX.go ?_
 refine WP.seq ?_
 refine WP.seq ?_
 refine WP.region rfl ?_
 refine WO.val (run_loadAgg (vs := [Value.int .i64 m.e, Value.int .i64 m.b, Value.int .i64 m.p, Value.int .i64 m.k, Value.int .i64 m.c, Value.slice a m.bl.length cap]) Ty.ag24 Ty.sz24 rfl rfl (cell_all (hS3.cel_at 0 rfl) 0 rfl)) rfl rfl rfl ?_
 have hS5 := hS3.permT [1, 0] (L' := (.pure True) :: cel g2 [Value.int .i64 m.e, Value.int .i64 m.b, Value.int .i64 m.p, Value.int .i64 m.k, Value.int .i64 m.c, Value.slice a m.bl.length cap] 24 :: L) rfl
 clear hS3
 refine WO.call rfl rfl Ty.hd9 rfl (great_spec (m := m) (fun h => St.rdB h hA) hr hS5) (fun v7 w6 pv7 => ?_)
 obtain ⟨gb, rfl, hgb, hS6⟩ := pv7
 clear hS5
 refine WO.val (run_move rfl) rfl rfl rfl ?_
 rcases Bool.eq_false_or_eq_true gb with g19 | g19
 ·
  refine WO.off rfl rfl g19 rfl ?_
  refine WO.off rfl rfl g19 rfl ?_
  refine WO.off rfl rfl g19 rfl ?_
  refine WO.val (run_pickT rfl g19 rfl) rfl rfl rfl ?_
  refine WO.nil ?_
  refine NX.go ?_
  refine WP.condT rfl rfl ?_
  refine WP.seq ?_
  refine WP.region rfl ?_
  refine WO.val (run_assign rfl) rfl rfl rfl ?_
  refine WO.nil ?_
  refine NX.go ?_
  refine WP.ret ?_
  refine NX.thenRet ?_
  refine NX.done (l := [.tmp 4]) rfl rfl ?_
  exact ⟨rfl, hS6.drop.drop⟩
 ·
  refine WO.on rfl rfl g19 ?_
  refine WO.val (run_move rfl) rfl rfl rfl ?_
  refine WO.on rfl rfl g19 ?_
  refine WO.val (run_lenS rfl Tryz.underlying9 rfl) rfl rfl rfl ?_
  refine WO.on rfl rfl g19 ?_
  refine WO.val (run_gtr rfl rfl) rfl rfl rfl ?_
  refine WO.val (run_pickF rfl g19 rfl) rfl rfl rfl ?_
  refine WO.nil ?_
  refine NX.go ?_
  refine WP.condP rfl (fun g23 => ?_) (fun g23 => ?_)
  ·
   refine WP.seq ?_
   refine WP.region rfl ?_
   refine WO.val (run_assign rfl) rfl rfl rfl ?_
   refine WO.nil ?_
   refine NX.go ?_
   refine WP.ret ?_
   refine NX.thenRet ?_
   refine NX.done (l := [.tmp 4]) rfl rfl ?_
   exact ⟨rfl, hS6.drop.drop⟩
  ·
   refine WP.skip ?_
   refine NX.go ?_
   refine WP.seq ?_
   refine WP.region rfl ?_
   refine WO.val (run_loadAgg (vs := [Value.int .i64 m.e, Value.int .i64 m.b, Value.int .i64 m.p, Value.int .i64 m.k, Value.int .i64 m.c, Value.slice a m.bl.length cap]) Ty.ag24 Ty.sz24 rfl rfl (cell_all (hS6.cel_at 1 rfl) 0 rfl)) rfl rfl rfl ?_
   refine WO.call rfl rfl Ty.hd11 rfl (to_spec (m := m) (fun h => St.rdB h hA) hr hS6) (fun v9 w8 pv9 => ?_)
   obtain ⟨b1, c1, rfl, hS8⟩ := pv9
   clear hS6
   refine WO.call rfl rfl Ty.hd10 rfl (encM_spec (m := m) (fun h => h.own_rd.1) hr hS8) (fun v11 w10 pv11 => ?_)
   obtain ⟨rfl, hS10⟩ := pv11
   clear hS8
   refine WO.val (run_move rfl) rfl rfl rfl ?_
   refine WO.val (run_extract rfl rfl) rfl rfl rfl ?_
   refine WO.val (run_extract rfl rfl) rfl rfl rfl ?_
   refine WO.val (run_assign rfl) rfl rfl rfl ?_
   refine WO.val (run_assign rfl) rfl rfl rfl ?_
   refine WO.nil ?_
   refine NX.go ?_
   refine WP.seq ?_
   refine WP.seq ?_
   refine WP.region rfl ?_
   refine WO.val (run_move rfl) rfl rfl rfl ?_
   refine WO.val (run_eql rfl rfl) rfl rfl rfl ?_
   refine WO.nil ?_
   refine NX.go ?_
   refine WP.condP rfl (fun g31 => ?_) (fun g31 => ?_)
   ·
    have hok := enc_zero g31
    have hel := enc_len hr
    refine WP.seq ?_
    refine WP.region rfl ?_
    refine WO.val (run_move rfl) rfl rfl rfl ?_
    refine WO.call rfl rfl Ty.hd12 rfl (decM_spec ((encM m).1) (by have := enc_len hr; first | omega | (rw [List.length_append]; simp; omega)) hS10) (fun v16 w15 pv16 => ?_)
    obtain ⟨b12, c13, hv, hr14, hS15⟩ := pv16
    clear hS10
    rw [(dec_enc hr hok).1] at hv
    rw [(dec_enc hr hok).1] at hS15
    change _ = Value.tuple #[Value.agg #[Value.int .i64 m.e, Value.int .i64 m.b, Value.int .i64 m.p, Value.int .i64 m.k, Value.int .i64 m.c, Value.slice b12 m.bl.length c13], Value.int .i64 0] at hv
    subst hv
    replace hS15 : St B (own b12 m.bl.length c13 9 1 (m.bl.map str) :: own b1 m.bl.length c1 9 1 (m.bl.map str) :: (.pure True) :: cel g2 [Value.int .i64 m.e, Value.int .i64 m.b, Value.int .i64 m.p, Value.int .i64 m.k, Value.int .i64 m.c, Value.slice a m.bl.length cap] 24 :: L) w15 := hS15
    refine WO.val (run_move rfl) rfl rfl rfl ?_
    refine WO.val (run_extract rfl rfl) rfl rfl rfl ?_
    refine WO.val (run_extract rfl rfl) rfl rfl rfl ?_
    refine WO.alloc (l := [Value.int .i64 0, Value.int .i64 0, Value.int .i64 0, Value.int .i64 0, Value.int .i64 0, Value.slice none 0 0]) hS15 Ty.zr30 rfl rfl (fun g18 w17 lg18 hS17 => ?_)
    clear hS15
    refine WO.store (l' := [Value.int .i64 m.e, Value.int .i64 m.b, Value.int .i64 m.p, Value.int .i64 m.k, Value.int .i64 m.c, Value.slice b12 m.bl.length c13]) 0 hS17 rfl Ty.sz30 rfl rfl rfl rfl rfl (Nat.le_of_ble_eq_true rfl) rfl (fun w19 (hS19 : St B (cel g18 [Value.int .i64 m.e, Value.int .i64 m.b, Value.int .i64 m.p, Value.int .i64 m.k, Value.int .i64 m.c, Value.slice b12 m.bl.length c13] 30 :: own b12 m.bl.length c13 9 1 (m.bl.map str) :: own b1 m.bl.length c1 9 1 (m.bl.map str) :: (.pure True) :: cel g2 [Value.int .i64 m.e, Value.int .i64 m.b, Value.int .i64 m.p, Value.int .i64 m.k, Value.int .i64 m.c, Value.slice a m.bl.length cap] 24 :: L) w19) => ?_)
    clear hS17
    refine WO.val (run_assign rfl) rfl rfl rfl ?_
    refine WO.nil ?_
    refine NX.go ?_
    refine WP.seq ?_
    refine WP.region rfl ?_
    refine WO.val (run_move rfl) rfl rfl rfl ?_
    refine WO.val (run_cat rfl rfl (by simp; omega)) rfl rfl rfl ?_
    refine WO.call rfl rfl Ty.hd12 rfl (decM_spec (((encM m).1) ++ [120]) (by have := enc_len hr; first | omega | (rw [List.length_append]; simp; omega)) hS19) (fun v24 w23 pv24 => ?_)
    obtain ⟨b20, c21, hv, hr22, hS23⟩ := pv24
    clear hS19
    rw [(dec_enc hr hok).2] at hv
    rw [(dec_enc hr hok).2] at hS23
    change _ = Value.tuple #[Value.agg #[Value.int .i64 zeroM.e, Value.int .i64 zeroM.b, Value.int .i64 zeroM.p, Value.int .i64 zeroM.k, Value.int .i64 zeroM.c, Value.slice b20 zeroM.bl.length c21], Value.int .i64 3] at hv
    subst hv
    replace hS23 : St B (own b20 zeroM.bl.length c21 9 1 (zeroM.bl.map str) :: cel g18 [Value.int .i64 m.e, Value.int .i64 m.b, Value.int .i64 m.p, Value.int .i64 m.k, Value.int .i64 m.c, Value.slice b12 m.bl.length c13] 30 :: own b12 m.bl.length c13 9 1 (m.bl.map str) :: own b1 m.bl.length c1 9 1 (m.bl.map str) :: (.pure True) :: cel g2 [Value.int .i64 m.e, Value.int .i64 m.b, Value.int .i64 m.p, Value.int .i64 m.k, Value.int .i64 m.c, Value.slice a m.bl.length cap] 24 :: L) w23 := hS23
    refine WO.val (run_move rfl) rfl rfl rfl ?_
    refine WO.val (run_extract rfl rfl) rfl rfl rfl ?_
    refine WO.val (run_extract rfl rfl) rfl rfl rfl ?_
    refine WO.alloc (l := [Value.int .i64 0, Value.int .i64 0, Value.int .i64 0, Value.int .i64 0, Value.int .i64 0, Value.slice none 0 0]) hS23 Ty.zr30 rfl rfl (fun g26 w25 lg26 hS25 => ?_)
    clear hS23
    refine WO.store (l' := [Value.int .i64 zeroM.e, Value.int .i64 zeroM.b, Value.int .i64 zeroM.p, Value.int .i64 zeroM.k, Value.int .i64 zeroM.c, Value.slice b20 zeroM.bl.length c21]) 0 hS25 rfl Ty.sz30 rfl rfl rfl rfl rfl (Nat.le_of_ble_eq_true rfl) rfl (fun w27 (hS27 : St B (cel g26 [Value.int .i64 zeroM.e, Value.int .i64 zeroM.b, Value.int .i64 zeroM.p, Value.int .i64 zeroM.k, Value.int .i64 zeroM.c, Value.slice b20 zeroM.bl.length c21] 30 :: own b20 zeroM.bl.length c21 9 1 (zeroM.bl.map str) :: cel g18 [Value.int .i64 m.e, Value.int .i64 m.b, Value.int .i64 m.p, Value.int .i64 m.k, Value.int .i64 m.c, Value.slice b12 m.bl.length c13] 30 :: own b12 m.bl.length c13 9 1 (m.bl.map str) :: own b1 m.bl.length c1 9 1 (m.bl.map str) :: (.pure True) :: cel g2 [Value.int .i64 m.e, Value.int .i64 m.b, Value.int .i64 m.p, Value.int .i64 m.k, Value.int .i64 m.c, Value.slice a m.bl.length cap] 24 :: L) w27) => ?_)
    clear hS25
    refine WO.val (run_assign rfl) rfl rfl rfl ?_
    refine WO.nil ?_
    refine NX.go ?_
    refine WP.seq ?_
    refine WD.start (fun w => (∀ j, World.cell? w ⟨g26, j, none⟩ = [Value.int .i64 zeroM.e, Value.int .i64 zeroM.b, Value.int .i64 zeroM.p, Value.int .i64 zeroM.k, Value.int .i64 zeroM.c, Value.slice b20 zeroM.bl.length c21][j]?) ∧ (∀ j, World.cell? w ⟨g18, j, none⟩ = [Value.int .i64 m.e, Value.int .i64 m.b, Value.int .i64 m.p, Value.int .i64 m.k, Value.int .i64 m.c, Value.slice b12 m.bl.length c13][j]?) ∧ (∀ j, World.cell? w ⟨g2, j, none⟩ = [Value.int .i64 m.e, Value.int .i64 m.b, Value.int .i64 m.p, Value.int .i64 m.k, Value.int .i64 m.c, Value.slice a m.bl.length cap][j]?)) [] #[false, false, false, false, false, false, false, false, false, false, false, false, false] Ty.mo rfl (by kernel_rfl) hS27 (fun _ h => ⟨h.cel_at 0 rfl, h.cel_at 2 rfl, h.cel_at 6 rfl⟩) (fun w28 hS28 s29 => ?_)
    clear hS27
    refine WD.pure (i := 0) manifestBack_core_t9 #[true, false, false, false, false, false, false, false, false, false, false, false, false] rfl rfl rfl (by kernel_rfl) (PQ.then (PQ.then PQ.body)) rfl (fun w => run_move rfl) ?_
    refine WD.pure (i := 1) manifestBack_core_t9 #[true, true, false, false, false, false, false, false, false, false, false, false, false] rfl rfl rfl (by kernel_rfl) (PQ.then (PQ.then PQ.body)) rfl (fun w => run_neq rfl rfl) ?_
    refine WD.pure (i := 2) manifestBack_core_t9 #[true, true, true, false, false, false, false, false, false, false, false, false, false] rfl rfl rfl (by kernel_rfl) (PQ.then (PQ.then PQ.body)) rfl (fun w => run_move rfl) ?_
    refine WD.takeOn (i := 3) manifestBack_core_t9 #[true, true, true, true, false, false, false, false, false, false, false, false, false] s29 rfl rfl rfl (by decide) (by kernel_rfl) (PQ.then (PQ.then PQ.body)) rfl (fun w hs => run_loadAgg (vs := [Value.int .i64 m.e, Value.int .i64 m.b, Value.int .i64 m.p, Value.int .i64 m.k, Value.int .i64 m.c, Value.slice b12 m.bl.length c13]) Ty.ag30 Ty.sz30 rfl rfl (cell_all (hs.2.1) 0 rfl)) ?_
    refine WD.takeOn (i := 5) manifestBack_core_t9 #[true, true, true, true, false, true, false, false, false, false, false, false, false] s29 rfl rfl rfl (by decide) (by kernel_rfl) (PQ.then (PQ.then PQ.body)) rfl (fun w hs => run_loadAgg (vs := [Value.int .i64 m.e, Value.int .i64 m.b, Value.int .i64 m.p, Value.int .i64 m.k, Value.int .i64 m.c, Value.slice a m.bl.length cap]) Ty.ag24 Ty.sz24 rfl rfl (cell_all (hs.2.2) 0 rfl)) ?_
    refine WD.one (i := 4) manifestBack_core_t9 #[true, true, true, true, true, true, false, false, false, false, false, false, false] rfl (by kernel_rfl) ?_
    refine WO.on rfl rfl (by decide) ?_
    refine WO.call rfl rfl Ty.hd14 rfl (from_spec (m := m) hS28) (fun v31 w30 pv31 => ?_)
    obtain ⟨rfl, hS30⟩ := pv31
    clear hS28
    refine WO.nil ?_
    have s32 : (∀ j, World.cell? w30 ⟨g26, j, none⟩ = [Value.int .i64 zeroM.e, Value.int .i64 zeroM.b, Value.int .i64 zeroM.p, Value.int .i64 zeroM.k, Value.int .i64 zeroM.c, Value.slice b20 zeroM.bl.length c21][j]?) ∧ (∀ j, World.cell? w30 ⟨g18, j, none⟩ = [Value.int .i64 m.e, Value.int .i64 m.b, Value.int .i64 m.p, Value.int .i64 m.k, Value.int .i64 m.c, Value.slice b12 m.bl.length c13][j]?) ∧ (∀ j, World.cell? w30 ⟨g2, j, none⟩ = [Value.int .i64 m.e, Value.int .i64 m.b, Value.int .i64 m.p, Value.int .i64 m.k, Value.int .i64 m.c, Value.slice a m.bl.length cap][j]?) := ⟨hS30.cel_at 0 rfl, hS30.cel_at 2 rfl, hS30.cel_at 6 rfl⟩
    refine NX.held s32 ?_
    refine WD.one (i := 6) manifestBack_core_t9 #[true, true, true, true, true, true, true, false, false, false, false, false, false] rfl (by kernel_rfl) ?_
    refine WO.on rfl rfl (by decide) ?_
    have hS33 := hS30.permT [3, 4, 0, 0, 0, 0, 0] (L' := own b12 m.bl.length c13 9 1 (m.bl.map str) :: (.pure True) :: cel g26 [Value.int .i64 zeroM.e, Value.int .i64 zeroM.b, Value.int .i64 zeroM.p, Value.int .i64 zeroM.k, Value.int .i64 zeroM.c, Value.slice b20 zeroM.bl.length c21] 30 :: own b20 zeroM.bl.length c21 9 1 (zeroM.bl.map str) :: cel g18 [Value.int .i64 m.e, Value.int .i64 m.b, Value.int .i64 m.p, Value.int .i64 m.k, Value.int .i64 m.c, Value.slice b12 m.bl.length c13] 30 :: own b1 m.bl.length c1 9 1 (m.bl.map str) :: cel g2 [Value.int .i64 m.e, Value.int .i64 m.b, Value.int .i64 m.p, Value.int .i64 m.k, Value.int .i64 m.c, Value.slice a m.bl.length cap] 24 :: L) rfl
    clear hS30
    refine WO.call rfl rfl Ty.hd13 rfl (rsame_spec (m := m) (n := m) (fun h => h.own_rd.1) (fun h => St.rdB h hA) hr hr hS33) (fun v35 w34 pv35 => ?_)
    obtain ⟨rfl, hS34⟩ := pv35
    clear hS33
    refine WO.nil ?_
    have s36 : (∀ j, World.cell? w34 ⟨g26, j, none⟩ = [Value.int .i64 zeroM.e, Value.int .i64 zeroM.b, Value.int .i64 zeroM.p, Value.int .i64 zeroM.k, Value.int .i64 zeroM.c, Value.slice b20 zeroM.bl.length c21][j]?) ∧ (∀ j, World.cell? w34 ⟨g18, j, none⟩ = [Value.int .i64 m.e, Value.int .i64 m.b, Value.int .i64 m.p, Value.int .i64 m.k, Value.int .i64 m.c, Value.slice b12 m.bl.length c13][j]?) ∧ (∀ j, World.cell? w34 ⟨g2, j, none⟩ = [Value.int .i64 m.e, Value.int .i64 m.b, Value.int .i64 m.p, Value.int .i64 m.k, Value.int .i64 m.c, Value.slice a m.bl.length cap][j]?) := ⟨hS34.cel_at 2 rfl, hS34.cel_at 4 rfl, hS34.cel_at 6 rfl⟩
    refine NX.held s36 ?_
    refine WD.pureOn (i := 7) manifestBack_core_t9 #[true, true, true, true, true, true, true, true, false, false, false, false, false] rfl rfl rfl (by decide) (by kernel_rfl) (PQ.then (PQ.then PQ.body)) rfl (fun w => run_not rfl rfl) ?_
    refine WD.pure (i := 8) manifestBack_core_t9 #[true, true, true, true, true, true, true, true, true, false, false, false, false] rfl rfl rfl (by kernel_rfl) (PQ.then (PQ.then PQ.body)) rfl (fun w => run_pickF rfl (by decide) rfl) ?_
    refine WD.pure (i := 9) manifestBack_core_t9 #[true, true, true, true, true, true, true, true, true, true, false, false, false] rfl rfl rfl (by kernel_rfl) (PQ.then (PQ.then PQ.body)) rfl (fun w => run_move rfl) ?_
    refine WD.pureOn (i := 10) manifestBack_core_t9 #[true, true, true, true, true, true, true, true, true, true, true, false, false] rfl rfl rfl (notB_t (decide_eq_true rfl)) (by kernel_rfl) (PQ.then (PQ.then PQ.body)) rfl (fun w => run_move rfl) ?_
    refine WD.pureOn (i := 11) manifestBack_core_t9 #[true, true, true, true, true, true, true, true, true, true, true, true, false] rfl rfl rfl (notB_t (decide_eq_true rfl)) (by kernel_rfl) (PQ.then (PQ.then PQ.body)) rfl (fun w => run_neq rfl rfl) ?_
    refine WD.pure (i := 12) manifestBack_core_t9 #[true, true, true, true, true, true, true, true, true, true, true, true, true] rfl rfl rfl (by kernel_rfl) (PQ.then (PQ.then PQ.body)) rfl (fun w => run_pickF rfl (notB_t (decide_eq_true rfl)) rfl) ?_
    refine WD.done manifestBack_core_t9 (by kernel_rfl) ?_
    refine NX.go ?_
    refine WP.condF rfl (by decide) ?_
    refine WP.skip ?_
    refine NX.go ?_
    refine WP.seq ?_
    refine WP.region rfl ?_
    refine WO.val (run_move rfl) rfl rfl rfl ?_
    refine WO.call rfl rfl Ty.hd12 rfl (decM_spec s (by omega) hS34) (fun v40 w39 pv40 => ?_)
    obtain ⟨b37, c38, hv, hrs, hS39⟩ := pv40
    clear hS34
    subst hv
    refine WO.val (run_move rfl) rfl rfl rfl ?_
    refine WO.val (run_extract rfl rfl) rfl rfl rfl ?_
    refine WO.val (run_extract rfl rfl) rfl rfl rfl ?_
    refine WO.alloc (l := [Value.int .i64 0, Value.int .i64 0, Value.int .i64 0, Value.int .i64 0, Value.int .i64 0, Value.slice none 0 0]) hS39 Ty.zr30 rfl rfl (fun g42 w41 lg42 hS41 => ?_)
    clear hS39
    refine WO.store (l' := [Value.int .i64 ((decM s).1.e), Value.int .i64 ((decM s).1.b), Value.int .i64 ((decM s).1.p), Value.int .i64 ((decM s).1.k), Value.int .i64 ((decM s).1.c), Value.slice b37 ((decM s).1.bl.length) c38]) 0 hS41 rfl Ty.sz30 rfl rfl rfl rfl rfl (Nat.le_of_ble_eq_true rfl) rfl (fun w43 (hS43 : St B (cel g42 [Value.int .i64 ((decM s).1.e), Value.int .i64 ((decM s).1.b), Value.int .i64 ((decM s).1.p), Value.int .i64 ((decM s).1.k), Value.int .i64 ((decM s).1.c), Value.slice b37 ((decM s).1.bl.length) c38] 30 :: own b37 ((decM s).1.bl.length) c38 9 1 ((decM s).1.bl.map str) :: own b12 m.bl.length c13 9 1 (m.bl.map str) :: (.pure True) :: cel g26 [Value.int .i64 zeroM.e, Value.int .i64 zeroM.b, Value.int .i64 zeroM.p, Value.int .i64 zeroM.k, Value.int .i64 zeroM.c, Value.slice b20 zeroM.bl.length c21] 30 :: own b20 zeroM.bl.length c21 9 1 (zeroM.bl.map str) :: cel g18 [Value.int .i64 m.e, Value.int .i64 m.b, Value.int .i64 m.p, Value.int .i64 m.k, Value.int .i64 m.c, Value.slice b12 m.bl.length c13] 30 :: own b1 m.bl.length c1 9 1 (m.bl.map str) :: cel g2 [Value.int .i64 m.e, Value.int .i64 m.b, Value.int .i64 m.p, Value.int .i64 m.k, Value.int .i64 m.c, Value.slice a m.bl.length cap] 24 :: L) w43) => ?_)
    clear hS41
    refine WO.val (run_assign rfl) rfl rfl rfl ?_
    refine WO.nil ?_
    refine NX.go ?_
    refine WP.seq ?_
    refine WP.seq ?_
    refine WP.region rfl ?_
    refine WO.val (run_move rfl) rfl rfl rfl ?_
    refine WO.val (run_neq rfl rfl) rfl rfl rfl ?_
    refine WO.nil ?_
    refine NX.go ?_
    refine WP.condP rfl (fun g62 => ?_) (fun g62 => ?_)
    ·
     have hds := dec_err g62
     refine WP.seq ?_
     refine WP.region rfl ?_
     refine WO.val (run_move rfl) rfl rfl rfl ?_
     refine WO.val (run_eql rfl rfl) rfl rfl rfl ?_
     refine WO.val (run_move rfl) rfl rfl rfl ?_
     by_cases g65 : ((decM s).2) = 3
     ·
      refine WO.on rfl rfl (decide_eq_true g65) ?_
      refine WO.val (run_fieldAddr (q := ⟨g42, 0, none⟩) (show fieldB Tryz.prog 30 0 = some 0 from by kernel_rfl) rfl rfl) rfl rfl rfl ?_
      refine WO.on rfl rfl (decide_eq_true g65) ?_
      refine WO.val (run_load Ty.ag3 rfl ((hS43.cel_at 0 rfl 0).trans rfl)) rfl rfl rfl ?_
      refine WO.on rfl rfl (decide_eq_true g65) ?_
      refine WO.val (run_eql rfl rfl) rfl rfl rfl ?_
      refine WO.val (run_pickT rfl (decide_eq_true g65) rfl) rfl rfl rfl ?_
      refine WO.val (run_assign rfl) rfl rfl rfl ?_
      refine WO.nil ?_
      refine NX.go ?_
      refine WP.ret ?_
      refine NX.thenRet ?_
      refine NX.done (l := [.tmp 4]) rfl rfl ?_
      exact ⟨congrArg Value.bool (decide_eq_true (by rw [hds]; rfl)), hS43.drop.drop.drop.drop.drop.drop.drop.drop.drop⟩
     ·
      exfalso; exact g65 (by rw [hds])
    ·
     have hds := dec_back (Decidable.of_not_not g62)
     refine WP.skip ?_
     refine NX.go ?_
     refine WP.seq ?_
     refine WP.region rfl ?_
     refine WO.val (run_loadAgg (vs := [Value.int .i64 ((decM s).1.e), Value.int .i64 ((decM s).1.b), Value.int .i64 ((decM s).1.p), Value.int .i64 ((decM s).1.k), Value.int .i64 ((decM s).1.c), Value.slice b37 ((decM s).1.bl.length) c38]) Ty.ag30 Ty.sz30 rfl rfl (cell_all (hS43.cel_at 0 rfl) 0 rfl)) rfl rfl rfl ?_
     have hS44 := hS43.permT [1, 0, 0, 0, 0, 0, 0, 0, 0] (L' := own b37 ((decM s).1.bl.length) c38 9 1 ((decM s).1.bl.map str) :: cel g42 [Value.int .i64 ((decM s).1.e), Value.int .i64 ((decM s).1.b), Value.int .i64 ((decM s).1.p), Value.int .i64 ((decM s).1.k), Value.int .i64 ((decM s).1.c), Value.slice b37 ((decM s).1.bl.length) c38] 30 :: own b12 m.bl.length c13 9 1 (m.bl.map str) :: (.pure True) :: cel g26 [Value.int .i64 zeroM.e, Value.int .i64 zeroM.b, Value.int .i64 zeroM.p, Value.int .i64 zeroM.k, Value.int .i64 zeroM.c, Value.slice b20 zeroM.bl.length c21] 30 :: own b20 zeroM.bl.length c21 9 1 (zeroM.bl.map str) :: cel g18 [Value.int .i64 m.e, Value.int .i64 m.b, Value.int .i64 m.p, Value.int .i64 m.k, Value.int .i64 m.c, Value.slice b12 m.bl.length c13] 30 :: own b1 m.bl.length c1 9 1 (m.bl.map str) :: cel g2 [Value.int .i64 m.e, Value.int .i64 m.b, Value.int .i64 m.p, Value.int .i64 m.k, Value.int .i64 m.c, Value.slice a m.bl.length cap] 24 :: L) rfl
     clear hS43
     refine WO.call rfl rfl Ty.hd10 rfl (encM_spec (m := (decM s).1) (fun h => h.own_rd.1) hrs hS44) (fun v46 w45 pv46 => ?_)
     obtain ⟨rfl, hS45⟩ := pv46
     clear hS44
     refine WO.val (run_move rfl) rfl rfl rfl ?_
     refine WO.val (run_extract rfl rfl) rfl rfl rfl ?_
     refine WO.val (run_extract rfl rfl) rfl rfl rfl ?_
     refine WO.val (run_assign rfl) rfl rfl rfl ?_
     refine WO.val (run_assign rfl) rfl rfl rfl ?_
     refine WO.nil ?_
     refine NX.go ?_
     refine WP.seq ?_
     refine WP.region rfl ?_
     refine WO.val (run_move rfl) rfl rfl rfl ?_
     refine WO.val (run_eql rfl rfl) rfl rfl rfl ?_
     refine WO.val (run_move rfl) rfl rfl rfl ?_
     by_cases g77 : ((encM (decM s).1).2) = 0
     ·
      refine WO.on rfl rfl (decide_eq_true g77) ?_
      refine WO.val (run_move rfl) rfl rfl rfl ?_
      refine WO.on rfl rfl (decide_eq_true g77) ?_
      refine WO.val (run_move rfl) rfl rfl rfl ?_
      refine WO.on rfl rfl (decide_eq_true g77) ?_
      refine WO.val (run_eqlS rfl rfl) rfl rfl rfl ?_
      refine WO.val (run_pickT rfl (decide_eq_true g77) rfl) rfl rfl rfl ?_
      refine WO.val (run_assign rfl) rfl rfl rfl ?_
      refine WO.nil ?_
      refine NX.go ?_
      refine WP.ret ?_
      refine NX.done (l := [.tmp 4]) rfl rfl ?_
      exact ⟨congrArg Value.bool (decide_eq_true (by rw [hds])), hS45.drop.drop.drop.drop.drop.drop.drop.drop.drop⟩
     ·
      exfalso; exact g77 (by rw [hds])
   ·
    refine WP.skip ?_
    refine NX.go ?_
    refine WP.seq ?_
    refine WP.region rfl ?_
    refine WO.val (run_move rfl) rfl rfl rfl ?_
    refine WO.call rfl rfl Ty.hd12 rfl (decM_spec s (by omega) hS10) (fun v50 w49 pv50 => ?_)
    obtain ⟨b47, c48, hv, hrs, hS49⟩ := pv50
    clear hS10
    subst hv
    refine WO.val (run_move rfl) rfl rfl rfl ?_
    refine WO.val (run_extract rfl rfl) rfl rfl rfl ?_
    refine WO.val (run_extract rfl rfl) rfl rfl rfl ?_
    refine WO.alloc (l := [Value.int .i64 0, Value.int .i64 0, Value.int .i64 0, Value.int .i64 0, Value.int .i64 0, Value.slice none 0 0]) hS49 Ty.zr30 rfl rfl (fun g53 w51 lg53 hS51 => ?_)
    clear hS49
    refine WO.store (l' := [Value.int .i64 ((decM s).1.e), Value.int .i64 ((decM s).1.b), Value.int .i64 ((decM s).1.p), Value.int .i64 ((decM s).1.k), Value.int .i64 ((decM s).1.c), Value.slice b47 ((decM s).1.bl.length) c48]) 0 hS51 rfl Ty.sz30 rfl rfl rfl rfl rfl (Nat.le_of_ble_eq_true rfl) rfl (fun w54 (hS54 : St B (cel g53 [Value.int .i64 ((decM s).1.e), Value.int .i64 ((decM s).1.b), Value.int .i64 ((decM s).1.p), Value.int .i64 ((decM s).1.k), Value.int .i64 ((decM s).1.c), Value.slice b47 ((decM s).1.bl.length) c48] 30 :: own b47 ((decM s).1.bl.length) c48 9 1 ((decM s).1.bl.map str) :: own b1 m.bl.length c1 9 1 (m.bl.map str) :: (.pure True) :: cel g2 [Value.int .i64 m.e, Value.int .i64 m.b, Value.int .i64 m.p, Value.int .i64 m.k, Value.int .i64 m.c, Value.slice a m.bl.length cap] 24 :: L) w54) => ?_)
    clear hS51
    refine WO.val (run_assign rfl) rfl rfl rfl ?_
    refine WO.nil ?_
    refine NX.go ?_
    refine WP.seq ?_
    refine WP.seq ?_
    refine WP.region rfl ?_
    refine WO.val (run_move rfl) rfl rfl rfl ?_
    refine WO.val (run_neq rfl rfl) rfl rfl rfl ?_
    refine WO.nil ?_
    refine NX.go ?_
    refine WP.condP rfl (fun g62 => ?_) (fun g62 => ?_)
    ·
     have hds := dec_err g62
     refine WP.seq ?_
     refine WP.region rfl ?_
     refine WO.val (run_move rfl) rfl rfl rfl ?_
     refine WO.val (run_eql rfl rfl) rfl rfl rfl ?_
     refine WO.val (run_move rfl) rfl rfl rfl ?_
     by_cases g65 : ((decM s).2) = 3
     ·
      refine WO.on rfl rfl (decide_eq_true g65) ?_
      refine WO.val (run_fieldAddr (q := ⟨g53, 0, none⟩) (show fieldB Tryz.prog 30 0 = some 0 from by kernel_rfl) rfl rfl) rfl rfl rfl ?_
      refine WO.on rfl rfl (decide_eq_true g65) ?_
      refine WO.val (run_load Ty.ag3 rfl ((hS54.cel_at 0 rfl 0).trans rfl)) rfl rfl rfl ?_
      refine WO.on rfl rfl (decide_eq_true g65) ?_
      refine WO.val (run_eql rfl rfl) rfl rfl rfl ?_
      refine WO.val (run_pickT rfl (decide_eq_true g65) rfl) rfl rfl rfl ?_
      refine WO.val (run_assign rfl) rfl rfl rfl ?_
      refine WO.nil ?_
      refine NX.go ?_
      refine WP.ret ?_
      refine NX.thenRet ?_
      refine NX.done (l := [.tmp 4]) rfl rfl ?_
      exact ⟨congrArg Value.bool (decide_eq_true (by rw [hds]; rfl)), hS54.drop.drop.drop.drop.drop⟩
     ·
      exfalso; exact g65 (by rw [hds])
    ·
     have hds := dec_back (Decidable.of_not_not g62)
     refine WP.skip ?_
     refine NX.go ?_
     refine WP.seq ?_
     refine WP.region rfl ?_
     refine WO.val (run_loadAgg (vs := [Value.int .i64 ((decM s).1.e), Value.int .i64 ((decM s).1.b), Value.int .i64 ((decM s).1.p), Value.int .i64 ((decM s).1.k), Value.int .i64 ((decM s).1.c), Value.slice b47 ((decM s).1.bl.length) c48]) Ty.ag30 Ty.sz30 rfl rfl (cell_all (hS54.cel_at 0 rfl) 0 rfl)) rfl rfl rfl ?_
     have hS55 := hS54.permT [1, 0, 0, 0, 0] (L' := own b47 ((decM s).1.bl.length) c48 9 1 ((decM s).1.bl.map str) :: cel g53 [Value.int .i64 ((decM s).1.e), Value.int .i64 ((decM s).1.b), Value.int .i64 ((decM s).1.p), Value.int .i64 ((decM s).1.k), Value.int .i64 ((decM s).1.c), Value.slice b47 ((decM s).1.bl.length) c48] 30 :: own b1 m.bl.length c1 9 1 (m.bl.map str) :: (.pure True) :: cel g2 [Value.int .i64 m.e, Value.int .i64 m.b, Value.int .i64 m.p, Value.int .i64 m.k, Value.int .i64 m.c, Value.slice a m.bl.length cap] 24 :: L) rfl
     clear hS54
     refine WO.call rfl rfl Ty.hd10 rfl (encM_spec (m := (decM s).1) (fun h => h.own_rd.1) hrs hS55) (fun v57 w56 pv57 => ?_)
     obtain ⟨rfl, hS56⟩ := pv57
     clear hS55
     refine WO.val (run_move rfl) rfl rfl rfl ?_
     refine WO.val (run_extract rfl rfl) rfl rfl rfl ?_
     refine WO.val (run_extract rfl rfl) rfl rfl rfl ?_
     refine WO.val (run_assign rfl) rfl rfl rfl ?_
     refine WO.val (run_assign rfl) rfl rfl rfl ?_
     refine WO.nil ?_
     refine NX.go ?_
     refine WP.seq ?_
     refine WP.region rfl ?_
     refine WO.val (run_move rfl) rfl rfl rfl ?_
     refine WO.val (run_eql rfl rfl) rfl rfl rfl ?_
     refine WO.val (run_move rfl) rfl rfl rfl ?_
     by_cases g77 : ((encM (decM s).1).2) = 0
     ·
      refine WO.on rfl rfl (decide_eq_true g77) ?_
      refine WO.val (run_move rfl) rfl rfl rfl ?_
      refine WO.on rfl rfl (decide_eq_true g77) ?_
      refine WO.val (run_move rfl) rfl rfl rfl ?_
      refine WO.on rfl rfl (decide_eq_true g77) ?_
      refine WO.val (run_eqlS rfl rfl) rfl rfl rfl ?_
      refine WO.val (run_pickT rfl (decide_eq_true g77) rfl) rfl rfl rfl ?_
      refine WO.val (run_assign rfl) rfl rfl rfl ?_
      refine WO.nil ?_
      refine NX.go ?_
      refine WP.ret ?_
      refine NX.done (l := [.tmp 4]) rfl rfl ?_
      exact ⟨congrArg Value.bool (decide_eq_true (by rw [hds])), hS56.drop.drop.drop.drop.drop⟩
     ·
      exfalso; exact g77 (by rw [hds])
end Go.Proofs.YtcehlnpbdffdhaaGreatDoor.SL
