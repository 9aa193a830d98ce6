/- Of any manifest it is told what is wrong with it. -/
import Derived.Test.YtcehlnpbdffdhaaDoorKv
namespace Go.Proofs.YtcehlnpbdffdhaaDoor.SL
open Go.RowKit Go.Proofs.YtcehlnpbdffdhaaDoor
open Go.Proofs.YtcehlnpbdffdhaaDoorW.PrintLast (rtab opsOf)
set_option linter.unusedVariables false
set_option linter.unusedSimpArgs false

theorem noneM_rng : RngM noneM := ⟨by decide, by decide, by decide, by decide, by decide, by decide, by intro t h; cases h⟩
theorem manifestChecks_core_t8 : rtab .any (opsOf Tryd.f3 8) = (true, [([], []), ([0], [0]), ([], []), ([2, 1], [2]), ([1, 3], [1, 3]), ([4, 3], [4]), ([5], [5]), ([5], [5]), ([6, 7, 5], [5, 6, 7]), ([5, 8], [5, 8]), ([9, 5], [9]), ([10], [10]), ([10], [10]), ([11, 12, 10], [10, 11, 12]), ([10, 13], [10, 13]), ([14, 10], [14]), ([15], [15]), ([16, 15, 15], [15, 16]), ([15], [15]), ([17, 18, 17, 15], [15, 17, 18]), ([15, 19], [15, 19]), ([20, 19], [20]), ([21], [21]), ([21], [21]), ([22, 23, 21], [21, 22, 23]), ([21, 24], [21, 24]), ([25, 21], [25]), ([26], [26]), ([27, 26, 26], [26, 27]), ([26], [26]), ([28, 29, 28, 26], [26, 28, 29]), ([26, 30], [26, 30]), ([31, 30], [31]), ([32, 32], [32]), ([33, 33, 32], [32, 33]), ([34, 32], [32]), ([34, 35, 35, 32], [32, 34, 35]), ([32, 36], [32, 36]), ([37, 36, 0, 1, 2, 3, 4, 5, 6, 7, 8, 9, 10, 11, 12, 13, 14, 15, 16, 17, 18, 19, 20, 21, 22, 23, 24, 25, 26, 27, 28, 29, 30, 31, 32, 33, 34, 35, 36, 37], [37])]) := by kernel_rfl
theorem manifestChecks_core {B w : World} {L : List HP} {a : Option Addr} {cap : Nat} {m : Man} (hA : Rd B a m.bl.length 1 (m.bl.map str)) (hr : RngM m) (s : List UInt8) (hs : s.length ≤ 140737488355328) (hS : St B L w) : Does Tryd.prog 3 [Value.agg #[Value.int .i64 m.e, Value.int .i64 m.b, Value.int .i64 m.p, Value.int .i64 m.k, Value.int .i64 m.c, Value.slice a m.bl.length cap], str s] w (fun v w1 => v = .bool true ∧ St B L w1) := by
 replace hS := hS.addPure (p := True) trivial
 refine enter (n := 81) Tryd.func3 rfl rfl [Value.agg #[Value.int .i64 m.e, Value.int .i64 m.b, Value.int .i64 m.p, Value.int .i64 m.k, Value.int .i64 m.c, Value.slice a m.bl.length cap], str s] rfl ?_
 refine WP.seq ?_
 refine WP.region rfl ?_
 refine WO.box (l := [Value.int .i64 m.e, Value.int .i64 m.b, Value.int .i64 m.p, Value.int .i64 m.k, Value.int .i64 m.c, Value.slice a m.bl.length cap]) hS rfl rfl rfl (fun g2 w1 lg2 hS1 => ?_)
 clear hS
 refine WO.val (run_assign rfl) rfl rfl rfl ?_
 refine WO.nil ?_
 refine NX.go ?_
 refine WP.seq ?_
 refine WP.seq ?_
 refine WP.region rfl ?_
 refine WO.val (run_loadAgg (vs := [Value.int .i64 m.e, Value.int .i64 m.b, Value.int .i64 m.p, Value.int .i64 m.k, Value.int .i64 m.c, Value.slice a m.bl.length cap]) Ty.ag24 Ty.sz24 rfl rfl (cell_all (hS1.cel_at 0 rfl) 0 rfl)) rfl rfl rfl ?_
 have hS3 := hS1.permT [1, 0] (L' := (.pure True) :: cel g2 [Value.int .i64 m.e, Value.int .i64 m.b, Value.int .i64 m.p, Value.int .i64 m.k, Value.int .i64 m.c, Value.slice a m.bl.length cap] 24 :: L) rfl
 clear hS1
 refine WO.call rfl rfl Ty.hd9 rfl (great_spec (m := m) (fun h => St.rdB h hA) hr hS3) (fun v5 w4 pv5 => ?_)
 obtain ⟨gb, rfl, hgb, hS4⟩ := pv5
 clear hS3
 refine WO.val (run_move rfl) rfl rfl rfl ?_
 rcases Bool.eq_false_or_eq_true gb with g16 | g16
 ·
  refine WO.off rfl rfl g16 rfl ?_
  refine WO.off rfl rfl g16 rfl ?_
  refine WO.off rfl rfl g16 rfl ?_
  refine WO.val (run_pickT rfl g16 rfl) rfl rfl rfl ?_
  refine WO.nil ?_
  refine NX.go ?_
  refine WP.condT rfl rfl ?_
  refine WP.seq ?_
  refine WP.region rfl ?_
  refine WO.val (run_assign rfl) rfl rfl rfl ?_
  refine WO.nil ?_
  refine NX.go ?_
  refine WP.ret ?_
  refine NX.thenRet ?_
  refine NX.done (l := [.tmp 4]) rfl rfl ?_
  exact ⟨rfl, hS4.drop.drop⟩
 ·
  refine WO.on rfl rfl g16 ?_
  refine WO.val (run_move rfl) rfl rfl rfl ?_
  refine WO.on rfl rfl g16 ?_
  refine WO.val (run_lenS rfl Tryd.underlying9 rfl) rfl rfl rfl ?_
  refine WO.on rfl rfl g16 ?_
  refine WO.val (run_gtr rfl rfl) rfl rfl rfl ?_
  refine WO.val (run_pickF rfl g16 rfl) rfl rfl rfl ?_
  refine WO.nil ?_
  refine NX.go ?_
  refine WP.condP rfl (fun g20 => ?_) (fun g20 => ?_)
  ·
   refine WP.seq ?_
   refine WP.region rfl ?_
   refine WO.val (run_assign rfl) rfl rfl rfl ?_
   refine WO.nil ?_
   refine NX.go ?_
   refine WP.ret ?_
   refine NX.thenRet ?_
   refine NX.done (l := [.tmp 4]) rfl rfl ?_
   exact ⟨rfl, hS4.drop.drop⟩
  ·
   refine WP.skip ?_
   refine NX.go ?_
   refine WP.seq ?_
   refine WP.region rfl ?_
   refine WO.val (run_loadAgg (vs := [Value.int .i64 m.e, Value.int .i64 m.b, Value.int .i64 m.p, Value.int .i64 m.k, Value.int .i64 m.c, Value.slice a m.bl.length cap]) Ty.ag24 Ty.sz24 rfl rfl (cell_all (hS4.cel_at 1 rfl) 0 rfl)) rfl rfl rfl ?_
   refine WO.call rfl rfl Ty.hd10 rfl (to_spec (m := m) (fun h => St.rdB h hA) hr hS4) (fun v7 w6 pv7 => ?_)
   obtain ⟨b1, c1, rfl, hS6⟩ := pv7
   clear hS4
   refine WO.alloc (l := [Value.int .i64 0, Value.int .i64 0, Value.int .i64 0, Value.int .i64 0, Value.int .i64 0, Value.slice none 0 0]) hS6 Ty.zr26 rfl rfl (fun g9 w8 lg9 hS8 => ?_)
   clear hS6
   refine WO.store (l' := [Value.int .i64 m.e, Value.int .i64 m.b, Value.int .i64 m.p, Value.int .i64 m.k, Value.int .i64 m.c, Value.slice b1 m.bl.length c1]) 0 hS8 rfl Ty.sz26 rfl rfl rfl rfl rfl (Nat.le_of_ble_eq_true rfl) rfl (fun w10 (hS10 : St B (cel g9 [Value.int .i64 m.e, Value.int .i64 m.b, Value.int .i64 m.p, Value.int .i64 m.k, Value.int .i64 m.c, Value.slice b1 m.bl.length c1] 26 :: own b1 m.bl.length c1 9 1 (m.bl.map str) :: (.pure True) :: cel g2 [Value.int .i64 m.e, Value.int .i64 m.b, Value.int .i64 m.p, Value.int .i64 m.k, Value.int .i64 m.c, Value.slice a m.bl.length cap] 24 :: L) w10) => ?_)
   clear hS8
   refine WO.nil ?_
   refine NX.go ?_
   refine WP.seq ?_
   refine WP.region rfl ?_
   refine WO.val (run_loadAgg (vs := [Value.int .i64 m.e, Value.int .i64 m.b, Value.int .i64 m.p, Value.int .i64 m.k, Value.int .i64 m.c, Value.slice b1 m.bl.length c1]) Ty.ag26 Ty.sz26 rfl rfl (cell_all (hS10.cel_at 0 rfl) 0 rfl)) rfl rfl rfl ?_
   have hS11 := hS10.permT [1, 0, 0, 0] (L' := own b1 m.bl.length c1 9 1 (m.bl.map str) :: cel g9 [Value.int .i64 m.e, Value.int .i64 m.b, Value.int .i64 m.p, Value.int .i64 m.k, Value.int .i64 m.c, Value.slice b1 m.bl.length c1] 26 :: (.pure True) :: cel g2 [Value.int .i64 m.e, Value.int .i64 m.b, Value.int .i64 m.p, Value.int .i64 m.k, Value.int .i64 m.c, Value.slice a m.bl.length cap] 24 :: L) rfl
   clear hS10
   refine WO.call rfl rfl Ty.hd11 rfl (encM_spec (m := m) (fun h => h.own_rd.1) hr hS11) (fun v13 w12 pv13 => ?_)
   obtain ⟨rfl, hS12⟩ := pv13
   clear hS11
   refine WO.val (run_move rfl) rfl rfl rfl ?_
   refine WO.val (run_extract rfl rfl) rfl rfl rfl ?_
   refine WO.val (run_extract rfl rfl) rfl rfl rfl ?_
   refine WO.val (run_assign rfl) rfl rfl rfl ?_
   refine WO.val (run_assign rfl) rfl rfl rfl ?_
   refine WO.nil ?_
   refine NX.go ?_
   refine WP.seq ?_
   refine WP.region rfl ?_
   refine WO.val (run_loadAgg (vs := [Value.int .i64 m.e, Value.int .i64 m.b, Value.int .i64 m.p, Value.int .i64 m.k, Value.int .i64 m.c, Value.slice a m.bl.length cap]) Ty.ag24 Ty.sz24 rfl rfl (cell_all (hS12.cel_at 3 rfl) 0 rfl)) rfl rfl rfl ?_
   have hS14 := hS12.permT [2, 0, 0, 0] (L' := (.pure True) :: own b1 m.bl.length c1 9 1 (m.bl.map str) :: cel g9 [Value.int .i64 m.e, Value.int .i64 m.b, Value.int .i64 m.p, Value.int .i64 m.k, Value.int .i64 m.c, Value.slice b1 m.bl.length c1] 26 :: cel g2 [Value.int .i64 m.e, Value.int .i64 m.b, Value.int .i64 m.p, Value.int .i64 m.k, Value.int .i64 m.c, Value.slice a m.bl.length cap] 24 :: L) rfl
   clear hS12
   refine WO.call rfl rfl Ty.hd12 rfl (rencM_spec (m := m) (fun h => St.rdB h hA) hr hS14) (fun v16 w15 pv16 => ?_)
   obtain ⟨rfl, hS15⟩ := pv16
   clear hS14
   refine WO.val (run_move rfl) rfl rfl rfl ?_
   refine WO.val (run_extract rfl rfl) rfl rfl rfl ?_
   refine WO.val (run_extract rfl rfl) rfl rfl rfl ?_
   refine WO.val (run_assign rfl) rfl rfl rfl ?_
   refine WO.val (run_assign rfl) rfl rfl rfl ?_
   refine WO.nil ?_
   refine NX.go ?_
   refine WP.seq ?_
   refine WP.region rfl ?_
   refine WO.val (run_move rfl) rfl rfl rfl ?_
   refine WO.call rfl rfl Ty.hd13 rfl (decM_spec s (by omega) hS15) (fun v18 w17 pv18 => ?_)
   obtain ⟨b2, c2, rfl, hrd, hS17⟩ := pv18
   clear hS15
   refine WO.val (run_move rfl) rfl rfl rfl ?_
   refine WO.val (run_extract rfl rfl) rfl rfl rfl ?_
   refine WO.val (run_extract rfl rfl) rfl rfl rfl ?_
   refine WO.alloc (l := [Value.int .i64 0, Value.int .i64 0, Value.int .i64 0, Value.int .i64 0, Value.int .i64 0, Value.slice none 0 0]) hS17 Ty.zr26 rfl rfl (fun g20 w19 lg20 hS19 => ?_)
   clear hS17
   refine WO.store (l' := [Value.int .i64 ((decM s).1.e), Value.int .i64 ((decM s).1.b), Value.int .i64 ((decM s).1.p), Value.int .i64 ((decM s).1.k), Value.int .i64 ((decM s).1.c), Value.slice b2 ((decM s).1.bl.length) c2]) 0 hS19 rfl Ty.sz26 rfl rfl rfl rfl rfl (Nat.le_of_ble_eq_true rfl) rfl (fun w21 (hS21 : St B (cel g20 [Value.int .i64 ((decM s).1.e), Value.int .i64 ((decM s).1.b), Value.int .i64 ((decM s).1.p), Value.int .i64 ((decM s).1.k), Value.int .i64 ((decM s).1.c), Value.slice b2 ((decM s).1.bl.length) c2] 26 :: own b2 ((decM s).1.bl.length) c2 9 1 ((decM s).1.bl.map str) :: (.pure True) :: own b1 m.bl.length c1 9 1 (m.bl.map str) :: cel g9 [Value.int .i64 m.e, Value.int .i64 m.b, Value.int .i64 m.p, Value.int .i64 m.k, Value.int .i64 m.c, Value.slice b1 m.bl.length c1] 26 :: cel g2 [Value.int .i64 m.e, Value.int .i64 m.b, Value.int .i64 m.p, Value.int .i64 m.k, Value.int .i64 m.c, Value.slice a m.bl.length cap] 24 :: L) w21) => ?_)
   clear hS19
   refine WO.val (run_assign rfl) rfl rfl rfl ?_
   refine WO.nil ?_
   refine NX.go ?_
   refine WP.seq ?_
   refine WP.region rfl ?_
   refine WO.val (run_move rfl) rfl rfl rfl ?_
   refine WO.call rfl rfl Ty.hd14 rfl (rdecM_spec s (by omega) hS21) (fun v23 w22 pv23 => ?_)
   obtain ⟨b3, c3, rfl, _, hS22⟩ := pv23
   clear hS21
   refine WO.val (run_move rfl) rfl rfl rfl ?_
   refine WO.val (run_extract rfl rfl) rfl rfl rfl ?_
   refine WO.val (run_extract rfl rfl) rfl rfl rfl ?_
   refine WO.alloc (l := [Value.int .i64 0, Value.int .i64 0, Value.int .i64 0, Value.int .i64 0, Value.int .i64 0, Value.slice none 0 0]) hS22 Ty.zr24 rfl rfl (fun g25 w24 lg25 hS24 => ?_)
   clear hS22
   refine WO.store (l' := [Value.int .i64 ((decM s).1.e), Value.int .i64 ((decM s).1.b), Value.int .i64 ((decM s).1.p), Value.int .i64 ((decM s).1.k), Value.int .i64 ((decM s).1.c), Value.slice b3 ((decM s).1.bl.length) c3]) 0 hS24 rfl Ty.sz24 rfl rfl rfl rfl rfl (Nat.le_of_ble_eq_true rfl) rfl (fun w26 (hS26 : St B (cel g25 [Value.int .i64 ((decM s).1.e), Value.int .i64 ((decM s).1.b), Value.int .i64 ((decM s).1.p), Value.int .i64 ((decM s).1.k), Value.int .i64 ((decM s).1.c), Value.slice b3 ((decM s).1.bl.length) c3] 24 :: own b3 ((decM s).1.bl.length) c3 9 1 ((decM s).1.bl.map str) :: cel g20 [Value.int .i64 ((decM s).1.e), Value.int .i64 ((decM s).1.b), Value.int .i64 ((decM s).1.p), Value.int .i64 ((decM s).1.k), Value.int .i64 ((decM s).1.c), Value.slice b2 ((decM s).1.bl.length) c2] 26 :: own b2 ((decM s).1.bl.length) c2 9 1 ((decM s).1.bl.map str) :: (.pure True) :: own b1 m.bl.length c1 9 1 (m.bl.map str) :: cel g9 [Value.int .i64 m.e, Value.int .i64 m.b, Value.int .i64 m.p, Value.int .i64 m.k, Value.int .i64 m.c, Value.slice b1 m.bl.length c1] 26 :: cel g2 [Value.int .i64 m.e, Value.int .i64 m.b, Value.int .i64 m.p, Value.int .i64 m.k, Value.int .i64 m.c, Value.slice a m.bl.length cap] 24 :: L) w26) => ?_)
   clear hS24
   refine WO.val (run_assign rfl) rfl rfl rfl ?_
   refine WO.nil ?_
   refine NX.go ?_
   refine WP.seq ?_
   refine WD.start (fun w => (∀ j, World.cell? w ⟨g25, j, none⟩ = [Value.int .i64 ((decM s).1.e), Value.int .i64 ((decM s).1.b), Value.int .i64 ((decM s).1.p), Value.int .i64 ((decM s).1.k), Value.int .i64 ((decM s).1.c), Value.slice b3 ((decM s).1.bl.length) c3][j]?) ∧ (∀ j, World.cell? w ⟨g20, j, none⟩ = [Value.int .i64 ((decM s).1.e), Value.int .i64 ((decM s).1.b), Value.int .i64 ((decM s).1.p), Value.int .i64 ((decM s).1.k), Value.int .i64 ((decM s).1.c), Value.slice b2 ((decM s).1.bl.length) c2][j]?) ∧ (∀ j, World.cell? w ⟨g9, j, none⟩ = [Value.int .i64 m.e, Value.int .i64 m.b, Value.int .i64 m.p, Value.int .i64 m.k, Value.int .i64 m.c, Value.slice b1 m.bl.length c1][j]?) ∧ (∀ j, World.cell? w ⟨g2, j, none⟩ = [Value.int .i64 m.e, Value.int .i64 m.b, Value.int .i64 m.p, Value.int .i64 m.k, Value.int .i64 m.c, Value.slice a m.bl.length cap][j]?)) [] #[false, false, false, false, false, false, false, false, false, false, false, false, false, false, false, false, false, false, false, false, false, false, false, false, false, false, false, false, false, false, false, false, false, false, false, false, false, false, false] Ty.mo rfl (by kernel_rfl) hS26 (fun _ h => ⟨h.cel_at 0 rfl, h.cel_at 2 rfl, h.cel_at 6 rfl, h.cel_at 7 rfl⟩) (fun w27 hS27 s28 => ?_)
   clear hS26
   refine WD.take (i := 0) manifestChecks_core_t8 #[true, false, false, false, false, false, false, false, false, false, false, false, false, false, false, false, false, false, false, false, false, false, false, false, false, false, false, false, false, false, false, false, false, false, false, false, false, false, false] s28 rfl rfl rfl (by kernel_rfl) (PQ.then PQ.body) rfl (fun w hs => run_loadAgg (vs := [Value.int .i64 m.e, Value.int .i64 m.b, Value.int .i64 m.p, Value.int .i64 m.k, Value.int .i64 m.c, Value.slice b1 m.bl.length c1]) Ty.ag26 Ty.sz26 rfl rfl (cell_all (hs.2.2.1) 0 rfl)) ?_
   refine WD.take (i := 2) manifestChecks_core_t8 #[true, false, true, false, false, false, false, false, false, false, false, false, false, false, false, false, false, false, false, false, false, false, false, false, false, false, false, false, false, false, false, false, false, false, false, false, false, false, false] s28 rfl rfl rfl (by kernel_rfl) (PQ.then PQ.body) rfl (fun w hs => run_loadAgg (vs := [Value.int .i64 m.e, Value.int .i64 m.b, Value.int .i64 m.p, Value.int .i64 m.k, Value.int .i64 m.c, Value.slice a m.bl.length cap]) Ty.ag24 Ty.sz24 rfl rfl (cell_all (hs.2.2.2) 0 rfl)) ?_
   refine WD.one (i := 1) manifestChecks_core_t8 #[true, true, true, false, false, false, false, false, false, false, false, false, false, false, false, false, false, false, false, false, false, false, false, false, false, false, false, false, false, false, false, false, false, false, false, false, false, false, false] rfl (by kernel_rfl) ?_
   have hS29 := hS27.permT [5, 0, 0, 0, 0, 0, 0, 0] (L' := own b1 m.bl.length c1 9 1 (m.bl.map str) :: cel g25 [Value.int .i64 ((decM s).1.e), Value.int .i64 ((decM s).1.b), Value.int .i64 ((decM s).1.p), Value.int .i64 ((decM s).1.k), Value.int .i64 ((decM s).1.c), Value.slice b3 ((decM s).1.bl.length) c3] 24 :: own b3 ((decM s).1.bl.length) c3 9 1 ((decM s).1.bl.map str) :: cel g20 [Value.int .i64 ((decM s).1.e), Value.int .i64 ((decM s).1.b), Value.int .i64 ((decM s).1.p), Value.int .i64 ((decM s).1.k), Value.int .i64 ((decM s).1.c), Value.slice b2 ((decM s).1.bl.length) c2] 26 :: own b2 ((decM s).1.bl.length) c2 9 1 ((decM s).1.bl.map str) :: (.pure True) :: cel g9 [Value.int .i64 m.e, Value.int .i64 m.b, Value.int .i64 m.p, Value.int .i64 m.k, Value.int .i64 m.c, Value.slice b1 m.bl.length c1] 26 :: cel g2 [Value.int .i64 m.e, Value.int .i64 m.b, Value.int .i64 m.p, Value.int .i64 m.k, Value.int .i64 m.c, Value.slice a m.bl.length cap] 24 :: L) rfl
   clear hS27
   refine WO.call rfl rfl Ty.hd15 rfl (checkM_spec (m := m) (fun h => h.own_rd.1) hr hS29) (fun v31 w30 pv31 => ?_)
   obtain ⟨rfl, hS30⟩ := pv31
   clear hS29
   refine WO.nil ?_
   have s32 : (∀ j, World.cell? w30 ⟨g25, j, none⟩ = [Value.int .i64 ((decM s).1.e), Value.int .i64 ((decM s).1.b), Value.int .i64 ((decM s).1.p), Value.int .i64 ((decM s).1.k), Value.int .i64 ((decM s).1.c), Value.slice b3 ((decM s).1.bl.length) c3][j]?) ∧ (∀ j, World.cell? w30 ⟨g20, j, none⟩ = [Value.int .i64 ((decM s).1.e), Value.int .i64 ((decM s).1.b), Value.int .i64 ((decM s).1.p), Value.int .i64 ((decM s).1.k), Value.int .i64 ((decM s).1.c), Value.slice b2 ((decM s).1.bl.length) c2][j]?) ∧ (∀ j, World.cell? w30 ⟨g9, j, none⟩ = [Value.int .i64 m.e, Value.int .i64 m.b, Value.int .i64 m.p, Value.int .i64 m.k, Value.int .i64 m.c, Value.slice b1 m.bl.length c1][j]?) ∧ (∀ j, World.cell? w30 ⟨g2, j, none⟩ = [Value.int .i64 m.e, Value.int .i64 m.b, Value.int .i64 m.p, Value.int .i64 m.k, Value.int .i64 m.c, Value.slice a m.bl.length cap][j]?) := ⟨hS30.cel_at 1 rfl, hS30.cel_at 3 rfl, hS30.cel_at 6 rfl, hS30.cel_at 7 rfl⟩
   refine NX.held s32 ?_
   refine WD.one (i := 3) manifestChecks_core_t8 #[true, true, true, true, false, false, false, false, false, false, false, false, false, false, false, false, false, false, false, false, false, false, false, false, false, false, false, false, false, false, false, false, false, false, false, false, false, false, false] rfl (by kernel_rfl) ?_
   have hS33 := hS30.permT [5, 0, 0, 0, 0, 0, 0, 0] (L' := (.pure True) :: own b1 m.bl.length c1 9 1 (m.bl.map str) :: cel g25 [Value.int .i64 ((decM s).1.e), Value.int .i64 ((decM s).1.b), Value.int .i64 ((decM s).1.p), Value.int .i64 ((decM s).1.k), Value.int .i64 ((decM s).1.c), Value.slice b3 ((decM s).1.bl.length) c3] 24 :: own b3 ((decM s).1.bl.length) c3 9 1 ((decM s).1.bl.map str) :: cel g20 [Value.int .i64 ((decM s).1.e), Value.int .i64 ((decM s).1.b), Value.int .i64 ((decM s).1.p), Value.int .i64 ((decM s).1.k), Value.int .i64 ((decM s).1.c), Value.slice b2 ((decM s).1.bl.length) c2] 26 :: own b2 ((decM s).1.bl.length) c2 9 1 ((decM s).1.bl.map str) :: cel g9 [Value.int .i64 m.e, Value.int .i64 m.b, Value.int .i64 m.p, Value.int .i64 m.k, Value.int .i64 m.c, Value.slice b1 m.bl.length c1] 26 :: cel g2 [Value.int .i64 m.e, Value.int .i64 m.b, Value.int .i64 m.p, Value.int .i64 m.k, Value.int .i64 m.c, Value.slice a m.bl.length cap] 24 :: L) rfl
   clear hS30
   refine WO.call rfl rfl Ty.hd16 rfl (rcheckM_spec (m := m) (fun h => St.rdB h hA) hr hS33) (fun v35 w34 pv35 => ?_)
   obtain ⟨rfl, hS34⟩ := pv35
   clear hS33
   refine WO.nil ?_
   have s36 : (∀ j, World.cell? w34 ⟨g25, j, none⟩ = [Value.int .i64 ((decM s).1.e), Value.int .i64 ((decM s).1.b), Value.int .i64 ((decM s).1.p), Value.int .i64 ((decM s).1.k), Value.int .i64 ((decM s).1.c), Value.slice b3 ((decM s).1.bl.length) c3][j]?) ∧ (∀ j, World.cell? w34 ⟨g20, j, none⟩ = [Value.int .i64 ((decM s).1.e), Value.int .i64 ((decM s).1.b), Value.int .i64 ((decM s).1.p), Value.int .i64 ((decM s).1.k), Value.int .i64 ((decM s).1.c), Value.slice b2 ((decM s).1.bl.length) c2][j]?) ∧ (∀ j, World.cell? w34 ⟨g9, j, none⟩ = [Value.int .i64 m.e, Value.int .i64 m.b, Value.int .i64 m.p, Value.int .i64 m.k, Value.int .i64 m.c, Value.slice b1 m.bl.length c1][j]?) ∧ (∀ j, World.cell? w34 ⟨g2, j, none⟩ = [Value.int .i64 m.e, Value.int .i64 m.b, Value.int .i64 m.p, Value.int .i64 m.k, Value.int .i64 m.c, Value.slice a m.bl.length cap][j]?) := ⟨hS34.cel_at 2 rfl, hS34.cel_at 4 rfl, hS34.cel_at 6 rfl, hS34.cel_at 7 rfl⟩
   refine NX.held s36 ?_
   refine WD.pure (i := 4) manifestChecks_core_t8 #[true, true, true, true, true, false, false, false, false, false, false, false, false, false, false, false, false, false, false, false, false, false, false, false, false, false, false, false, false, false, false, false, false, false, false, false, false, false, false] rfl rfl rfl (by kernel_rfl) (PQ.then PQ.body) rfl (fun w => run_eql rfl rfl) ?_
   refine WD.pure (i := 5) manifestChecks_core_t8 #[true, true, true, true, true, true, false, false, false, false, false, false, false, false, false, false, false, false, false, false, false, false, false, false, false, false, false, false, false, false, false, false, false, false, false, false, false, false, false] rfl rfl rfl (by kernel_rfl) (PQ.then PQ.body) rfl (fun w => run_move rfl) ?_
   refine WD.pureOn (i := 6) manifestChecks_core_t8 #[true, true, true, true, true, true, true, false, false, false, false, false, false, false, false, false, false, false, false, false, false, false, false, false, false, false, false, false, false, false, false, false, false, false, false, false, false, false, false] rfl rfl rfl (decide_eq_true rfl) (by kernel_rfl) (PQ.then PQ.body) rfl (fun w => run_move rfl) ?_
   refine WD.pureOn (i := 7) manifestChecks_core_t8 #[true, true, true, true, true, true, true, true, false, false, false, false, false, false, false, false, false, false, false, false, false, false, false, false, false, false, false, false, false, false, false, false, false, false, false, false, false, false, false] rfl rfl rfl (decide_eq_true rfl) (by kernel_rfl) (PQ.then PQ.body) rfl (fun w => run_move rfl) ?_
   refine WD.pureOn (i := 8) manifestChecks_core_t8 #[true, true, true, true, true, true, true, true, true, false, false, false, false, false, false, false, false, false, false, false, false, false, false, false, false, false, false, false, false, false, false, false, false, false, false, false, false, false, false] rfl rfl rfl (decide_eq_true rfl) (by kernel_rfl) (PQ.then PQ.body) rfl (fun w => run_eqlS rfl rfl) ?_
   refine WD.pure (i := 9) manifestChecks_core_t8 #[true, true, true, true, true, true, true, true, true, true, false, false, false, false, false, false, false, false, false, false, false, false, false, false, false, false, false, false, false, false, false, false, false, false, false, false, false, false, false] rfl rfl rfl (by kernel_rfl) (PQ.then PQ.body) rfl (fun w => run_pickT rfl (decide_eq_true rfl) rfl) ?_
   refine WD.pure (i := 10) manifestChecks_core_t8 #[true, true, true, true, true, true, true, true, true, true, true, false, false, false, false, false, false, false, false, false, false, false, false, false, false, false, false, false, false, false, false, false, false, false, false, false, false, false, false] rfl rfl rfl (by kernel_rfl) (PQ.then PQ.body) rfl (fun w => run_move rfl) ?_
   refine WD.pureOn (i := 11) manifestChecks_core_t8 #[true, true, true, true, true, true, true, true, true, true, true, true, false, false, false, false, false, false, false, false, false, false, false, false, false, false, false, false, false, false, false, false, false, false, false, false, false, false, false] rfl rfl rfl (decide_eq_true rfl) (by kernel_rfl) (PQ.then PQ.body) rfl (fun w => run_move rfl) ?_
   refine WD.pureOn (i := 12) manifestChecks_core_t8 #[true, true, true, true, true, true, true, true, true, true, true, true, true, false, false, false, false, false, false, false, false, false, false, false, false, false, false, false, false, false, false, false, false, false, false, false, false, false, false] rfl rfl rfl (decide_eq_true rfl) (by kernel_rfl) (PQ.then PQ.body) rfl (fun w => run_move rfl) ?_
   refine WD.pureOn (i := 13) manifestChecks_core_t8 #[true, true, true, true, true, true, true, true, true, true, true, true, true, true, false, false, false, false, false, false, false, false, false, false, false, false, false, false, false, false, false, false, false, false, false, false, false, false, false] rfl rfl rfl (decide_eq_true rfl) (by kernel_rfl) (PQ.then PQ.body) rfl (fun w => run_eql rfl rfl) ?_
   refine WD.pure (i := 14) manifestChecks_core_t8 #[true, true, true, true, true, true, true, true, true, true, true, true, true, true, true, false, false, false, false, false, false, false, false, false, false, false, false, false, false, false, false, false, false, false, false, false, false, false, false] rfl rfl rfl (by kernel_rfl) (PQ.then PQ.body) rfl (fun w => run_pickT rfl (decide_eq_true rfl) rfl) ?_
   refine WD.pure (i := 15) manifestChecks_core_t8 #[true, true, true, true, true, true, true, true, true, true, true, true, true, true, true, true, false, false, false, false, false, false, false, false, false, false, false, false, false, false, false, false, false, false, false, false, false, false, false] rfl rfl rfl (by kernel_rfl) (PQ.then PQ.body) rfl (fun w => run_move rfl) ?_
   refine WD.takeOn (i := 16) manifestChecks_core_t8 #[true, true, true, true, true, true, true, true, true, true, true, true, true, true, true, true, true, false, false, false, false, false, false, false, false, false, false, false, false, false, false, false, false, false, false, false, false, false, false] s36 rfl rfl rfl (decide_eq_true rfl) (by kernel_rfl) (PQ.then PQ.body) rfl (fun w hs => run_loadAgg (vs := [Value.int .i64 ((decM s).1.e), Value.int .i64 ((decM s).1.b), Value.int .i64 ((decM s).1.p), Value.int .i64 ((decM s).1.k), Value.int .i64 ((decM s).1.c), Value.slice b2 ((decM s).1.bl.length) c2]) Ty.ag26 Ty.sz26 rfl rfl (cell_all (hs.2.1) 0 rfl)) ?_
   refine WD.takeOn (i := 18) manifestChecks_core_t8 #[true, true, true, true, true, true, true, true, true, true, true, true, true, true, true, true, true, false, true, false, false, false, false, false, false, false, false, false, false, false, false, false, false, false, false, false, false, false, false] s36 rfl rfl rfl (decide_eq_true rfl) (by kernel_rfl) (PQ.then PQ.body) rfl (fun w hs => run_loadAgg (vs := [Value.int .i64 ((decM s).1.e), Value.int .i64 ((decM s).1.b), Value.int .i64 ((decM s).1.p), Value.int .i64 ((decM s).1.k), Value.int .i64 ((decM s).1.c), Value.slice b3 ((decM s).1.bl.length) c3]) Ty.ag24 Ty.sz24 rfl rfl (cell_all (hs.1) 0 rfl)) ?_
   refine WD.one (i := 17) manifestChecks_core_t8 #[true, true, true, true, true, true, true, true, true, true, true, true, true, true, true, true, true, true, true, false, false, false, false, false, false, false, false, false, false, false, false, false, false, false, false, false, false, false, false] rfl (by kernel_rfl) ?_
   refine WO.on rfl rfl (decide_eq_true rfl) ?_
   refine WO.call rfl rfl Ty.hd18 rfl (from_spec (m := (decM s).1) hS34) (fun v38 w37 pv38 => ?_)
   obtain ⟨rfl, hS37⟩ := pv38
   clear hS34
   refine WO.nil ?_
   have s39 : (∀ j, World.cell? w37 ⟨g25, j, none⟩ = [Value.int .i64 ((decM s).1.e), Value.int .i64 ((decM s).1.b), Value.int .i64 ((decM s).1.p), Value.int .i64 ((decM s).1.k), Value.int .i64 ((decM s).1.c), Value.slice b3 ((decM s).1.bl.length) c3][j]?) ∧ (∀ j, World.cell? w37 ⟨g20, j, none⟩ = [Value.int .i64 ((decM s).1.e), Value.int .i64 ((decM s).1.b), Value.int .i64 ((decM s).1.p), Value.int .i64 ((decM s).1.k), Value.int .i64 ((decM s).1.c), Value.slice b2 ((decM s).1.bl.length) c2][j]?) ∧ (∀ j, World.cell? w37 ⟨g9, j, none⟩ = [Value.int .i64 m.e, Value.int .i64 m.b, Value.int .i64 m.p, Value.int .i64 m.k, Value.int .i64 m.c, Value.slice b1 m.bl.length c1][j]?) ∧ (∀ j, World.cell? w37 ⟨g2, j, none⟩ = [Value.int .i64 m.e, Value.int .i64 m.b, Value.int .i64 m.p, Value.int .i64 m.k, Value.int .i64 m.c, Value.slice a m.bl.length cap][j]?) := ⟨hS37.cel_at 2 rfl, hS37.cel_at 4 rfl, hS37.cel_at 6 rfl, hS37.cel_at 7 rfl⟩
   refine NX.held s39 ?_
   refine WD.one (i := 19) manifestChecks_core_t8 #[true, true, true, true, true, true, true, true, true, true, true, true, true, true, true, true, true, true, true, true, false, false, false, false, false, false, false, false, false, false, false, false, false, false, false, false, false, false, false] rfl (by kernel_rfl) ?_
   refine WO.on rfl rfl (decide_eq_true rfl) ?_
   have hS40 := hS37.permT [5, 3, 0, 0, 0, 0, 0, 0] (L' := own b2 ((decM s).1.bl.length) c2 9 1 ((decM s).1.bl.map str) :: own b3 ((decM s).1.bl.length) c3 9 1 ((decM s).1.bl.map str) :: (.pure True) :: own b1 m.bl.length c1 9 1 (m.bl.map str) :: cel g25 [Value.int .i64 ((decM s).1.e), Value.int .i64 ((decM s).1.b), Value.int .i64 ((decM s).1.p), Value.int .i64 ((decM s).1.k), Value.int .i64 ((decM s).1.c), Value.slice b3 ((decM s).1.bl.length) c3] 24 :: cel g20 [Value.int .i64 ((decM s).1.e), Value.int .i64 ((decM s).1.b), Value.int .i64 ((decM s).1.p), Value.int .i64 ((decM s).1.k), Value.int .i64 ((decM s).1.c), Value.slice b2 ((decM s).1.bl.length) c2] 26 :: cel g9 [Value.int .i64 m.e, Value.int .i64 m.b, Value.int .i64 m.p, Value.int .i64 m.k, Value.int .i64 m.c, Value.slice b1 m.bl.length c1] 26 :: cel g2 [Value.int .i64 m.e, Value.int .i64 m.b, Value.int .i64 m.p, Value.int .i64 m.k, Value.int .i64 m.c, Value.slice a m.bl.length cap] 24 :: L) rfl
   clear hS37
   refine WO.call rfl rfl Ty.hd17 rfl (rsame_spec (m := (decM s).1) (n := (decM s).1) (fun h => h.own_rd.1) (fun h => h.own_rd.1) hrd hrd hS40) (fun v42 w41 pv42 => ?_)
   obtain ⟨rfl, hS41⟩ := pv42
   clear hS40
   refine WO.nil ?_
   have s43 : (∀ j, World.cell? w41 ⟨g25, j, none⟩ = [Value.int .i64 ((decM s).1.e), Value.int .i64 ((decM s).1.b), Value.int .i64 ((decM s).1.p), Value.int .i64 ((decM s).1.k), Value.int .i64 ((decM s).1.c), Value.slice b3 ((decM s).1.bl.length) c3][j]?) ∧ (∀ j, World.cell? w41 ⟨g20, j, none⟩ = [Value.int .i64 ((decM s).1.e), Value.int .i64 ((decM s).1.b), Value.int .i64 ((decM s).1.p), Value.int .i64 ((decM s).1.k), Value.int .i64 ((decM s).1.c), Value.slice b2 ((decM s).1.bl.length) c2][j]?) ∧ (∀ j, World.cell? w41 ⟨g9, j, none⟩ = [Value.int .i64 m.e, Value.int .i64 m.b, Value.int .i64 m.p, Value.int .i64 m.k, Value.int .i64 m.c, Value.slice b1 m.bl.length c1][j]?) ∧ (∀ j, World.cell? w41 ⟨g2, j, none⟩ = [Value.int .i64 m.e, Value.int .i64 m.b, Value.int .i64 m.p, Value.int .i64 m.k, Value.int .i64 m.c, Value.slice a m.bl.length cap][j]?) := ⟨hS41.cel_at 4 rfl, hS41.cel_at 5 rfl, hS41.cel_at 6 rfl, hS41.cel_at 7 rfl⟩
   refine NX.held s43 ?_
   refine WD.pure (i := 20) manifestChecks_core_t8 #[true, true, true, true, true, true, true, true, true, true, true, true, true, true, true, true, true, true, true, true, true, false, false, false, false, false, false, false, false, false, false, false, false, false, false, false, false, false, false] rfl rfl rfl (by kernel_rfl) (PQ.then PQ.body) rfl (fun w => run_pickT rfl (decide_eq_true rfl) rfl) ?_
   refine WD.pure (i := 21) manifestChecks_core_t8 #[true, true, true, true, true, true, true, true, true, true, true, true, true, true, true, true, true, true, true, true, true, true, false, false, false, false, false, false, false, false, false, false, false, false, false, false, false, false, false] rfl rfl rfl (by kernel_rfl) (PQ.then PQ.body) rfl (fun w => run_move rfl) ?_
   refine WD.pureOn (i := 22) manifestChecks_core_t8 #[true, true, true, true, true, true, true, true, true, true, true, true, true, true, true, true, true, true, true, true, true, true, true, false, false, false, false, false, false, false, false, false, false, false, false, false, false, false, false] rfl rfl rfl (decide_eq_true rfl) (by kernel_rfl) (PQ.then PQ.body) rfl (fun w => run_move rfl) ?_
   refine WD.pureOn (i := 23) manifestChecks_core_t8 #[true, true, true, true, true, true, true, true, true, true, true, true, true, true, true, true, true, true, true, true, true, true, true, true, false, false, false, false, false, false, false, false, false, false, false, false, false, false, false] rfl rfl rfl (decide_eq_true rfl) (by kernel_rfl) (PQ.then PQ.body) rfl (fun w => run_move rfl) ?_
   refine WD.pureOn (i := 24) manifestChecks_core_t8 #[true, true, true, true, true, true, true, true, true, true, true, true, true, true, true, true, true, true, true, true, true, true, true, true, true, false, false, false, false, false, false, false, false, false, false, false, false, false, false] rfl rfl rfl (decide_eq_true rfl) (by kernel_rfl) (PQ.then PQ.body) rfl (fun w => run_eql rfl rfl) ?_
   refine WD.pure (i := 25) manifestChecks_core_t8 #[true, true, true, true, true, true, true, true, true, true, true, true, true, true, true, true, true, true, true, true, true, true, true, true, true, true, false, false, false, false, false, false, false, false, false, false, false, false, false] rfl rfl rfl (by kernel_rfl) (PQ.then PQ.body) rfl (fun w => run_pickT rfl (decide_eq_true rfl) rfl) ?_
   refine WD.pure (i := 26) manifestChecks_core_t8 #[true, true, true, true, true, true, true, true, true, true, true, true, true, true, true, true, true, true, true, true, true, true, true, true, true, true, true, false, false, false, false, false, false, false, false, false, false, false, false] rfl rfl rfl (by kernel_rfl) (PQ.then PQ.body) rfl (fun w => run_move rfl) ?_
   refine WD.takeOn (i := 27) manifestChecks_core_t8 #[true, true, true, true, true, true, true, true, true, true, true, true, true, true, true, true, true, true, true, true, true, true, true, true, true, true, true, true, false, false, false, false, false, false, false, false, false, false, false] s43 rfl rfl rfl (decide_eq_true rfl) (by kernel_rfl) (PQ.then PQ.body) rfl (fun w hs => run_loadAgg (vs := [Value.int .i64 m.e, Value.int .i64 m.b, Value.int .i64 m.p, Value.int .i64 m.k, Value.int .i64 m.c, Value.slice b1 m.bl.length c1]) Ty.ag26 Ty.sz26 rfl rfl (cell_all (hs.2.2.1) 0 rfl)) ?_
   refine WD.takeOn (i := 29) manifestChecks_core_t8 #[true, true, true, true, true, true, true, true, true, true, true, true, true, true, true, true, true, true, true, true, true, true, true, true, true, true, true, true, false, true, false, false, false, false, false, false, false, false, false] s43 rfl rfl rfl (decide_eq_true rfl) (by kernel_rfl) (PQ.then PQ.body) rfl (fun w hs => run_loadAgg (vs := [Value.int .i64 m.e, Value.int .i64 m.b, Value.int .i64 m.p, Value.int .i64 m.k, Value.int .i64 m.c, Value.slice a m.bl.length cap]) Ty.ag24 Ty.sz24 rfl rfl (cell_all (hs.2.2.2) 0 rfl)) ?_
   refine WD.one (i := 28) manifestChecks_core_t8 #[true, true, true, true, true, true, true, true, true, true, true, true, true, true, true, true, true, true, true, true, true, true, true, true, true, true, true, true, true, true, false, false, false, false, false, false, false, false, false] rfl (by kernel_rfl) ?_
   refine WO.on rfl rfl (decide_eq_true rfl) ?_
   refine WO.call rfl rfl Ty.hd18 rfl (from_spec (m := m) hS41) (fun v45 w44 pv45 => ?_)
   obtain ⟨rfl, hS44⟩ := pv45
   clear hS41
   refine WO.nil ?_
   have s46 : (∀ j, World.cell? w44 ⟨g25, j, none⟩ = [Value.int .i64 ((decM s).1.e), Value.int .i64 ((decM s).1.b), Value.int .i64 ((decM s).1.p), Value.int .i64 ((decM s).1.k), Value.int .i64 ((decM s).1.c), Value.slice b3 ((decM s).1.bl.length) c3][j]?) ∧ (∀ j, World.cell? w44 ⟨g20, j, none⟩ = [Value.int .i64 ((decM s).1.e), Value.int .i64 ((decM s).1.b), Value.int .i64 ((decM s).1.p), Value.int .i64 ((decM s).1.k), Value.int .i64 ((decM s).1.c), Value.slice b2 ((decM s).1.bl.length) c2][j]?) ∧ (∀ j, World.cell? w44 ⟨g9, j, none⟩ = [Value.int .i64 m.e, Value.int .i64 m.b, Value.int .i64 m.p, Value.int .i64 m.k, Value.int .i64 m.c, Value.slice b1 m.bl.length c1][j]?) ∧ (∀ j, World.cell? w44 ⟨g2, j, none⟩ = [Value.int .i64 m.e, Value.int .i64 m.b, Value.int .i64 m.p, Value.int .i64 m.k, Value.int .i64 m.c, Value.slice a m.bl.length cap][j]?) := ⟨hS44.cel_at 4 rfl, hS44.cel_at 5 rfl, hS44.cel_at 6 rfl, hS44.cel_at 7 rfl⟩
   refine NX.held s46 ?_
   refine WD.one (i := 30) manifestChecks_core_t8 #[true, true, true, true, true, true, true, true, true, true, true, true, true, true, true, true, true, true, true, true, true, true, true, true, true, true, true, true, true, true, true, false, false, false, false, false, false, false, false] rfl (by kernel_rfl) ?_
   refine WO.on rfl rfl (decide_eq_true rfl) ?_
   have hS47 := hS44.permT [3, 2, 0, 0, 0, 0, 0, 0] (L' := own b1 m.bl.length c1 9 1 (m.bl.map str) :: (.pure True) :: own b2 ((decM s).1.bl.length) c2 9 1 ((decM s).1.bl.map str) :: own b3 ((decM s).1.bl.length) c3 9 1 ((decM s).1.bl.map str) :: cel g25 [Value.int .i64 ((decM s).1.e), Value.int .i64 ((decM s).1.b), Value.int .i64 ((decM s).1.p), Value.int .i64 ((decM s).1.k), Value.int .i64 ((decM s).1.c), Value.slice b3 ((decM s).1.bl.length) c3] 24 :: cel g20 [Value.int .i64 ((decM s).1.e), Value.int .i64 ((decM s).1.b), Value.int .i64 ((decM s).1.p), Value.int .i64 ((decM s).1.k), Value.int .i64 ((decM s).1.c), Value.slice b2 ((decM s).1.bl.length) c2] 26 :: cel g9 [Value.int .i64 m.e, Value.int .i64 m.b, Value.int .i64 m.p, Value.int .i64 m.k, Value.int .i64 m.c, Value.slice b1 m.bl.length c1] 26 :: cel g2 [Value.int .i64 m.e, Value.int .i64 m.b, Value.int .i64 m.p, Value.int .i64 m.k, Value.int .i64 m.c, Value.slice a m.bl.length cap] 24 :: L) rfl
   clear hS44
   refine WO.call rfl rfl Ty.hd17 rfl (rsame_spec (m := m) (n := m) (fun h => h.own_rd.1) (fun h => St.rdB h hA) hr hr hS47) (fun v49 w48 pv49 => ?_)
   obtain ⟨rfl, hS48⟩ := pv49
   clear hS47
   refine WO.nil ?_
   have s50 : (∀ j, World.cell? w48 ⟨g25, j, none⟩ = [Value.int .i64 ((decM s).1.e), Value.int .i64 ((decM s).1.b), Value.int .i64 ((decM s).1.p), Value.int .i64 ((decM s).1.k), Value.int .i64 ((decM s).1.c), Value.slice b3 ((decM s).1.bl.length) c3][j]?) ∧ (∀ j, World.cell? w48 ⟨g20, j, none⟩ = [Value.int .i64 ((decM s).1.e), Value.int .i64 ((decM s).1.b), Value.int .i64 ((decM s).1.p), Value.int .i64 ((decM s).1.k), Value.int .i64 ((decM s).1.c), Value.slice b2 ((decM s).1.bl.length) c2][j]?) ∧ (∀ j, World.cell? w48 ⟨g9, j, none⟩ = [Value.int .i64 m.e, Value.int .i64 m.b, Value.int .i64 m.p, Value.int .i64 m.k, Value.int .i64 m.c, Value.slice b1 m.bl.length c1][j]?) ∧ (∀ j, World.cell? w48 ⟨g2, j, none⟩ = [Value.int .i64 m.e, Value.int .i64 m.b, Value.int .i64 m.p, Value.int .i64 m.k, Value.int .i64 m.c, Value.slice a m.bl.length cap][j]?) := ⟨hS48.cel_at 4 rfl, hS48.cel_at 5 rfl, hS48.cel_at 6 rfl, hS48.cel_at 7 rfl⟩
   refine NX.held s50 ?_
   refine WD.pure (i := 31) manifestChecks_core_t8 #[true, true, true, true, true, true, true, true, true, true, true, true, true, true, true, true, true, true, true, true, true, true, true, true, true, true, true, true, true, true, true, true, false, false, false, false, false, false, false] rfl rfl rfl (by kernel_rfl) (PQ.then PQ.body) rfl (fun w => run_pickT rfl (decide_eq_true rfl) rfl) ?_
   refine WD.pure (i := 32) manifestChecks_core_t8 #[true, true, true, true, true, true, true, true, true, true, true, true, true, true, true, true, true, true, true, true, true, true, true, true, true, true, true, true, true, true, true, true, true, false, false, false, false, false, false] rfl rfl rfl (by kernel_rfl) (PQ.then PQ.body) rfl (fun w => run_move rfl) ?_
   refine WD.one (i := 33) manifestChecks_core_t8 #[true, true, true, true, true, true, true, true, true, true, true, true, true, true, true, true, true, true, true, true, true, true, true, true, true, true, true, true, true, true, true, true, true, true, false, false, false, false, false] rfl (by kernel_rfl) ?_
   refine WO.on rfl rfl (decide_eq_true rfl) ?_
   refine WO.call rfl rfl Ty.hd19 rfl (none_spec hS48) (fun v52 w51 pv52 => ?_)
   obtain ⟨rfl, hS51⟩ := pv52
   clear hS48
   refine WO.nil ?_
   have s53 : (∀ j, World.cell? w51 ⟨g25, j, none⟩ = [Value.int .i64 ((decM s).1.e), Value.int .i64 ((decM s).1.b), Value.int .i64 ((decM s).1.p), Value.int .i64 ((decM s).1.k), Value.int .i64 ((decM s).1.c), Value.slice b3 ((decM s).1.bl.length) c3][j]?) ∧ (∀ j, World.cell? w51 ⟨g20, j, none⟩ = [Value.int .i64 ((decM s).1.e), Value.int .i64 ((decM s).1.b), Value.int .i64 ((decM s).1.p), Value.int .i64 ((decM s).1.k), Value.int .i64 ((decM s).1.c), Value.slice b2 ((decM s).1.bl.length) c2][j]?) ∧ (∀ j, World.cell? w51 ⟨g9, j, none⟩ = [Value.int .i64 m.e, Value.int .i64 m.b, Value.int .i64 m.p, Value.int .i64 m.k, Value.int .i64 m.c, Value.slice b1 m.bl.length c1][j]?) ∧ (∀ j, World.cell? w51 ⟨g2, j, none⟩ = [Value.int .i64 m.e, Value.int .i64 m.b, Value.int .i64 m.p, Value.int .i64 m.k, Value.int .i64 m.c, Value.slice a m.bl.length cap][j]?) := ⟨hS51.cel_at 4 rfl, hS51.cel_at 5 rfl, hS51.cel_at 6 rfl, hS51.cel_at 7 rfl⟩
   refine NX.held s53 ?_
   refine WD.one (i := 34) manifestChecks_core_t8 #[true, true, true, true, true, true, true, true, true, true, true, true, true, true, true, true, true, true, true, true, true, true, true, true, true, true, true, true, true, true, true, true, true, true, true, false, false, false, false] rfl (by kernel_rfl) ?_
   refine WO.on rfl rfl (decide_eq_true rfl) ?_
   refine WO.call rfl rfl Ty.hd18 rfl (from_spec (m := noneM) hS51) (fun v55 w54 pv55 => ?_)
   obtain ⟨rfl, hS54⟩ := pv55
   clear hS51
   refine WO.nil ?_
   have s56 : (∀ j, World.cell? w54 ⟨g25, j, none⟩ = [Value.int .i64 ((decM s).1.e), Value.int .i64 ((decM s).1.b), Value.int .i64 ((decM s).1.p), Value.int .i64 ((decM s).1.k), Value.int .i64 ((decM s).1.c), Value.slice b3 ((decM s).1.bl.length) c3][j]?) ∧ (∀ j, World.cell? w54 ⟨g20, j, none⟩ = [Value.int .i64 ((decM s).1.e), Value.int .i64 ((decM s).1.b), Value.int .i64 ((decM s).1.p), Value.int .i64 ((decM s).1.k), Value.int .i64 ((decM s).1.c), Value.slice b2 ((decM s).1.bl.length) c2][j]?) ∧ (∀ j, World.cell? w54 ⟨g9, j, none⟩ = [Value.int .i64 m.e, Value.int .i64 m.b, Value.int .i64 m.p, Value.int .i64 m.k, Value.int .i64 m.c, Value.slice b1 m.bl.length c1][j]?) ∧ (∀ j, World.cell? w54 ⟨g2, j, none⟩ = [Value.int .i64 m.e, Value.int .i64 m.b, Value.int .i64 m.p, Value.int .i64 m.k, Value.int .i64 m.c, Value.slice a m.bl.length cap][j]?) := ⟨hS54.cel_at 4 rfl, hS54.cel_at 5 rfl, hS54.cel_at 6 rfl, hS54.cel_at 7 rfl⟩
   refine NX.held s56 ?_
   refine WD.one (i := 35) manifestChecks_core_t8 #[true, true, true, true, true, true, true, true, true, true, true, true, true, true, true, true, true, true, true, true, true, true, true, true, true, true, true, true, true, true, true, true, true, true, true, true, false, false, false] rfl (by kernel_rfl) ?_
   refine WO.on rfl rfl (decide_eq_true rfl) ?_
   refine WO.call rfl rfl Ty.hd20 rfl (rnone_spec hS54) (fun v58 w57 pv58 => ?_)
   obtain ⟨rfl, hS57⟩ := pv58
   clear hS54
   refine WO.nil ?_
   have s59 : (∀ j, World.cell? w57 ⟨g25, j, none⟩ = [Value.int .i64 ((decM s).1.e), Value.int .i64 ((decM s).1.b), Value.int .i64 ((decM s).1.p), Value.int .i64 ((decM s).1.k), Value.int .i64 ((decM s).1.c), Value.slice b3 ((decM s).1.bl.length) c3][j]?) ∧ (∀ j, World.cell? w57 ⟨g20, j, none⟩ = [Value.int .i64 ((decM s).1.e), Value.int .i64 ((decM s).1.b), Value.int .i64 ((decM s).1.p), Value.int .i64 ((decM s).1.k), Value.int .i64 ((decM s).1.c), Value.slice b2 ((decM s).1.bl.length) c2][j]?) ∧ (∀ j, World.cell? w57 ⟨g9, j, none⟩ = [Value.int .i64 m.e, Value.int .i64 m.b, Value.int .i64 m.p, Value.int .i64 m.k, Value.int .i64 m.c, Value.slice b1 m.bl.length c1][j]?) ∧ (∀ j, World.cell? w57 ⟨g2, j, none⟩ = [Value.int .i64 m.e, Value.int .i64 m.b, Value.int .i64 m.p, Value.int .i64 m.k, Value.int .i64 m.c, Value.slice a m.bl.length cap][j]?) := ⟨hS57.cel_at 4 rfl, hS57.cel_at 5 rfl, hS57.cel_at 6 rfl, hS57.cel_at 7 rfl⟩
   refine NX.held s59 ?_
   refine WD.one (i := 36) manifestChecks_core_t8 #[true, true, true, true, true, true, true, true, true, true, true, true, true, true, true, true, true, true, true, true, true, true, true, true, true, true, true, true, true, true, true, true, true, true, true, true, true, false, false] rfl (by kernel_rfl) ?_
   refine WO.on rfl rfl (decide_eq_true rfl) ?_
   have hS60 := (hS57.own_nil 9 1).own_nil 9 1
   clear hS57
   refine WO.call rfl rfl Ty.hd17 rfl (rsame_spec (m := noneM) (n := noneM) (fun h => h.own_rd.1) (fun h => h.own_rd.1) noneM_rng noneM_rng hS60) (fun v62 w61 pv62 => ?_)
   obtain ⟨rfl, hS61⟩ := pv62
   clear hS60
   refine WO.nil ?_
   have s63 : (∀ j, World.cell? w61 ⟨g25, j, none⟩ = [Value.int .i64 ((decM s).1.e), Value.int .i64 ((decM s).1.b), Value.int .i64 ((decM s).1.p), Value.int .i64 ((decM s).1.k), Value.int .i64 ((decM s).1.c), Value.slice b3 ((decM s).1.bl.length) c3][j]?) ∧ (∀ j, World.cell? w61 ⟨g20, j, none⟩ = [Value.int .i64 ((decM s).1.e), Value.int .i64 ((decM s).1.b), Value.int .i64 ((decM s).1.p), Value.int .i64 ((decM s).1.k), Value.int .i64 ((decM s).1.c), Value.slice b2 ((decM s).1.bl.length) c2][j]?) ∧ (∀ j, World.cell? w61 ⟨g9, j, none⟩ = [Value.int .i64 m.e, Value.int .i64 m.b, Value.int .i64 m.p, Value.int .i64 m.k, Value.int .i64 m.c, Value.slice b1 m.bl.length c1][j]?) ∧ (∀ j, World.cell? w61 ⟨g2, j, none⟩ = [Value.int .i64 m.e, Value.int .i64 m.b, Value.int .i64 m.p, Value.int .i64 m.k, Value.int .i64 m.c, Value.slice a m.bl.length cap][j]?) := ⟨hS61.cel_at 6 rfl, hS61.cel_at 7 rfl, hS61.cel_at 8 rfl, hS61.cel_at 9 rfl⟩
   refine NX.held s63 ?_
   refine WD.pure (i := 37) manifestChecks_core_t8 #[true, true, true, true, true, true, true, true, true, true, true, true, true, true, true, true, true, true, true, true, true, true, true, true, true, true, true, true, true, true, true, true, true, true, true, true, true, true, false] rfl rfl rfl (by kernel_rfl) (PQ.then PQ.body) rfl (fun w => run_pickT rfl (decide_eq_true rfl) rfl) ?_
   refine WD.pure (i := 38) manifestChecks_core_t8 #[true, true, true, true, true, true, true, true, true, true, true, true, true, true, true, true, true, true, true, true, true, true, true, true, true, true, true, true, true, true, true, true, true, true, true, true, true, true, true] rfl rfl rfl (by kernel_rfl) (PQ.then PQ.body) rfl (fun w => run_assign rfl) ?_
   refine WD.done manifestChecks_core_t8 (by kernel_rfl) ?_
   refine NX.go ?_
   refine WP.ret ?_
   refine NX.done (l := [.tmp 4]) rfl rfl ?_
   exact ⟨rfl, hS61.drop.drop.drop.drop.drop.drop.drop.drop.drop.drop⟩
end Go.Proofs.YtcehlnpbdffdhaaDoor.SL
