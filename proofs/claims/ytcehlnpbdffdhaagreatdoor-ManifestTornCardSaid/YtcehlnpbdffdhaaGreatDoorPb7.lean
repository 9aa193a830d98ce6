/- A torn file beside it does not matter. -/
import Derived.Test.YtcehlnpbdffdhaaGreatDoorMan5
import Derived.Test.YtcehlnpbdffdhaaGreatDoorKv
namespace Go.Proofs.YtcehlnpbdffdhaaGreatDoor.SL
open Go.RowKit Go.Proofs.YtcehlnpbdffdhaaGreatDoor
open Go.Proofs.YtcehlnpbdffdhaaGreatDoorW.PrintLast (rtab opsOf)
set_option linter.unusedVariables false
set_option linter.unusedSimpArgs false
theorem manifestTorn_core_t10 : rtab .any (opsOf Tryz.f6 10) = (true, [([], []), ([0], [0]), ([1], [1]), ([2], [2]), ([3, 2, 2], [2, 3]), ([2], [2]), ([4, 5, 4, 2], [2, 4, 5]), ([6, 2], [2, 6]), ([2, 7], [2, 7]), ([8, 6], [8]), ([9], [9]), ([9], [9]), ([11, 9, 9], [9, 11]), ([10, 12, 12, 9], [9, 10, 12]), ([13, 9], [9, 13]), ([9, 14], [9, 14])]) := by kernel_rfl
theorem manifestTorn_core_t13 : rtab .any (opsOf Tryz.f6 13) = (true, [([], []), ([0], [0]), ([1], [1]), ([2], [2]), ([3, 2, 2], [2, 3]), ([2], [2]), ([4, 5, 4, 2], [2, 4, 5]), ([2, 6], [2, 6]), ([7, 6], [7]), ([8], [8]), ([9, 8, 8], [8, 9]), ([10, 8], [8, 10]), ([11, 8], [8, 11]), ([8, 12], [8, 12]), ([13, 10, 0, 1, 2, 3, 4, 5, 6, 7, 8, 9, 10, 11, 12, 13], [13])]) := by kernel_rfl
theorem manifestTorn_core {B w : World} {L : List HP} {xa ya ka : Option Addr} {xc yc kc : Nat} {mx my : Man} {zs : List Int} (tt : List UInt8) (hA : Rd B xa mx.bl.length 1 (mx.bl.map str)) (hra : RngM mx) (hB : Rd B ya my.bl.length 1 (my.bl.map str)) (hrb : RngM my) (hK : Rd B ka zs.length 1 (ri zs)) (hS : St B L w) : Does Tryz.prog 6 [Value.agg #[Value.int .i64 mx.e, Value.int .i64 mx.b, Value.int .i64 mx.p, Value.int .i64 mx.k, Value.int .i64 mx.c, Value.slice xa mx.bl.length xc], Value.agg #[Value.int .i64 my.e, Value.int .i64 my.b, Value.int .i64 my.p, Value.int .i64 my.k, Value.int .i64 my.c, Value.slice ya my.bl.length yc], str tt, Value.slice ka zs.length kc] w (fun v w1 => v = .bool true ∧ St B L w1) := by
 replace hS := ((hS.addPure (p := True) trivial).addPure (p := True) trivial).addPure (p := True) trivial
 refine enter (n := 99) Tryz.func6 rfl rfl [Value.agg #[Value.int .i64 mx.e, Value.int .i64 mx.b, Value.int .i64 mx.p, Value.int .i64 mx.k, Value.int .i64 mx.c, Value.slice xa mx.bl.length xc], Value.agg #[Value.int .i64 my.e, Value.int .i64 my.b, Value.int .i64 my.p, Value.int .i64 my.k, Value.int .i64 my.c, Value.slice ya my.bl.length yc], str tt, Value.slice ka zs.length kc] rfl ?_
 refine WP.seq ?_
 refine WP.region rfl ?_
 refine WO.box (l := [Value.int .i64 mx.e, Value.int .i64 mx.b, Value.int .i64 mx.p, Value.int .i64 mx.k, Value.int .i64 mx.c, Value.slice xa mx.bl.length xc]) hS rfl rfl rfl (fun g2 w1 lg2 hS1 => ?_)
 clear hS
 refine WO.box (l := [Value.int .i64 my.e, Value.int .i64 my.b, Value.int .i64 my.p, Value.int .i64 my.k, Value.int .i64 my.c, Value.slice ya my.bl.length yc]) hS1 rfl rfl rfl (fun g4 w3 lg4 hS3 => ?_)
 clear hS1
 refine WO.val (run_assign rfl) rfl rfl rfl ?_
 refine WO.nil ?_
 refine NX.go ?_
 refine WP.seq ?_
 refine WP.seq ?_
 refine WP.region rfl ?_
 refine WO.call rfl rfl Ty.hd8 rfl (works17_spec hS3) (fun v6 w5 pv6 => ?_)
 obtain ⟨rfl, hS5⟩ := pv6
 clear hS3
 refine WO.val (run_not rfl rfl) rfl rfl rfl ?_
 refine WO.nil ?_
 refine NX.go ?_
 refine WP.condF rfl (notB_t rfl) ?_
 refine WP.skip ?_
 refine NX.go ?_
 refine WP.seq ?_
 refine WP.seq ?_
 refine WP.region rfl ?_
 refine WO.val (run_loadAgg (vs := [Value.int .i64 mx.e, Value.int .i64 mx.b, Value.int .i64 mx.p, Value.int .i64 mx.k, Value.int .i64 mx.c, Value.slice xa mx.bl.length xc]) Ty.ag24 Ty.sz24 rfl rfl (cell_all (hS5.cel_at 1 rfl) 0 rfl)) rfl rfl rfl ?_
 have hS8 := hS5.permT [2, 0, 0, 0, 0] (L' := (.pure True) :: cel g4 [Value.int .i64 my.e, Value.int .i64 my.b, Value.int .i64 my.p, Value.int .i64 my.k, Value.int .i64 my.c, Value.slice ya my.bl.length yc] 24 :: cel g2 [Value.int .i64 mx.e, Value.int .i64 mx.b, Value.int .i64 mx.p, Value.int .i64 mx.k, Value.int .i64 mx.c, Value.slice xa mx.bl.length xc] 24 :: (.pure True) :: (.pure True) :: L) rfl
 clear hS5
 refine WO.call rfl rfl Ty.hd9 rfl (great_spec (m := mx) (fun h => St.rdB h hA) hra hS8) (fun v10 w9 pv10 => ?_)
 obtain ⟨gb7, rfl, _, hS9⟩ := pv10
 clear hS8
 refine WO.val (run_move rfl) rfl rfl rfl ?_
 rcases Bool.eq_false_or_eq_true gb7 with g18 | g18
 ·
  refine WO.off rfl rfl g18 rfl ?_
  refine WO.off rfl rfl g18 rfl ?_
  refine WO.val (run_pickT rfl g18 rfl) rfl rfl rfl ?_
  refine WO.val (run_move rfl) rfl rfl rfl ?_
  refine WO.off rfl rfl rfl rfl ?_
  refine WO.off rfl rfl rfl rfl ?_
  refine WO.off rfl rfl rfl rfl ?_
  refine WO.val (run_pickT rfl rfl rfl) rfl rfl rfl ?_
  refine WO.val (run_move rfl) rfl rfl rfl ?_
  refine WO.off rfl rfl rfl rfl ?_
  refine WO.off rfl rfl rfl rfl ?_
  refine WO.off rfl rfl rfl rfl ?_
  refine WO.val (run_pickT rfl rfl rfl) rfl rfl rfl ?_
  refine WO.val (run_move rfl) rfl rfl rfl ?_
  refine WO.off rfl rfl rfl rfl ?_
  refine WO.off rfl rfl rfl rfl ?_
  refine WO.off rfl rfl rfl rfl ?_
  refine WO.val (run_pickT rfl rfl rfl) rfl rfl rfl ?_
  refine WO.val (run_move rfl) rfl rfl rfl ?_
  refine WO.off rfl rfl rfl rfl ?_
  refine WO.off rfl rfl rfl rfl ?_
  refine WO.off rfl rfl rfl rfl ?_
  refine WO.val (run_pickT rfl rfl rfl) rfl rfl rfl ?_
  refine WO.nil ?_
  refine NX.go ?_
  refine WP.condT rfl rfl ?_
  refine WP.seq ?_
  refine WP.region rfl ?_
  refine WO.val (run_assign rfl) rfl rfl rfl ?_
  refine WO.nil ?_
  refine NX.go ?_
  refine WP.ret ?_
  refine NX.thenRet ?_
  refine NX.done (l := [.tmp 8]) rfl rfl ?_
  exact ⟨rfl, hS9.drop.drop.drop.drop.drop⟩
 ·
  refine WO.on rfl rfl g18 ?_
  refine WO.val (run_loadAgg (vs := [Value.int .i64 my.e, Value.int .i64 my.b, Value.int .i64 my.p, Value.int .i64 my.k, Value.int .i64 my.c, Value.slice ya my.bl.length yc]) Ty.ag24 Ty.sz24 rfl rfl (cell_all (hS9.cel_at 1 rfl) 0 rfl)) rfl rfl rfl ?_
  refine WO.on rfl rfl g18 ?_
  have hS12 := hS9.permT [3, 0, 0, 0, 0] (L' := (.pure True) :: (.pure True) :: cel g4 [Value.int .i64 my.e, Value.int .i64 my.b, Value.int .i64 my.p, Value.int .i64 my.k, Value.int .i64 my.c, Value.slice ya my.bl.length yc] 24 :: cel g2 [Value.int .i64 mx.e, Value.int .i64 mx.b, Value.int .i64 mx.p, Value.int .i64 mx.k, Value.int .i64 mx.c, Value.slice xa mx.bl.length xc] 24 :: (.pure True) :: L) rfl
  clear hS9
  refine WO.call rfl rfl Ty.hd9 rfl (great_spec (m := my) (fun h => St.rdB h hB) hrb hS12) (fun v14 w13 pv14 => ?_)
  obtain ⟨gb11, rfl, _, hS13⟩ := pv14
  clear hS12
  refine WO.val (run_pickF rfl g18 rfl) rfl rfl rfl ?_
  refine WO.val (run_move rfl) rfl rfl rfl ?_
  rcases Bool.eq_false_or_eq_true gb11 with g22 | g22
  ·
   refine WO.off rfl rfl g22 rfl ?_
   refine WO.off rfl rfl g22 rfl ?_
   refine WO.off rfl rfl g22 rfl ?_
   refine WO.val (run_pickT rfl g22 rfl) rfl rfl rfl ?_
   refine WO.val (run_move rfl) rfl rfl rfl ?_
   refine WO.off rfl rfl rfl rfl ?_
   refine WO.off rfl rfl rfl rfl ?_
   refine WO.off rfl rfl rfl rfl ?_
   refine WO.val (run_pickT rfl rfl rfl) rfl rfl rfl ?_
   refine WO.val (run_move rfl) rfl rfl rfl ?_
   refine WO.off rfl rfl rfl rfl ?_
   refine WO.off rfl rfl rfl rfl ?_
   refine WO.off rfl rfl rfl rfl ?_
   refine WO.val (run_pickT rfl rfl rfl) rfl rfl rfl ?_
   refine WO.val (run_move rfl) rfl rfl rfl ?_
   refine WO.off rfl rfl rfl rfl ?_
   refine WO.off rfl rfl rfl rfl ?_
   refine WO.off rfl rfl rfl rfl ?_
   refine WO.val (run_pickT rfl rfl rfl) rfl rfl rfl ?_
   refine WO.nil ?_
   refine NX.go ?_
   refine WP.condT rfl rfl ?_
   refine WP.seq ?_
   refine WP.region rfl ?_
   refine WO.val (run_assign rfl) rfl rfl rfl ?_
   refine WO.nil ?_
   refine NX.go ?_
   refine WP.ret ?_
   refine NX.thenRet ?_
   refine NX.done (l := [.tmp 8]) rfl rfl ?_
   exact ⟨rfl, hS13.drop.drop.drop.drop.drop⟩
  ·
   refine WO.on rfl rfl g22 ?_
   refine WO.val (run_loadAgg (vs := [Value.int .i64 mx.e, Value.int .i64 mx.b, Value.int .i64 mx.p, Value.int .i64 mx.k, Value.int .i64 mx.c, Value.slice xa mx.bl.length xc]) Ty.ag24 Ty.sz24 rfl rfl (cell_all (hS13.cel_at 3 rfl) 0 rfl)) rfl rfl rfl ?_
   refine WO.on rfl rfl g22 ?_
   have hS15 := hS13.permT [1, 0, 0, 0, 0] (L' := (.pure True) :: (.pure True) :: cel g4 [Value.int .i64 my.e, Value.int .i64 my.b, Value.int .i64 my.p, Value.int .i64 my.k, Value.int .i64 my.c, Value.slice ya my.bl.length yc] 24 :: cel g2 [Value.int .i64 mx.e, Value.int .i64 mx.b, Value.int .i64 mx.p, Value.int .i64 mx.k, Value.int .i64 mx.c, Value.slice xa mx.bl.length xc] 24 :: (.pure True) :: L) rfl
   clear hS13
   refine WO.call rfl rfl Ty.hd15 rfl (rcheckM_spec (m := mx) (fun h => St.rdB h hA) hra hS15) (fun v17 w16 pv17 => ?_)
   obtain ⟨rfl, hS16⟩ := pv17
   clear hS15
   refine WO.on rfl rfl g22 ?_
   refine WO.val (run_neq rfl rfl) rfl rfl rfl ?_
   refine WO.val (run_pickF rfl g22 rfl) rfl rfl rfl ?_
   refine WO.val (run_move rfl) rfl rfl rfl ?_
   by_cases g27 : ¬ (checkM mx) = 0
   ·
    refine WO.off rfl rfl (decide_eq_true g27) rfl ?_
    refine WO.off rfl rfl (decide_eq_true g27) rfl ?_
    refine WO.off rfl rfl (decide_eq_true g27) rfl ?_
    refine WO.val (run_pickT rfl (decide_eq_true g27) rfl) rfl rfl rfl ?_
    refine WO.val (run_move rfl) rfl rfl rfl ?_
    refine WO.off rfl rfl rfl rfl ?_
    refine WO.off rfl rfl rfl rfl ?_
    refine WO.off rfl rfl rfl rfl ?_
    refine WO.val (run_pickT rfl rfl rfl) rfl rfl rfl ?_
    refine WO.val (run_move rfl) rfl rfl rfl ?_
    refine WO.off rfl rfl rfl rfl ?_
    refine WO.off rfl rfl rfl rfl ?_
    refine WO.off rfl rfl rfl rfl ?_
    refine WO.val (run_pickT rfl rfl rfl) rfl rfl rfl ?_
    refine WO.nil ?_
    refine NX.go ?_
    refine WP.condT rfl rfl ?_
    refine WP.seq ?_
    refine WP.region rfl ?_
    refine WO.val (run_assign rfl) rfl rfl rfl ?_
    refine WO.nil ?_
    refine NX.go ?_
    refine WP.ret ?_
    refine NX.thenRet ?_
    refine NX.done (l := [.tmp 8]) rfl rfl ?_
    exact ⟨rfl, hS16.drop.drop.drop.drop.drop⟩
   ·
    have hca := Decidable.of_not_not g27
    refine WO.on rfl rfl (decide_eq_false g27) ?_
    refine WO.val (run_loadAgg (vs := [Value.int .i64 my.e, Value.int .i64 my.b, Value.int .i64 my.p, Value.int .i64 my.k, Value.int .i64 my.c, Value.slice ya my.bl.length yc]) Ty.ag24 Ty.sz24 rfl rfl (cell_all (hS16.cel_at 2 rfl) 0 rfl)) rfl rfl rfl ?_
    refine WO.on rfl rfl (decide_eq_false g27) ?_
    have hS18 := hS16.permT [1, 0, 0, 0, 0] (L' := (.pure True) :: (.pure True) :: cel g4 [Value.int .i64 my.e, Value.int .i64 my.b, Value.int .i64 my.p, Value.int .i64 my.k, Value.int .i64 my.c, Value.slice ya my.bl.length yc] 24 :: cel g2 [Value.int .i64 mx.e, Value.int .i64 mx.b, Value.int .i64 mx.p, Value.int .i64 mx.k, Value.int .i64 mx.c, Value.slice xa mx.bl.length xc] 24 :: (.pure True) :: L) rfl
    clear hS16
    refine WO.call rfl rfl Ty.hd15 rfl (rcheckM_spec (m := my) (fun h => St.rdB h hB) hrb hS18) (fun v20 w19 pv20 => ?_)
    obtain ⟨rfl, hS19⟩ := pv20
    clear hS18
    refine WO.on rfl rfl (decide_eq_false g27) ?_
    refine WO.val (run_neq rfl rfl) rfl rfl rfl ?_
    refine WO.val (run_pickF rfl (decide_eq_false g27) rfl) rfl rfl rfl ?_
    refine WO.val (run_move rfl) rfl rfl rfl ?_
    by_cases g32 : ¬ (checkM my) = 0
    ·
     refine WO.off rfl rfl (decide_eq_true g32) rfl ?_
     refine WO.off rfl rfl (decide_eq_true g32) rfl ?_
     refine WO.off rfl rfl (decide_eq_true g32) rfl ?_
     refine WO.val (run_pickT rfl (decide_eq_true g32) rfl) rfl rfl rfl ?_
     refine WO.val (run_move rfl) rfl rfl rfl ?_
     refine WO.off rfl rfl rfl rfl ?_
     refine WO.off rfl rfl rfl rfl ?_
     refine WO.off rfl rfl rfl rfl ?_
     refine WO.val (run_pickT rfl rfl rfl) rfl rfl rfl ?_
     refine WO.nil ?_
     refine NX.go ?_
     refine WP.condT rfl rfl ?_
     refine WP.seq ?_
     refine WP.region rfl ?_
     refine WO.val (run_assign rfl) rfl rfl rfl ?_
     refine WO.nil ?_
     refine NX.go ?_
     refine WP.ret ?_
     refine NX.thenRet ?_
     refine NX.done (l := [.tmp 8]) rfl rfl ?_
     exact ⟨rfl, hS19.drop.drop.drop.drop.drop⟩
    ·
     have hcb := Decidable.of_not_not g32
     refine WO.on rfl rfl (decide_eq_false g32) ?_
     refine WO.val (run_move rfl) rfl rfl rfl ?_
     refine WO.on rfl rfl (decide_eq_false g32) ?_
     refine WO.val (run_lenS rfl Tryz.underlying9 rfl) rfl rfl rfl ?_
     refine WO.on rfl rfl (decide_eq_false g32) ?_
     refine WO.val (run_gtr rfl rfl) rfl rfl rfl ?_
     refine WO.val (run_pickF rfl (decide_eq_false g32) rfl) rfl rfl rfl ?_
     refine WO.val (run_move rfl) rfl rfl rfl ?_
     by_cases g37 : 1000 < (tt.length : Int)
     ·
      refine WO.off rfl rfl (decide_eq_true g37) rfl ?_
      refine WO.off rfl rfl (decide_eq_true g37) rfl ?_
      refine WO.off rfl rfl (decide_eq_true g37) rfl ?_
      refine WO.val (run_pickT rfl (decide_eq_true g37) rfl) rfl rfl rfl ?_
      refine WO.nil ?_
      refine NX.go ?_
      refine WP.condT rfl rfl ?_
      refine WP.seq ?_
      refine WP.region rfl ?_
      refine WO.val (run_assign rfl) rfl rfl rfl ?_
      refine WO.nil ?_
      refine NX.go ?_
      refine WP.ret ?_
      refine NX.thenRet ?_
      refine NX.done (l := [.tmp 8]) rfl rfl ?_
      exact ⟨rfl, hS19.drop.drop.drop.drop.drop⟩
     ·
      refine WO.on rfl rfl (decide_eq_false g37) ?_
      refine WO.val (run_move rfl) rfl rfl rfl ?_
      refine WO.on rfl rfl (decide_eq_false g37) ?_
      refine WO.val (run_len rfl Tryz.underlying37 rfl) rfl rfl rfl ?_
      refine WO.on rfl rfl (decide_eq_false g37) ?_
      refine WO.val (run_gtr rfl rfl) rfl rfl rfl ?_
      refine WO.val (run_pickF rfl (decide_eq_false g37) rfl) rfl rfl rfl ?_
      refine WO.nil ?_
      refine NX.go ?_
      refine WP.condP rfl (fun g41 => ?_) (fun g41 => ?_)
      ·
       refine WP.seq ?_
       refine WP.region rfl ?_
       refine WO.val (run_assign rfl) rfl rfl rfl ?_
       refine WO.nil ?_
       refine NX.go ?_
       refine WP.ret ?_
       refine NX.thenRet ?_
       refine NX.done (l := [.tmp 8]) rfl rfl ?_
       exact ⟨rfl, hS19.drop.drop.drop.drop.drop⟩
      ·
       refine WP.skip ?_
       refine NX.go ?_
       refine WP.seq ?_
       refine WP.region rfl ?_
       refine WO.call rfl rfl Ty.hd16 rfl (dnew_spec 1048576 hS19) (fun v22 w21 pv22 => ?_)
       obtain ⟨g, rfl, hS21⟩ := pv22
       clear hS19
       have k0 : OkD (newD 1048576) 0 0 := OkD.new (by omega)
       refine WO.val (run_assign rfl) rfl rfl rfl ?_
       refine WO.nil ?_
       refine NX.go ?_
       refine WP.seq ?_
       refine WP.seq ?_
       refine WP.region rfl ?_
       refine WO.val (run_move rfl) rfl rfl rfl ?_
       refine WO.val (run_loadAgg (vs := [Value.int .i64 mx.e, Value.int .i64 mx.b, Value.int .i64 mx.p, Value.int .i64 mx.k, Value.int .i64 mx.c, Value.slice xa mx.bl.length xc]) Ty.ag24 Ty.sz24 rfl rfl (cell_all (hS21.cel_at 4 rfl) 0 rfl)) rfl rfl rfl ?_
       have hS25 := hS21.permT [2, 0, 0, 0, 0, 0] (L' := (.pure True) :: dkA g (newD 1048576) :: (.pure True) :: cel g4 [Value.int .i64 my.e, Value.int .i64 my.b, Value.int .i64 my.p, Value.int .i64 my.k, Value.int .i64 my.c, Value.slice ya my.bl.length yc] 24 :: cel g2 [Value.int .i64 mx.e, Value.int .i64 mx.b, Value.int .i64 mx.p, Value.int .i64 mx.k, Value.int .i64 mx.c, Value.slice xa mx.bl.length xc] 24 :: (.pure True) :: L) rfl
       clear hS21
       refine WO.call rfl rfl Ty.hd11 rfl (to_spec (m := mx) (fun h => St.rdB h hA) hra hS25) (fun v27 w26 pv27 => ?_)
       obtain ⟨b23, c24, rfl, hS26⟩ := pv27
       clear hS25
       have hS28 := hS26.permT [2, 0, 0, 0, 0, 0, 0] (L' := dkA g (newD 1048576) :: own b23 mx.bl.length c24 9 1 (mx.bl.map str) :: (.pure True) :: (.pure True) :: cel g4 [Value.int .i64 my.e, Value.int .i64 my.b, Value.int .i64 my.p, Value.int .i64 my.k, Value.int .i64 my.c, Value.slice ya my.bl.length yc] 24 :: cel g2 [Value.int .i64 mx.e, Value.int .i64 mx.b, Value.int .i64 mx.p, Value.int .i64 mx.k, Value.int .i64 mx.c, Value.slice xa mx.bl.length xc] 24 :: (.pure True) :: L) rfl
       clear hS26
       refine WO.call rfl rfl Ty.hd17 rfl (publish_spec (m := mx) (fun h => h.own_rd.1) hra k0 (by omega) (by omega) (by have := enc_len hra; omega) hS28) (fun v30 w29 pv30 => ?_)
       obtain ⟨hv, hS29⟩ := pv30
       clear hS28
       obtain ⟨D1, e1, ps1⟩ := PS.new.publish hra hca
       rw [e1] at hv
       rw [e1] at hS29
       change _ = Value.int .i64 0 at hv
       subst hv
       replace hS29 : St B (dkA g D1 :: own b23 mx.bl.length c24 9 1 (mx.bl.map str) :: (.pure True) :: (.pure True) :: cel g4 [Value.int .i64 my.e, Value.int .i64 my.b, Value.int .i64 my.p, Value.int .i64 my.k, Value.int .i64 my.c, Value.slice ya my.bl.length yc] 24 :: cel g2 [Value.int .i64 mx.e, Value.int .i64 mx.b, Value.int .i64 mx.p, Value.int .i64 mx.k, Value.int .i64 mx.c, Value.slice xa mx.bl.length xc] 24 :: (.pure True) :: L) w29 := hS29
       have k1 := (k0).publish (enc_len hra)
       rw [e1] at k1
       refine WO.val (run_neq rfl rfl) rfl rfl rfl ?_
       refine WO.val (run_move rfl) rfl rfl rfl ?_
       refine WO.on rfl rfl (by decide) ?_
       refine WO.val (run_move rfl) rfl rfl rfl ?_
       refine WO.on rfl rfl (by decide) ?_
       refine WO.val (run_move rfl) rfl rfl rfl ?_
       refine WO.on rfl rfl (by decide) ?_
       refine WO.call rfl rfl Ty.hd23 rfl (dappend_spec k1.w k1.b (by omega) (by omega) [110] tt (by decide) (by omega) hS29) (fun v32 w31 pv32 => ?_)
       obtain ⟨hv, hS31⟩ := pv32
       clear hS29
       obtain ⟨D2, e2, hT⟩ := torn_crash (t := tt) ps1 (by omega)
       rw [e2] at hv
       rw [e2] at hS31
       change _ = Value.int .i64 0 at hv
       subst hv
       replace hS31 : St B (dkA g D2 :: own b23 mx.bl.length c24 9 1 (mx.bl.map str) :: (.pure True) :: (.pure True) :: cel g4 [Value.int .i64 my.e, Value.int .i64 my.b, Value.int .i64 my.p, Value.int .i64 my.k, Value.int .i64 my.c, Value.slice ya my.bl.length yc] 24 :: cel g2 [Value.int .i64 mx.e, Value.int .i64 mx.b, Value.int .i64 mx.p, Value.int .i64 mx.k, Value.int .i64 mx.c, Value.slice xa mx.bl.length xc] 24 :: (.pure True) :: L) w31 := hS31
       have k2 := k1.append (k := [110]) (s := tt)
       rw [e2] at k2
       refine WO.on rfl rfl (by decide) ?_
       refine WO.val (run_neq rfl rfl) rfl rfl rfl ?_
       refine WO.val (run_pickF rfl (by decide) rfl) rfl rfl rfl ?_
       refine WO.nil ?_
       refine NX.go ?_
       refine WP.condF rfl (by decide) ?_
       refine WP.skip ?_
       refine NX.go ?_
       refine WP.seq ?_
       refine WP.region rfl ?_
       refine WO.val (run_move rfl) rfl rfl rfl ?_
       refine WO.buildSlice (l := []) hS31 Tryz.underlying37 rfl (fun w => by kernel_rfl) rfl (fun g34 w33 lg34 hS33 => ?_)
       clear hS31
       have hS33 := hS33.own_of_cel (m := 0) (k := 1) rfl
       refine WO.val (run_move rfl) rfl rfl rfl ?_
       refine WO.append (news := (ri zs)) 0 rfl Tryz.underlying37 Tryz.underlying37 (fun _ h => by cases h) Ty.sz3 (by decide) Ty.by3 Ty.zr3 rfl rfl rfl rfl hS33 rfl (((fun h => St.rdB h hK) (hS33.focus 7 rfl)).src) (ri_noAgg _) (by omega) (by omega) (fun a36 c37 w35 hS35 => ?_)
       replace hS35 : St B (own a36 zs.length c37 3 1 (ri zs) :: dkA g D2 :: own b23 mx.bl.length c24 9 1 (mx.bl.map str) :: (.pure True) :: (.pure True) :: cel g4 [Value.int .i64 my.e, Value.int .i64 my.b, Value.int .i64 my.p, Value.int .i64 my.k, Value.int .i64 my.c, Value.slice ya my.bl.length yc] 24 :: cel g2 [Value.int .i64 mx.e, Value.int .i64 mx.b, Value.int .i64 mx.p, Value.int .i64 mx.k, Value.int .i64 mx.c, Value.slice xa mx.bl.length xc] 24 :: (.pure True) :: L) w35 := (by have z := hS35; rw [Nat.zero_add] at z; exact z)
       refine WO.as (d := 57) (v := Value.slice a36 zs.length c37) rfl (by rw [Nat.zero_add]) ?_
       clear hS33
       have hcap := hS35.own_le_i 0 rfl
       have hS38 := hS35.permT [1, 0, 0, 0, 0, 0, 0, 0] (L' := dkA g D2 :: own a36 zs.length c37 3 1 (ri zs) :: own b23 mx.bl.length c24 9 1 (mx.bl.map str) :: (.pure True) :: (.pure True) :: cel g4 [Value.int .i64 my.e, Value.int .i64 my.b, Value.int .i64 my.p, Value.int .i64 my.k, Value.int .i64 my.c, Value.slice ya my.bl.length yc] 24 :: cel g2 [Value.int .i64 mx.e, Value.int .i64 mx.b, Value.int .i64 mx.p, Value.int .i64 mx.k, Value.int .i64 mx.c, Value.slice xa mx.bl.length xc] 24 :: (.pure True) :: L) rfl
       clear hS35
       refine WO.call rfl rfl Ty.hd19 rfl (dcrash_spec (zs := zs) k2.w k2.b (by omega) (by omega) (fun h => h.own_rd.1) (by omega) (by omega) hS38) (fun v40 w39 pv40 => ?_)
       obtain ⟨rfl, hS39⟩ := pv40
       clear hS38
       refine WO.nil ?_
       refine NX.go ?_
       refine WP.seq ?_
       have hS41 : St B (dkA g (crashD D2 zs) :: (.pure True) :: (.pure True) :: cel g4 [Value.int .i64 my.e, Value.int .i64 my.b, Value.int .i64 my.p, Value.int .i64 my.k, Value.int .i64 my.c, Value.slice ya my.bl.length yc] 24 :: cel g2 [Value.int .i64 mx.e, Value.int .i64 mx.b, Value.int .i64 mx.p, Value.int .i64 mx.k, Value.int .i64 mx.c, Value.slice xa mx.bl.length xc] 24 :: L) w39 := (hS39.permT [1, 1, 5, 0, 0, 0, 0, 0] (L' := own a36 zs.length c37 3 1 (ri zs) :: own b23 mx.bl.length c24 9 1 (mx.bl.map str) :: (.pure True) :: dkA g (crashD D2 zs) :: (.pure True) :: (.pure True) :: cel g4 [Value.int .i64 my.e, Value.int .i64 my.b, Value.int .i64 my.p, Value.int .i64 my.k, Value.int .i64 my.c, Value.slice ya my.bl.length yc] 24 :: cel g2 [Value.int .i64 mx.e, Value.int .i64 mx.b, Value.int .i64 mx.p, Value.int .i64 mx.k, Value.int .i64 mx.c, Value.slice xa mx.bl.length xc] 24 :: L) rfl).drop.drop.drop
       clear hS39
       refine WP.region rfl ?_
       refine WO.val (run_move rfl) rfl rfl rfl ?_
       refine WO.call rfl rfl Ty.hd20 rfl (load_spec (k2.crash (zs := zs)) (by omega) hS41) (fun v45 w44 pv45 => ?_)
       obtain ⟨lb42, ld43, hv, _, hS44⟩ := pv45
       clear hS41
       have hl0 : loadD (crashD D2 zs) = (mx, 0) := (hT zs).load
       rw [hl0] at hv
       rw [hl0] at hS44
       change _ = Value.tuple #[Value.agg #[Value.int .i64 mx.e, Value.int .i64 mx.b, Value.int .i64 mx.p, Value.int .i64 mx.k, Value.int .i64 mx.c, Value.slice lb42 mx.bl.length ld43], Value.int .i64 0] at hv
       subst hv
       replace hS44 : St B (own lb42 mx.bl.length ld43 9 1 (mx.bl.map str) :: dkA g (crashD D2 zs) :: (.pure True) :: (.pure True) :: cel g4 [Value.int .i64 my.e, Value.int .i64 my.b, Value.int .i64 my.p, Value.int .i64 my.k, Value.int .i64 my.c, Value.slice ya my.bl.length yc] 24 :: cel g2 [Value.int .i64 mx.e, Value.int .i64 mx.b, Value.int .i64 mx.p, Value.int .i64 mx.k, Value.int .i64 mx.c, Value.slice xa mx.bl.length xc] 24 :: L) w44 := hS44
       refine WO.val (run_move rfl) rfl rfl rfl ?_
       refine WO.val (run_extract rfl rfl) rfl rfl rfl ?_
       refine WO.val (run_extract rfl rfl) rfl rfl rfl ?_
       refine WO.alloc (l := [Value.int .i64 0, Value.int .i64 0, Value.int .i64 0, Value.int .i64 0, Value.int .i64 0, Value.slice none 0 0]) hS44 Ty.zr30 rfl rfl (fun g47 w46 lg47 hS46 => ?_)
       clear hS44
       refine WO.store (l' := [Value.int .i64 mx.e, Value.int .i64 mx.b, Value.int .i64 mx.p, Value.int .i64 mx.k, Value.int .i64 mx.c, Value.slice lb42 mx.bl.length ld43]) 0 hS46 rfl Ty.sz30 rfl rfl rfl rfl rfl (Nat.le_of_ble_eq_true rfl) rfl (fun w48 (hS48 : St B (cel g47 [Value.int .i64 mx.e, Value.int .i64 mx.b, Value.int .i64 mx.p, Value.int .i64 mx.k, Value.int .i64 mx.c, Value.slice lb42 mx.bl.length ld43] 30 :: own lb42 mx.bl.length ld43 9 1 (mx.bl.map str) :: dkA g (crashD D2 zs) :: (.pure True) :: (.pure True) :: cel g4 [Value.int .i64 my.e, Value.int .i64 my.b, Value.int .i64 my.p, Value.int .i64 my.k, Value.int .i64 my.c, Value.slice ya my.bl.length yc] 24 :: cel g2 [Value.int .i64 mx.e, Value.int .i64 mx.b, Value.int .i64 mx.p, Value.int .i64 mx.k, Value.int .i64 mx.c, Value.slice xa mx.bl.length xc] 24 :: L) w48) => ?_)
       clear hS46
       refine WO.val (run_assign rfl) rfl rfl rfl ?_
       refine WO.nil ?_
       refine NX.go ?_
       refine WP.seq ?_
       refine WP.seq ?_
       refine WD.start (fun w => (∀ j, World.cell? w ⟨g47, j, none⟩ = [Value.int .i64 mx.e, Value.int .i64 mx.b, Value.int .i64 mx.p, Value.int .i64 mx.k, Value.int .i64 mx.c, Value.slice lb42 mx.bl.length ld43][j]?) ∧ (∀ j, World.cell? w ⟨g4, j, none⟩ = [Value.int .i64 my.e, Value.int .i64 my.b, Value.int .i64 my.p, Value.int .i64 my.k, Value.int .i64 my.c, Value.slice ya my.bl.length yc][j]?) ∧ (∀ j, World.cell? w ⟨g2, j, none⟩ = [Value.int .i64 mx.e, Value.int .i64 mx.b, Value.int .i64 mx.p, Value.int .i64 mx.k, Value.int .i64 mx.c, Value.slice xa mx.bl.length xc][j]?)) [] #[false, false, false, false, false, false, false, false, false, false, false, false, false, false, false, false] Ty.mo rfl (by kernel_rfl) hS48 (fun _ h => ⟨h.cel_at 0 rfl, h.cel_at 5 rfl, h.cel_at 6 rfl⟩) (fun w49 hS49 s50 => ?_)
       clear hS48
       refine WD.pure (i := 0) manifestTorn_core_t10 #[true, false, false, false, false, false, false, false, false, false, false, false, false, false, false, false] rfl rfl rfl (by kernel_rfl) (PQ.then (PQ.then PQ.body)) rfl (fun w => run_move rfl) ?_
       refine WD.pure (i := 1) manifestTorn_core_t10 #[true, true, false, false, false, false, false, false, false, false, false, false, false, false, false, false] rfl rfl rfl (by kernel_rfl) (PQ.then (PQ.then PQ.body)) rfl (fun w => run_neq rfl rfl) ?_
       refine WD.pure (i := 2) manifestTorn_core_t10 #[true, true, true, false, false, false, false, false, false, false, false, false, false, false, false, false] rfl rfl rfl (by kernel_rfl) (PQ.then (PQ.then PQ.body)) rfl (fun w => run_move rfl) ?_
       refine WD.takeOn (i := 3) manifestTorn_core_t10 #[true, true, true, true, false, false, false, false, false, false, false, false, false, false, false, false] s50 rfl rfl rfl (by decide) (by kernel_rfl) (PQ.then (PQ.then PQ.body)) rfl (fun w hs => run_loadAgg (vs := [Value.int .i64 mx.e, Value.int .i64 mx.b, Value.int .i64 mx.p, Value.int .i64 mx.k, Value.int .i64 mx.c, Value.slice lb42 mx.bl.length ld43]) Ty.ag30 Ty.sz30 rfl rfl (cell_all (hs.1) 0 rfl)) ?_
       refine WD.takeOn (i := 5) manifestTorn_core_t10 #[true, true, true, true, false, true, false, false, false, false, false, false, false, false, false, false] s50 rfl rfl rfl (by decide) (by kernel_rfl) (PQ.then (PQ.then PQ.body)) rfl (fun w hs => run_loadAgg (vs := [Value.int .i64 mx.e, Value.int .i64 mx.b, Value.int .i64 mx.p, Value.int .i64 mx.k, Value.int .i64 mx.c, Value.slice xa mx.bl.length xc]) Ty.ag24 Ty.sz24 rfl rfl (cell_all (hs.2.2) 0 rfl)) ?_
       refine WD.one (i := 4) manifestTorn_core_t10 #[true, true, true, true, true, true, false, false, false, false, false, false, false, false, false, false] rfl (by kernel_rfl) ?_
       refine WO.on rfl rfl (by decide) ?_
       refine WO.call rfl rfl Ty.hd14 rfl (from_spec (m := mx) hS49) (fun v52 w51 pv52 => ?_)
       obtain ⟨rfl, hS51⟩ := pv52
       clear hS49
       refine WO.nil ?_
       have s53 : (∀ j, World.cell? w51 ⟨g47, j, none⟩ = [Value.int .i64 mx.e, Value.int .i64 mx.b, Value.int .i64 mx.p, Value.int .i64 mx.k, Value.int .i64 mx.c, Value.slice lb42 mx.bl.length ld43][j]?) ∧ (∀ j, World.cell? w51 ⟨g4, j, none⟩ = [Value.int .i64 my.e, Value.int .i64 my.b, Value.int .i64 my.p, Value.int .i64 my.k, Value.int .i64 my.c, Value.slice ya my.bl.length yc][j]?) ∧ (∀ j, World.cell? w51 ⟨g2, j, none⟩ = [Value.int .i64 mx.e, Value.int .i64 mx.b, Value.int .i64 mx.p, Value.int .i64 mx.k, Value.int .i64 mx.c, Value.slice xa mx.bl.length xc][j]?) := ⟨hS51.cel_at 0 rfl, hS51.cel_at 5 rfl, hS51.cel_at 6 rfl⟩
       refine NX.held s53 ?_
       refine WD.one (i := 6) manifestTorn_core_t10 #[true, true, true, true, true, true, true, false, false, false, false, false, false, false, false, false] rfl (by kernel_rfl) ?_
       refine WO.on rfl rfl (by decide) ?_
       have hS54 := hS51.permT [1, 2, 0, 0, 0, 0, 0] (L' := own lb42 mx.bl.length ld43 9 1 (mx.bl.map str) :: (.pure True) :: cel g47 [Value.int .i64 mx.e, Value.int .i64 mx.b, Value.int .i64 mx.p, Value.int .i64 mx.k, Value.int .i64 mx.c, Value.slice lb42 mx.bl.length ld43] 30 :: dkA g (crashD D2 zs) :: (.pure True) :: cel g4 [Value.int .i64 my.e, Value.int .i64 my.b, Value.int .i64 my.p, Value.int .i64 my.k, Value.int .i64 my.c, Value.slice ya my.bl.length yc] 24 :: cel g2 [Value.int .i64 mx.e, Value.int .i64 mx.b, Value.int .i64 mx.p, Value.int .i64 mx.k, Value.int .i64 mx.c, Value.slice xa mx.bl.length xc] 24 :: L) rfl
       clear hS51
       refine WO.call rfl rfl Ty.hd13 rfl (rsame_spec (m := mx) (n := mx) (fun h => h.own_rd.1) (fun h => St.rdB h hA) hra hra hS54) (fun v56 w55 pv56 => ?_)
       obtain ⟨rfl, hS55⟩ := pv56
       clear hS54
       refine WO.nil ?_
       have s57 : (∀ j, World.cell? w55 ⟨g47, j, none⟩ = [Value.int .i64 mx.e, Value.int .i64 mx.b, Value.int .i64 mx.p, Value.int .i64 mx.k, Value.int .i64 mx.c, Value.slice lb42 mx.bl.length ld43][j]?) ∧ (∀ j, World.cell? w55 ⟨g4, j, none⟩ = [Value.int .i64 my.e, Value.int .i64 my.b, Value.int .i64 my.p, Value.int .i64 my.k, Value.int .i64 my.c, Value.slice ya my.bl.length yc][j]?) ∧ (∀ j, World.cell? w55 ⟨g2, j, none⟩ = [Value.int .i64 mx.e, Value.int .i64 mx.b, Value.int .i64 mx.p, Value.int .i64 mx.k, Value.int .i64 mx.c, Value.slice xa mx.bl.length xc][j]?) := ⟨hS55.cel_at 2 rfl, hS55.cel_at 5 rfl, hS55.cel_at 6 rfl⟩
       refine NX.held s57 ?_
       refine WD.pureOn (i := 7) manifestTorn_core_t10 #[true, true, true, true, true, true, true, true, false, false, false, false, false, false, false, false] rfl rfl rfl (by decide) (by kernel_rfl) (PQ.then (PQ.then PQ.body)) rfl (fun w => run_not rfl rfl) ?_
       refine WD.pure (i := 8) manifestTorn_core_t10 #[true, true, true, true, true, true, true, true, true, false, false, false, false, false, false, false] rfl rfl rfl (by kernel_rfl) (PQ.then (PQ.then PQ.body)) rfl (fun w => run_pickF rfl (by decide) rfl) ?_
       refine WD.pure (i := 9) manifestTorn_core_t10 #[true, true, true, true, true, true, true, true, true, true, false, false, false, false, false, false] rfl rfl rfl (by kernel_rfl) (PQ.then (PQ.then PQ.body)) rfl (fun w => run_move rfl) ?_
       refine WD.pureOn (i := 10) manifestTorn_core_t10 #[true, true, true, true, true, true, true, true, true, true, true, false, false, false, false, false] rfl rfl rfl (notB_t (decide_eq_true rfl)) (by kernel_rfl) (PQ.then (PQ.then PQ.body)) rfl (fun w => run_move rfl) ?_
       refine WD.takeOn (i := 11) manifestTorn_core_t10 #[true, true, true, true, true, true, true, true, true, true, true, true, false, false, false, false] s57 rfl rfl rfl (notB_t (decide_eq_true rfl)) (by kernel_rfl) (PQ.then (PQ.then PQ.body)) rfl (fun w hs => run_loadAgg (vs := [Value.int .i64 my.e, Value.int .i64 my.b, Value.int .i64 my.p, Value.int .i64 my.k, Value.int .i64 my.c, Value.slice ya my.bl.length yc]) Ty.ag24 Ty.sz24 rfl rfl (cell_all (hs.2.1) 0 rfl)) ?_
       refine WD.one (i := 12) manifestTorn_core_t10 #[true, true, true, true, true, true, true, true, true, true, true, true, true, false, false, false] rfl (by kernel_rfl) ?_
       refine WO.on rfl rfl (notB_t (decide_eq_true rfl)) ?_
       have hS60 := hS55.permT [4, 0, 0, 0, 0, 0, 0] (L' := (.pure True) :: own lb42 mx.bl.length ld43 9 1 (mx.bl.map str) :: (.pure True) :: cel g47 [Value.int .i64 mx.e, Value.int .i64 mx.b, Value.int .i64 mx.p, Value.int .i64 mx.k, Value.int .i64 mx.c, Value.slice lb42 mx.bl.length ld43] 30 :: dkA g (crashD D2 zs) :: cel g4 [Value.int .i64 my.e, Value.int .i64 my.b, Value.int .i64 my.p, Value.int .i64 my.k, Value.int .i64 my.c, Value.slice ya my.bl.length yc] 24 :: cel g2 [Value.int .i64 mx.e, Value.int .i64 mx.b, Value.int .i64 mx.p, Value.int .i64 mx.k, Value.int .i64 mx.c, Value.slice xa mx.bl.length xc] 24 :: L) rfl
       clear hS55
       refine WO.call rfl rfl Ty.hd11 rfl (to_spec (m := my) (fun h => St.rdB h hB) hrb hS60) (fun v62 w61 pv62 => ?_)
       obtain ⟨b58, c59, rfl, hS61⟩ := pv62
       clear hS60
       refine WO.nil ?_
       have s63 : (∀ j, World.cell? w61 ⟨g47, j, none⟩ = [Value.int .i64 mx.e, Value.int .i64 mx.b, Value.int .i64 mx.p, Value.int .i64 mx.k, Value.int .i64 mx.c, Value.slice lb42 mx.bl.length ld43][j]?) ∧ (∀ j, World.cell? w61 ⟨g4, j, none⟩ = [Value.int .i64 my.e, Value.int .i64 my.b, Value.int .i64 my.p, Value.int .i64 my.k, Value.int .i64 my.c, Value.slice ya my.bl.length yc][j]?) ∧ (∀ j, World.cell? w61 ⟨g2, j, none⟩ = [Value.int .i64 mx.e, Value.int .i64 mx.b, Value.int .i64 mx.p, Value.int .i64 mx.k, Value.int .i64 mx.c, Value.slice xa mx.bl.length xc][j]?) := ⟨hS61.cel_at 4 rfl, hS61.cel_at 6 rfl, hS61.cel_at 7 rfl⟩
       refine NX.held s63 ?_
       refine WD.one (i := 13) manifestTorn_core_t10 #[true, true, true, true, true, true, true, true, true, true, true, true, true, true, false, false] rfl (by kernel_rfl) ?_
       refine WO.on rfl rfl (notB_t (decide_eq_true rfl)) ?_
       have hS64 := hS61.permT [5, 0, 0, 0, 0, 0, 0, 0] (L' := dkA g (crashD D2 zs) :: own b58 my.bl.length c59 9 1 (my.bl.map str) :: (.pure True) :: own lb42 mx.bl.length ld43 9 1 (mx.bl.map str) :: (.pure True) :: cel g47 [Value.int .i64 mx.e, Value.int .i64 mx.b, Value.int .i64 mx.p, Value.int .i64 mx.k, Value.int .i64 mx.c, Value.slice lb42 mx.bl.length ld43] 30 :: cel g4 [Value.int .i64 my.e, Value.int .i64 my.b, Value.int .i64 my.p, Value.int .i64 my.k, Value.int .i64 my.c, Value.slice ya my.bl.length yc] 24 :: cel g2 [Value.int .i64 mx.e, Value.int .i64 mx.b, Value.int .i64 mx.p, Value.int .i64 mx.k, Value.int .i64 mx.c, Value.slice xa mx.bl.length xc] 24 :: L) rfl
       clear hS61
       refine WO.call rfl rfl Ty.hd17 rfl (publish_spec (m := my) (fun h => h.own_rd.1) hrb (k2.crash (zs := zs)) (by omega) (by omega) (by have := enc_len hrb; omega) hS64) (fun v66 w65 pv66 => ?_)
       obtain ⟨hv, hS65⟩ := pv66
       clear hS64
       obtain ⟨D4, e4, ps4⟩ := (hT zs).publish hrb hcb
       rw [e4] at hv
       rw [e4] at hS65
       change _ = Value.int .i64 0 at hv
       subst hv
       replace hS65 : St B (dkA g D4 :: own b58 my.bl.length c59 9 1 (my.bl.map str) :: (.pure True) :: own lb42 mx.bl.length ld43 9 1 (mx.bl.map str) :: (.pure True) :: cel g47 [Value.int .i64 mx.e, Value.int .i64 mx.b, Value.int .i64 mx.p, Value.int .i64 mx.k, Value.int .i64 mx.c, Value.slice lb42 mx.bl.length ld43] 30 :: cel g4 [Value.int .i64 my.e, Value.int .i64 my.b, Value.int .i64 my.p, Value.int .i64 my.k, Value.int .i64 my.c, Value.slice ya my.bl.length yc] 24 :: cel g2 [Value.int .i64 mx.e, Value.int .i64 mx.b, Value.int .i64 mx.p, Value.int .i64 mx.k, Value.int .i64 mx.c, Value.slice xa mx.bl.length xc] 24 :: L) w65 := hS65
       have k4 := (k2.crash (zs := zs)).publish (enc_len hrb)
       rw [e4] at k4
       refine WO.nil ?_
       have s67 : (∀ j, World.cell? w65 ⟨g47, j, none⟩ = [Value.int .i64 mx.e, Value.int .i64 mx.b, Value.int .i64 mx.p, Value.int .i64 mx.k, Value.int .i64 mx.c, Value.slice lb42 mx.bl.length ld43][j]?) ∧ (∀ j, World.cell? w65 ⟨g4, j, none⟩ = [Value.int .i64 my.e, Value.int .i64 my.b, Value.int .i64 my.p, Value.int .i64 my.k, Value.int .i64 my.c, Value.slice ya my.bl.length yc][j]?) ∧ (∀ j, World.cell? w65 ⟨g2, j, none⟩ = [Value.int .i64 mx.e, Value.int .i64 mx.b, Value.int .i64 mx.p, Value.int .i64 mx.k, Value.int .i64 mx.c, Value.slice xa mx.bl.length xc][j]?) := ⟨hS65.cel_at 5 rfl, hS65.cel_at 6 rfl, hS65.cel_at 7 rfl⟩
       refine NX.held s67 ?_
       refine WD.pureOn (i := 14) manifestTorn_core_t10 #[true, true, true, true, true, true, true, true, true, true, true, true, true, true, true, false] rfl rfl rfl (notB_t (decide_eq_true rfl)) (by kernel_rfl) (PQ.then (PQ.then PQ.body)) rfl (fun w => run_neq rfl rfl) ?_
       refine WD.pure (i := 15) manifestTorn_core_t10 #[true, true, true, true, true, true, true, true, true, true, true, true, true, true, true, true] rfl rfl rfl (by kernel_rfl) (PQ.then (PQ.then PQ.body)) rfl (fun w => run_pickF rfl (notB_t (decide_eq_true rfl)) rfl) ?_
       refine WD.done manifestTorn_core_t10 (by kernel_rfl) ?_
       refine NX.go ?_
       refine WP.condF rfl (by decide) ?_
       refine WP.skip ?_
       refine NX.go ?_
       refine WP.seq ?_
       have hS68 : St B (dkA g D4 :: (.pure True) :: cel g4 [Value.int .i64 my.e, Value.int .i64 my.b, Value.int .i64 my.p, Value.int .i64 my.k, Value.int .i64 my.c, Value.slice ya my.bl.length yc] 24 :: L) w65 := (hS65.permT [1, 2, 2, 2, 3, 0, 0, 0] (L' := own b58 my.bl.length c59 9 1 (my.bl.map str) :: own lb42 mx.bl.length ld43 9 1 (mx.bl.map str) :: (.pure True) :: cel g47 [Value.int .i64 mx.e, Value.int .i64 mx.b, Value.int .i64 mx.p, Value.int .i64 mx.k, Value.int .i64 mx.c, Value.slice lb42 mx.bl.length ld43] 30 :: cel g2 [Value.int .i64 mx.e, Value.int .i64 mx.b, Value.int .i64 mx.p, Value.int .i64 mx.k, Value.int .i64 mx.c, Value.slice xa mx.bl.length xc] 24 :: dkA g D4 :: (.pure True) :: cel g4 [Value.int .i64 my.e, Value.int .i64 my.b, Value.int .i64 my.p, Value.int .i64 my.k, Value.int .i64 my.c, Value.slice ya my.bl.length yc] 24 :: L) rfl).drop.drop.drop.drop.drop
       clear hS65
       refine WP.region rfl ?_
       refine WO.val (run_move rfl) rfl rfl rfl ?_
       refine WO.call rfl rfl Ty.hd20 rfl (load_spec k4 (by omega) hS68) (fun v72 w71 pv72 => ?_)
       obtain ⟨lb69, ld70, hv, _, hS71⟩ := pv72
       clear hS68
       have hl0 : loadD D4 = (my, 0) := ps4.load
       rw [hl0] at hv
       rw [hl0] at hS71
       change _ = Value.tuple #[Value.agg #[Value.int .i64 my.e, Value.int .i64 my.b, Value.int .i64 my.p, Value.int .i64 my.k, Value.int .i64 my.c, Value.slice lb69 my.bl.length ld70], Value.int .i64 0] at hv
       subst hv
       replace hS71 : St B (own lb69 my.bl.length ld70 9 1 (my.bl.map str) :: dkA g D4 :: (.pure True) :: cel g4 [Value.int .i64 my.e, Value.int .i64 my.b, Value.int .i64 my.p, Value.int .i64 my.k, Value.int .i64 my.c, Value.slice ya my.bl.length yc] 24 :: L) w71 := hS71
       refine WO.val (run_move rfl) rfl rfl rfl ?_
       refine WO.val (run_extract rfl rfl) rfl rfl rfl ?_
       refine WO.val (run_extract rfl rfl) rfl rfl rfl ?_
       refine WO.alloc (l := [Value.int .i64 0, Value.int .i64 0, Value.int .i64 0, Value.int .i64 0, Value.int .i64 0, Value.slice none 0 0]) hS71 Ty.zr30 rfl rfl (fun g74 w73 lg74 hS73 => ?_)
       clear hS71
       refine WO.store (l' := [Value.int .i64 my.e, Value.int .i64 my.b, Value.int .i64 my.p, Value.int .i64 my.k, Value.int .i64 my.c, Value.slice lb69 my.bl.length ld70]) 0 hS73 rfl Ty.sz30 rfl rfl rfl rfl rfl (Nat.le_of_ble_eq_true rfl) rfl (fun w75 (hS75 : St B (cel g74 [Value.int .i64 my.e, Value.int .i64 my.b, Value.int .i64 my.p, Value.int .i64 my.k, Value.int .i64 my.c, Value.slice lb69 my.bl.length ld70] 30 :: own lb69 my.bl.length ld70 9 1 (my.bl.map str) :: dkA g D4 :: (.pure True) :: cel g4 [Value.int .i64 my.e, Value.int .i64 my.b, Value.int .i64 my.p, Value.int .i64 my.k, Value.int .i64 my.c, Value.slice ya my.bl.length yc] 24 :: L) w75) => ?_)
       clear hS73
       refine WO.val (run_assign rfl) rfl rfl rfl ?_
       refine WO.nil ?_
       refine NX.go ?_
       refine WP.seq ?_
       refine WD.start (fun w => (∀ j, World.cell? w ⟨g74, j, none⟩ = [Value.int .i64 my.e, Value.int .i64 my.b, Value.int .i64 my.p, Value.int .i64 my.k, Value.int .i64 my.c, Value.slice lb69 my.bl.length ld70][j]?) ∧ (∀ j, World.cell? w ⟨g4, j, none⟩ = [Value.int .i64 my.e, Value.int .i64 my.b, Value.int .i64 my.p, Value.int .i64 my.k, Value.int .i64 my.c, Value.slice ya my.bl.length yc][j]?)) [] #[false, false, false, false, false, false, false, false, false, false, false, false, false, false, false] Ty.mo rfl (by kernel_rfl) hS75 (fun _ h => ⟨h.cel_at 0 rfl, h.cel_at 4 rfl⟩) (fun w76 hS76 s77 => ?_)
       clear hS75
       refine WD.pure (i := 0) manifestTorn_core_t13 #[true, false, false, false, false, false, false, false, false, false, false, false, false, false, false] rfl rfl rfl (by kernel_rfl) (PQ.then PQ.body) rfl (fun w => run_move rfl) ?_
       refine WD.pure (i := 1) manifestTorn_core_t13 #[true, true, false, false, false, false, false, false, false, false, false, false, false, false, false] rfl rfl rfl (by kernel_rfl) (PQ.then PQ.body) rfl (fun w => run_eql rfl rfl) ?_
       refine WD.pure (i := 2) manifestTorn_core_t13 #[true, true, true, false, false, false, false, false, false, false, false, false, false, false, false] rfl rfl rfl (by kernel_rfl) (PQ.then PQ.body) rfl (fun w => run_move rfl) ?_
       refine WD.takeOn (i := 3) manifestTorn_core_t13 #[true, true, true, true, false, false, false, false, false, false, false, false, false, false, false] s77 rfl rfl rfl (by decide) (by kernel_rfl) (PQ.then PQ.body) rfl (fun w hs => run_loadAgg (vs := [Value.int .i64 my.e, Value.int .i64 my.b, Value.int .i64 my.p, Value.int .i64 my.k, Value.int .i64 my.c, Value.slice lb69 my.bl.length ld70]) Ty.ag30 Ty.sz30 rfl rfl (cell_all (hs.1) 0 rfl)) ?_
       refine WD.takeOn (i := 5) manifestTorn_core_t13 #[true, true, true, true, false, true, false, false, false, false, false, false, false, false, false] s77 rfl rfl rfl (by decide) (by kernel_rfl) (PQ.then PQ.body) rfl (fun w hs => run_loadAgg (vs := [Value.int .i64 my.e, Value.int .i64 my.b, Value.int .i64 my.p, Value.int .i64 my.k, Value.int .i64 my.c, Value.slice ya my.bl.length yc]) Ty.ag24 Ty.sz24 rfl rfl (cell_all (hs.2) 0 rfl)) ?_
       refine WD.one (i := 4) manifestTorn_core_t13 #[true, true, true, true, true, true, false, false, false, false, false, false, false, false, false] rfl (by kernel_rfl) ?_
       refine WO.on rfl rfl (by decide) ?_
       refine WO.call rfl rfl Ty.hd14 rfl (from_spec (m := my) hS76) (fun v79 w78 pv79 => ?_)
       obtain ⟨rfl, hS78⟩ := pv79
       clear hS76
       refine WO.nil ?_
       have s80 : (∀ j, World.cell? w78 ⟨g74, j, none⟩ = [Value.int .i64 my.e, Value.int .i64 my.b, Value.int .i64 my.p, Value.int .i64 my.k, Value.int .i64 my.c, Value.slice lb69 my.bl.length ld70][j]?) ∧ (∀ j, World.cell? w78 ⟨g4, j, none⟩ = [Value.int .i64 my.e, Value.int .i64 my.b, Value.int .i64 my.p, Value.int .i64 my.k, Value.int .i64 my.c, Value.slice ya my.bl.length yc][j]?) := ⟨hS78.cel_at 0 rfl, hS78.cel_at 4 rfl⟩
       refine NX.held s80 ?_
       refine WD.one (i := 6) manifestTorn_core_t13 #[true, true, true, true, true, true, true, false, false, false, false, false, false, false, false] rfl (by kernel_rfl) ?_
       refine WO.on rfl rfl (by decide) ?_
       have hS81 := hS78.permT [1, 2, 0, 0, 0] (L' := own lb69 my.bl.length ld70 9 1 (my.bl.map str) :: (.pure True) :: cel g74 [Value.int .i64 my.e, Value.int .i64 my.b, Value.int .i64 my.p, Value.int .i64 my.k, Value.int .i64 my.c, Value.slice lb69 my.bl.length ld70] 30 :: dkA g D4 :: cel g4 [Value.int .i64 my.e, Value.int .i64 my.b, Value.int .i64 my.p, Value.int .i64 my.k, Value.int .i64 my.c, Value.slice ya my.bl.length yc] 24 :: L) rfl
       clear hS78
       refine WO.call rfl rfl Ty.hd13 rfl (rsame_spec (m := my) (n := my) (fun h => h.own_rd.1) (fun h => St.rdB h hB) hrb hrb hS81) (fun v83 w82 pv83 => ?_)
       obtain ⟨rfl, hS82⟩ := pv83
       clear hS81
       refine WO.nil ?_
       have s84 : (∀ j, World.cell? w82 ⟨g74, j, none⟩ = [Value.int .i64 my.e, Value.int .i64 my.b, Value.int .i64 my.p, Value.int .i64 my.k, Value.int .i64 my.c, Value.slice lb69 my.bl.length ld70][j]?) ∧ (∀ j, World.cell? w82 ⟨g4, j, none⟩ = [Value.int .i64 my.e, Value.int .i64 my.b, Value.int .i64 my.p, Value.int .i64 my.k, Value.int .i64 my.c, Value.slice ya my.bl.length yc][j]?) := ⟨hS82.cel_at 2 rfl, hS82.cel_at 4 rfl⟩
       refine NX.held s84 ?_
       refine WD.pure (i := 7) manifestTorn_core_t13 #[true, true, true, true, true, true, true, true, false, false, false, false, false, false, false] rfl rfl rfl (by kernel_rfl) (PQ.then PQ.body) rfl (fun w => run_pickT rfl (by decide) rfl) ?_
       refine WD.pure (i := 8) manifestTorn_core_t13 #[true, true, true, true, true, true, true, true, true, false, false, false, false, false, false] rfl rfl rfl (by kernel_rfl) (PQ.then PQ.body) rfl (fun w => run_move rfl) ?_
       refine WD.pureOn (i := 9) manifestTorn_core_t13 #[true, true, true, true, true, true, true, true, true, true, false, false, false, false, false] rfl rfl rfl (decide_eq_true rfl) (by kernel_rfl) (PQ.then PQ.body) rfl (fun w => run_move rfl) ?_
       refine WD.one (i := 10) manifestTorn_core_t13 #[true, true, true, true, true, true, true, true, true, true, true, false, false, false, false] rfl (by kernel_rfl) ?_
       refine WO.on rfl rfl (decide_eq_true rfl) ?_
       have hS85 := hS82.permT [3, 0, 0, 0, 0] (L' := dkA g D4 :: own lb69 my.bl.length ld70 9 1 (my.bl.map str) :: (.pure True) :: cel g74 [Value.int .i64 my.e, Value.int .i64 my.b, Value.int .i64 my.p, Value.int .i64 my.k, Value.int .i64 my.c, Value.slice lb69 my.bl.length ld70] 30 :: cel g4 [Value.int .i64 my.e, Value.int .i64 my.b, Value.int .i64 my.p, Value.int .i64 my.k, Value.int .i64 my.c, Value.slice ya my.bl.length yc] 24 :: L) rfl
       clear hS82
       refine WO.call rfl rfl Ty.hd22 rfl (dnames_spec k4.w hS85) (fun v87 w86 pv87 => ?_)
       obtain ⟨na, nc, rfl, hS86⟩ := pv87
       clear hS85
       refine WO.nil ?_
       have s88 : (∀ j, World.cell? w86 ⟨g74, j, none⟩ = [Value.int .i64 my.e, Value.int .i64 my.b, Value.int .i64 my.p, Value.int .i64 my.k, Value.int .i64 my.c, Value.slice lb69 my.bl.length ld70][j]?) ∧ (∀ j, World.cell? w86 ⟨g4, j, none⟩ = [Value.int .i64 my.e, Value.int .i64 my.b, Value.int .i64 my.p, Value.int .i64 my.k, Value.int .i64 my.c, Value.slice ya my.bl.length yc][j]?) := ⟨hS86.cel_at 4 rfl, hS86.cel_at 5 rfl⟩
       refine NX.held s88 ?_
       refine WD.pureOn (i := 11) manifestTorn_core_t13 #[true, true, true, true, true, true, true, true, true, true, true, true, false, false, false] rfl rfl rfl (decide_eq_true rfl) (by kernel_rfl) (PQ.then PQ.body) rfl (fun w => run_len rfl Tryz.underlying22 rfl) ?_
       refine WD.pureOn (i := 12) manifestTorn_core_t13 #[true, true, true, true, true, true, true, true, true, true, true, true, true, false, false] rfl rfl rfl (decide_eq_true rfl) (by kernel_rfl) (PQ.then PQ.body) rfl (fun w => run_eql rfl rfl) ?_
       refine WD.pure (i := 13) manifestTorn_core_t13 #[true, true, true, true, true, true, true, true, true, true, true, true, true, true, false] rfl rfl rfl (by kernel_rfl) (PQ.then PQ.body) rfl (fun w => run_pickT rfl (decide_eq_true rfl) rfl) ?_
       refine WD.pure (i := 14) manifestTorn_core_t13 #[true, true, true, true, true, true, true, true, true, true, true, true, true, true, true] rfl rfl rfl (by kernel_rfl) (PQ.then PQ.body) rfl (fun w => run_assign rfl) ?_
       refine WD.done manifestTorn_core_t13 (by kernel_rfl) ?_
       refine NX.go ?_
       refine WP.ret ?_
       refine NX.done (l := [.tmp 8]) rfl rfl ?_
       have hnl : (namesD D4).length = 1 := by unfold namesD; rw [ps4.dead, if_neg Bool.noConfusion, List.length_map]; obtain ⟨_, _, i, hn, _, _⟩ := ps4.so my rfl; rw [hn]; rfl
       exact ⟨congrArg Value.bool (decide_eq_true (by rw [hnl]; rfl)), hS86.drop.drop.drop.drop.drop.drop⟩
end Go.Proofs.YtcehlnpbdffdhaaGreatDoor.SL
