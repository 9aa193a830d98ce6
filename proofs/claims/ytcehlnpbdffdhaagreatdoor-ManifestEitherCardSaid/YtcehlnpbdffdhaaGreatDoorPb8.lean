/- One or the other. -/
import Derived.Test.YtcehlnpbdffdhaaGreatDoorMan3M
import Derived.Test.YtcehlnpbdffdhaaGreatDoorKv
namespace Go.Proofs.YtcehlnpbdffdhaaGreatDoor.SL
open Go.RowKit Go.Proofs.YtcehlnpbdffdhaaGreatDoor
open Go.Proofs.YtcehlnpbdffdhaaGreatDoorW.PrintLast (rtab opsOf)
set_option linter.unusedVariables false
set_option linter.unusedSimpArgs false

theorem fuse_eq {D : Dk} (h : D.dead = false) (k : Nat) : fuseD D (k : Int) = { D with left := (k : Int) } := by
  unfold fuseD; rw [h, if_neg Bool.noConfusion, if_neg (by omega)]
theorem fuse_two {D : Dk} {a b : Man} {k : Nat} (h : PS D (some a)) (hrb : RngM b) (hcb : checkM b = 0) : ∃ D' e, publishD (fuseD D (k : Int)) b = (D', e) ∧ ∀ zs, ∃ M, loadD (crashD D' zs) = (M, 0) ∧ ((e = 0 ∧ M = b) ∨ (e = 11 ∧ (M = a ∨ M = b))) := by
  rw [fuse_eq h.dead]
  obtain ⟨D', e, h1, h2⟩ := fuse_pub (k := k) h hrb hcb
  refine ⟨D', e, h1, fun zs => ?_⟩
  rcases h2 with ⟨he, h2⟩ | ⟨he, h2⟩
  · exact ⟨b, h2 zs, .inl ⟨he, rfl⟩⟩
  · rcases h2 zs with h3 | h3
    · exact ⟨a, h3, .inr ⟨he, .inl rfl⟩⟩
    · exact ⟨b, h3, .inr ⟨he, .inr rfl⟩⟩
theorem manifestEither_core_t15 : rtab .any (opsOf Tryz.f4 15) = (true, [([], []), ([0], [0]), ([], []), ([1, 2, 1], [1, 2]), ([3, 3, 0, 1, 2, 3], [3])]) := by kernel_rfl
theorem manifestEither_core_t16 : rtab .any (opsOf Tryz.f4 16) = (true, [([], []), ([0], [0]), ([1], [1]), ([2], [2]), ([3, 2, 2], [2, 3]), ([2], [2]), ([4, 5, 4, 2], [2, 4, 5]), ([6, 6, 2], [2, 6]), ([7], [7]), ([8, 7, 7], [7, 8]), ([7], [7]), ([9, 10, 9, 7], [7, 9, 10]), ([7, 11, 2], [2, 7, 11]), ([2, 12], [2, 12]), ([13, 11, 0, 1, 2, 3, 4, 5, 6, 7, 8, 9, 10, 11, 12, 13], [13])]) := by kernel_rfl
theorem manifestEither_core {B w : World} {L : List HP} {xa ya ka : Option Addr} {xc yc kc : Nat} {mx my : Man} {zs : List Int} (fz : Int) (hA : Rd B xa mx.bl.length 1 (mx.bl.map str)) (hra : RngM mx) (hB : Rd B ya my.bl.length 1 (my.bl.map str)) (hrb : RngM my) (hK : Rd B ka zs.length 1 (ri zs)) (hS : St B L w) : Does Tryz.prog 4 [Value.agg #[Value.int .i64 mx.e, Value.int .i64 mx.b, Value.int .i64 mx.p, Value.int .i64 mx.k, Value.int .i64 mx.c, Value.slice xa mx.bl.length xc], Value.agg #[Value.int .i64 my.e, Value.int .i64 my.b, Value.int .i64 my.p, Value.int .i64 my.k, Value.int .i64 my.c, Value.slice ya my.bl.length yc], Value.int .i64 fz, Value.slice ka zs.length kc] w (fun v w1 => v = .bool true ∧ St B L w1) := by
 replace hS := ((hS.addPure (p := True) trivial).addPure (p := True) trivial).addPure (p := True) trivial
 refine enter (n := 84) Tryz.func4 rfl rfl [Value.agg #[Value.int .i64 mx.e, Value.int .i64 mx.b, Value.int .i64 mx.p, Value.int .i64 mx.k, Value.int .i64 mx.c, Value.slice xa mx.bl.length xc], Value.agg #[Value.int .i64 my.e, Value.int .i64 my.b, Value.int .i64 my.p, Value.int .i64 my.k, Value.int .i64 my.c, Value.slice ya my.bl.length yc], Value.int .i64 fz, Value.slice ka zs.length kc] rfl ?_
 refine WP.seq ?_
 refine WP.region rfl ?_
 refine WO.box (l := [Value.int .i64 mx.e, Value.int .i64 mx.b, Value.int .i64 mx.p, Value.int .i64 mx.k, Value.int .i64 mx.c, Value.slice xa mx.bl.length xc]) hS rfl rfl rfl (fun g2 w1 lg2 hS1 => ?_)
 clear hS
 refine WO.box (l := [Value.int .i64 my.e, Value.int .i64 my.b, Value.int .i64 my.p, Value.int .i64 my.k, Value.int .i64 my.c, Value.slice ya my.bl.length yc]) hS1 rfl rfl rfl (fun g4 w3 lg4 hS3 => ?_)
 clear hS1
 refine WO.val (run_assign rfl) rfl rfl rfl ?_
 refine WO.nil ?_
 refine NX.go ?_
 refine WP.seq ?_
 refine WP.seq ?_
 refine WP.region rfl ?_
 refine WO.call rfl rfl Ty.hd8 rfl (works17_spec hS3) (fun v6 w5 pv6 => ?_)
 obtain ⟨rfl, hS5⟩ := pv6
 clear hS3
 refine WO.val (run_not rfl rfl) rfl rfl rfl ?_
 refine WO.nil ?_
 refine NX.go ?_
 refine WP.condF rfl (notB_t rfl) ?_
 refine WP.skip ?_
 refine NX.go ?_
 refine WP.seq ?_
 refine WP.seq ?_
 refine WP.region rfl ?_
 refine WO.val (run_loadAgg (vs := [Value.int .i64 mx.e, Value.int .i64 mx.b, Value.int .i64 mx.p, Value.int .i64 mx.k, Value.int .i64 mx.c, Value.slice xa mx.bl.length xc]) Ty.ag24 Ty.sz24 rfl rfl (cell_all (hS5.cel_at 1 rfl) 0 rfl)) rfl rfl rfl ?_
 have hS8 := hS5.permT [2, 0, 0, 0, 0] (L' := (.pure True) :: cel g4 [Value.int .i64 my.e, Value.int .i64 my.b, Value.int .i64 my.p, Value.int .i64 my.k, Value.int .i64 my.c, Value.slice ya my.bl.length yc] 24 :: cel g2 [Value.int .i64 mx.e, Value.int .i64 mx.b, Value.int .i64 mx.p, Value.int .i64 mx.k, Value.int .i64 mx.c, Value.slice xa mx.bl.length xc] 24 :: (.pure True) :: (.pure True) :: L) rfl
 clear hS5
 refine WO.call rfl rfl Ty.hd9 rfl (great_spec (m := mx) (fun h => St.rdB h hA) hra hS8) (fun v10 w9 pv10 => ?_)
 obtain ⟨gb7, rfl, _, hS9⟩ := pv10
 clear hS8
 refine WO.val (run_move rfl) rfl rfl rfl ?_
 rcases Bool.eq_false_or_eq_true gb7 with g17 | g17
 ·
  refine WO.off rfl rfl g17 rfl ?_
  refine WO.off rfl rfl g17 rfl ?_
  refine WO.val (run_pickT rfl g17 rfl) rfl rfl rfl ?_
  refine WO.val (run_move rfl) rfl rfl rfl ?_
  refine WO.off rfl rfl rfl rfl ?_
  refine WO.off rfl rfl rfl rfl ?_
  refine WO.off rfl rfl rfl rfl ?_
  refine WO.val (run_pickT rfl rfl rfl) rfl rfl rfl ?_
  refine WO.val (run_move rfl) rfl rfl rfl ?_
  refine WO.off rfl rfl rfl rfl ?_
  refine WO.off rfl rfl rfl rfl ?_
  refine WO.off rfl rfl rfl rfl ?_
  refine WO.val (run_pickT rfl rfl rfl) rfl rfl rfl ?_
  refine WO.val (run_move rfl) rfl rfl rfl ?_
  refine WO.off rfl rfl rfl rfl ?_
  refine WO.off rfl rfl rfl rfl ?_
  refine WO.off rfl rfl rfl rfl ?_
  refine WO.val (run_pickT rfl rfl rfl) rfl rfl rfl ?_
  refine WO.nil ?_
  refine NX.go ?_
  refine WP.condT rfl rfl ?_
  refine WP.seq ?_
  refine WP.region rfl ?_
  refine WO.val (run_assign rfl) rfl rfl rfl ?_
  refine WO.nil ?_
  refine NX.go ?_
  refine WP.ret ?_
  refine NX.thenRet ?_
  refine NX.done (l := [.tmp 8]) rfl rfl ?_
  exact ⟨rfl, hS9.drop.drop.drop.drop.drop⟩
 ·
  refine WO.on rfl rfl g17 ?_
  refine WO.val (run_loadAgg (vs := [Value.int .i64 my.e, Value.int .i64 my.b, Value.int .i64 my.p, Value.int .i64 my.k, Value.int .i64 my.c, Value.slice ya my.bl.length yc]) Ty.ag24 Ty.sz24 rfl rfl (cell_all (hS9.cel_at 1 rfl) 0 rfl)) rfl rfl rfl ?_
  refine WO.on rfl rfl g17 ?_
  have hS12 := hS9.permT [3, 0, 0, 0, 0] (L' := (.pure True) :: (.pure True) :: cel g4 [Value.int .i64 my.e, Value.int .i64 my.b, Value.int .i64 my.p, Value.int .i64 my.k, Value.int .i64 my.c, Value.slice ya my.bl.length yc] 24 :: cel g2 [Value.int .i64 mx.e, Value.int .i64 mx.b, Value.int .i64 mx.p, Value.int .i64 mx.k, Value.int .i64 mx.c, Value.slice xa mx.bl.length xc] 24 :: (.pure True) :: L) rfl
  clear hS9
  refine WO.call rfl rfl Ty.hd9 rfl (great_spec (m := my) (fun h => St.rdB h hB) hrb hS12) (fun v14 w13 pv14 => ?_)
  obtain ⟨gb11, rfl, _, hS13⟩ := pv14
  clear hS12
  refine WO.val (run_pickF rfl g17 rfl) rfl rfl rfl ?_
  refine WO.val (run_move rfl) rfl rfl rfl ?_
  rcases Bool.eq_false_or_eq_true gb11 with g21 | g21
  ·
   refine WO.off rfl rfl g21 rfl ?_
   refine WO.off rfl rfl g21 rfl ?_
   refine WO.off rfl rfl g21 rfl ?_
   refine WO.val (run_pickT rfl g21 rfl) rfl rfl rfl ?_
   refine WO.val (run_move rfl) rfl rfl rfl ?_
   refine WO.off rfl rfl rfl rfl ?_
   refine WO.off rfl rfl rfl rfl ?_
   refine WO.off rfl rfl rfl rfl ?_
   refine WO.val (run_pickT rfl rfl rfl) rfl rfl rfl ?_
   refine WO.val (run_move rfl) rfl rfl rfl ?_
   refine WO.off rfl rfl rfl rfl ?_
   refine WO.off rfl rfl rfl rfl ?_
   refine WO.off rfl rfl rfl rfl ?_
   refine WO.val (run_pickT rfl rfl rfl) rfl rfl rfl ?_
   refine WO.nil ?_
   refine NX.go ?_
   refine WP.condT rfl rfl ?_
   refine WP.seq ?_
   refine WP.region rfl ?_
   refine WO.val (run_assign rfl) rfl rfl rfl ?_
   refine WO.nil ?_
   refine NX.go ?_
   refine WP.ret ?_
   refine NX.thenRet ?_
   refine NX.done (l := [.tmp 8]) rfl rfl ?_
   exact ⟨rfl, hS13.drop.drop.drop.drop.drop⟩
  ·
   refine WO.on rfl rfl g21 ?_
   refine WO.val (run_loadAgg (vs := [Value.int .i64 mx.e, Value.int .i64 mx.b, Value.int .i64 mx.p, Value.int .i64 mx.k, Value.int .i64 mx.c, Value.slice xa mx.bl.length xc]) Ty.ag24 Ty.sz24 rfl rfl (cell_all (hS13.cel_at 3 rfl) 0 rfl)) rfl rfl rfl ?_
   refine WO.on rfl rfl g21 ?_
   have hS15 := hS13.permT [1, 0, 0, 0, 0] (L' := (.pure True) :: (.pure True) :: cel g4 [Value.int .i64 my.e, Value.int .i64 my.b, Value.int .i64 my.p, Value.int .i64 my.k, Value.int .i64 my.c, Value.slice ya my.bl.length yc] 24 :: cel g2 [Value.int .i64 mx.e, Value.int .i64 mx.b, Value.int .i64 mx.p, Value.int .i64 mx.k, Value.int .i64 mx.c, Value.slice xa mx.bl.length xc] 24 :: (.pure True) :: L) rfl
   clear hS13
   refine WO.call rfl rfl Ty.hd15 rfl (rcheckM_spec (m := mx) (fun h => St.rdB h hA) hra hS15) (fun v17 w16 pv17 => ?_)
   obtain ⟨rfl, hS16⟩ := pv17
   clear hS15
   refine WO.on rfl rfl g21 ?_
   refine WO.val (run_neq rfl rfl) rfl rfl rfl ?_
   refine WO.val (run_pickF rfl g21 rfl) rfl rfl rfl ?_
   refine WO.val (run_move rfl) rfl rfl rfl ?_
   by_cases g26 : ¬ (checkM mx) = 0
   ·
    refine WO.off rfl rfl (decide_eq_true g26) rfl ?_
    refine WO.off rfl rfl (decide_eq_true g26) rfl ?_
    refine WO.off rfl rfl (decide_eq_true g26) rfl ?_
    refine WO.val (run_pickT rfl (decide_eq_true g26) rfl) rfl rfl rfl ?_
    refine WO.val (run_move rfl) rfl rfl rfl ?_
    refine WO.off rfl rfl rfl rfl ?_
    refine WO.off rfl rfl rfl rfl ?_
    refine WO.off rfl rfl rfl rfl ?_
    refine WO.val (run_pickT rfl rfl rfl) rfl rfl rfl ?_
    refine WO.nil ?_
    refine NX.go ?_
    refine WP.condT rfl rfl ?_
    refine WP.seq ?_
    refine WP.region rfl ?_
    refine WO.val (run_assign rfl) rfl rfl rfl ?_
    refine WO.nil ?_
    refine NX.go ?_
    refine WP.ret ?_
    refine NX.thenRet ?_
    refine NX.done (l := [.tmp 8]) rfl rfl ?_
    exact ⟨rfl, hS16.drop.drop.drop.drop.drop⟩
   ·
    have hca := Decidable.of_not_not g26
    refine WO.on rfl rfl (decide_eq_false g26) ?_
    refine WO.val (run_loadAgg (vs := [Value.int .i64 my.e, Value.int .i64 my.b, Value.int .i64 my.p, Value.int .i64 my.k, Value.int .i64 my.c, Value.slice ya my.bl.length yc]) Ty.ag24 Ty.sz24 rfl rfl (cell_all (hS16.cel_at 2 rfl) 0 rfl)) rfl rfl rfl ?_
    refine WO.on rfl rfl (decide_eq_false g26) ?_
    have hS18 := hS16.permT [1, 0, 0, 0, 0] (L' := (.pure True) :: (.pure True) :: cel g4 [Value.int .i64 my.e, Value.int .i64 my.b, Value.int .i64 my.p, Value.int .i64 my.k, Value.int .i64 my.c, Value.slice ya my.bl.length yc] 24 :: cel g2 [Value.int .i64 mx.e, Value.int .i64 mx.b, Value.int .i64 mx.p, Value.int .i64 mx.k, Value.int .i64 mx.c, Value.slice xa mx.bl.length xc] 24 :: (.pure True) :: L) rfl
    clear hS16
    refine WO.call rfl rfl Ty.hd15 rfl (rcheckM_spec (m := my) (fun h => St.rdB h hB) hrb hS18) (fun v20 w19 pv20 => ?_)
    obtain ⟨rfl, hS19⟩ := pv20
    clear hS18
    refine WO.on rfl rfl (decide_eq_false g26) ?_
    refine WO.val (run_neq rfl rfl) rfl rfl rfl ?_
    refine WO.val (run_pickF rfl (decide_eq_false g26) rfl) rfl rfl rfl ?_
    refine WO.val (run_move rfl) rfl rfl rfl ?_
    by_cases g31 : ¬ (checkM my) = 0
    ·
     refine WO.off rfl rfl (decide_eq_true g31) rfl ?_
     refine WO.off rfl rfl (decide_eq_true g31) rfl ?_
     refine WO.off rfl rfl (decide_eq_true g31) rfl ?_
     refine WO.val (run_pickT rfl (decide_eq_true g31) rfl) rfl rfl rfl ?_
     refine WO.nil ?_
     refine NX.go ?_
     refine WP.condT rfl rfl ?_
     refine WP.seq ?_
     refine WP.region rfl ?_
     refine WO.val (run_assign rfl) rfl rfl rfl ?_
     refine WO.nil ?_
     refine NX.go ?_
     refine WP.ret ?_
     refine NX.thenRet ?_
     refine NX.done (l := [.tmp 8]) rfl rfl ?_
     exact ⟨rfl, hS19.drop.drop.drop.drop.drop⟩
    ·
     have hcb := Decidable.of_not_not g31
     refine WO.on rfl rfl (decide_eq_false g31) ?_
     refine WO.val (run_move rfl) rfl rfl rfl ?_
     refine WO.on rfl rfl (decide_eq_false g31) ?_
     refine WO.val (run_len rfl Tryz.underlying37 rfl) rfl rfl rfl ?_
     refine WO.on rfl rfl (decide_eq_false g31) ?_
     refine WO.val (run_gtr rfl rfl) rfl rfl rfl ?_
     refine WO.val (run_pickF rfl (decide_eq_false g31) rfl) rfl rfl rfl ?_
     refine WO.nil ?_
     refine NX.go ?_
     refine WP.condP rfl (fun g35 => ?_) (fun g35 => ?_)
     ·
      refine WP.seq ?_
      refine WP.region rfl ?_
      refine WO.val (run_assign rfl) rfl rfl rfl ?_
      refine WO.nil ?_
      refine NX.go ?_
      refine WP.ret ?_
      refine NX.thenRet ?_
      refine NX.done (l := [.tmp 8]) rfl rfl ?_
      exact ⟨rfl, hS19.drop.drop.drop.drop.drop⟩
     ·
      refine WP.skip ?_
      refine NX.go ?_
      refine WP.seq ?_
      refine WP.region rfl ?_
      refine WO.call rfl rfl Ty.hd16 rfl (dnew_spec 1048576 hS19) (fun v22 w21 pv22 => ?_)
      obtain ⟨g, rfl, hS21⟩ := pv22
      clear hS19
      have k0 : OkD (newD 1048576) 0 0 := OkD.new (by omega)
      refine WO.val (run_assign rfl) rfl rfl rfl ?_
      refine WO.nil ?_
      refine NX.go ?_
      refine WP.seq ?_
      refine WP.seq ?_
      refine WP.region rfl ?_
      refine WO.val (run_move rfl) rfl rfl rfl ?_
      refine WO.val (run_loadAgg (vs := [Value.int .i64 mx.e, Value.int .i64 mx.b, Value.int .i64 mx.p, Value.int .i64 mx.k, Value.int .i64 mx.c, Value.slice xa mx.bl.length xc]) Ty.ag24 Ty.sz24 rfl rfl (cell_all (hS21.cel_at 4 rfl) 0 rfl)) rfl rfl rfl ?_
      have hS25 := hS21.permT [2, 0, 0, 0, 0, 0] (L' := (.pure True) :: dkA g (newD 1048576) :: (.pure True) :: cel g4 [Value.int .i64 my.e, Value.int .i64 my.b, Value.int .i64 my.p, Value.int .i64 my.k, Value.int .i64 my.c, Value.slice ya my.bl.length yc] 24 :: cel g2 [Value.int .i64 mx.e, Value.int .i64 mx.b, Value.int .i64 mx.p, Value.int .i64 mx.k, Value.int .i64 mx.c, Value.slice xa mx.bl.length xc] 24 :: (.pure True) :: L) rfl
      clear hS21
      refine WO.call rfl rfl Ty.hd11 rfl (to_spec (m := mx) (fun h => St.rdB h hA) hra hS25) (fun v27 w26 pv27 => ?_)
      obtain ⟨b23, c24, rfl, hS26⟩ := pv27
      clear hS25
      have hS28 := hS26.permT [2, 0, 0, 0, 0, 0, 0] (L' := dkA g (newD 1048576) :: own b23 mx.bl.length c24 9 1 (mx.bl.map str) :: (.pure True) :: (.pure True) :: cel g4 [Value.int .i64 my.e, Value.int .i64 my.b, Value.int .i64 my.p, Value.int .i64 my.k, Value.int .i64 my.c, Value.slice ya my.bl.length yc] 24 :: cel g2 [Value.int .i64 mx.e, Value.int .i64 mx.b, Value.int .i64 mx.p, Value.int .i64 mx.k, Value.int .i64 mx.c, Value.slice xa mx.bl.length xc] 24 :: (.pure True) :: L) rfl
      clear hS26
      refine WO.call rfl rfl Ty.hd17 rfl (publish_spec (m := mx) (fun h => h.own_rd.1) hra k0 (by omega) (by omega) (by have := enc_len hra; omega) hS28) (fun v30 w29 pv30 => ?_)
      obtain ⟨hv, hS29⟩ := pv30
      clear hS28
      obtain ⟨D1, e1, ps1⟩ := PS.new.publish hra hca
      rw [e1] at hv
      rw [e1] at hS29
      change _ = Value.int .i64 0 at hv
      subst hv
      replace hS29 : St B (dkA g D1 :: own b23 mx.bl.length c24 9 1 (mx.bl.map str) :: (.pure True) :: (.pure True) :: cel g4 [Value.int .i64 my.e, Value.int .i64 my.b, Value.int .i64 my.p, Value.int .i64 my.k, Value.int .i64 my.c, Value.slice ya my.bl.length yc] 24 :: cel g2 [Value.int .i64 mx.e, Value.int .i64 mx.b, Value.int .i64 mx.p, Value.int .i64 mx.k, Value.int .i64 mx.c, Value.slice xa mx.bl.length xc] 24 :: (.pure True) :: L) w29 := hS29
      have k1 := k0.publish (enc_len hra)
      rw [e1] at k1
      refine WO.val (run_neq rfl rfl) rfl rfl rfl ?_
      refine WO.nil ?_
      refine NX.go ?_
      refine WP.condF rfl (by decide) ?_
      refine WP.skip ?_
      refine NX.go ?_
      refine WP.seq ?_
      have hS31 : St B (dkA g D1 :: (.pure True) :: (.pure True) :: cel g4 [Value.int .i64 my.e, Value.int .i64 my.b, Value.int .i64 my.p, Value.int .i64 my.k, Value.int .i64 my.c, Value.slice ya my.bl.length yc] 24 :: cel g2 [Value.int .i64 mx.e, Value.int .i64 mx.b, Value.int .i64 mx.p, Value.int .i64 mx.k, Value.int .i64 mx.c, Value.slice xa mx.bl.length xc] 24 :: (.pure True) :: L) w29 := (hS29.permT [1, 0, 0, 0, 0, 0, 0] (L' := own b23 mx.bl.length c24 9 1 (mx.bl.map str) :: dkA g D1 :: (.pure True) :: (.pure True) :: cel g4 [Value.int .i64 my.e, Value.int .i64 my.b, Value.int .i64 my.p, Value.int .i64 my.k, Value.int .i64 my.c, Value.slice ya my.bl.length yc] 24 :: cel g2 [Value.int .i64 mx.e, Value.int .i64 mx.b, Value.int .i64 mx.p, Value.int .i64 mx.k, Value.int .i64 mx.c, Value.slice xa mx.bl.length xc] 24 :: (.pure True) :: L) rfl).drop
      clear hS29
      refine WP.region rfl ?_
      refine WO.val (run_move rfl) rfl rfl rfl ?_
      refine WO.val (run_move rfl) rfl rfl rfl ?_
      refine WO.val (run_convI Tryz.underlying43 (by kernel_rfl) rfl (IntKind.wrap_u64 _)) rfl rfl rfl ?_
      refine WO.val (run_rem rfl rfl (by omega) (IntWalk.rem_in _ _ (by omega))) rfl rfl rfl ?_
      obtain ⟨n, hn⟩ : ∃ n : Nat, (n : Int) = (fz % 18446744073709551616) % 8 := ⟨((fz % 18446744073709551616) % 8).toNat, by omega⟩
      refine WO.val (run_convI Tryz.underlying3 (by kernel_rfl) rfl (show IntKind.i64.wrap ((fz % 18446744073709551616) % 8) = (n : Int) by rw [← hn]; exact IntWalk.i64_in _ (by omega))) rfl rfl rfl ?_
      refine WO.call rfl rfl Ty.hd18 rfl (dfuse_spec (n : Int) hS31) (fun v33 w32 pv33 => ?_)
      obtain ⟨rfl, hS32⟩ := pv33
      clear hS31
      refine WO.nil ?_
      refine NX.go ?_
      refine WP.seq ?_
      refine WP.region rfl ?_
      refine WO.val (run_move rfl) rfl rfl rfl ?_
      refine WO.val (run_loadAgg (vs := [Value.int .i64 my.e, Value.int .i64 my.b, Value.int .i64 my.p, Value.int .i64 my.k, Value.int .i64 my.c, Value.slice ya my.bl.length yc]) Ty.ag24 Ty.sz24 rfl rfl (cell_all (hS32.cel_at 3 rfl) 0 rfl)) rfl rfl rfl ?_
      have hS36 := hS32.permT [2, 0, 0, 0, 0, 0] (L' := (.pure True) :: dkA g (fuseD D1 (n : Int)) :: (.pure True) :: cel g4 [Value.int .i64 my.e, Value.int .i64 my.b, Value.int .i64 my.p, Value.int .i64 my.k, Value.int .i64 my.c, Value.slice ya my.bl.length yc] 24 :: cel g2 [Value.int .i64 mx.e, Value.int .i64 mx.b, Value.int .i64 mx.p, Value.int .i64 mx.k, Value.int .i64 mx.c, Value.slice xa mx.bl.length xc] 24 :: (.pure True) :: L) rfl
      clear hS32
      refine WO.call rfl rfl Ty.hd11 rfl (to_spec (m := my) (fun h => St.rdB h hB) hrb hS36) (fun v38 w37 pv38 => ?_)
      obtain ⟨b34, c35, rfl, hS37⟩ := pv38
      clear hS36
      have hS39 := hS37.permT [2, 0, 0, 0, 0, 0, 0] (L' := dkA g (fuseD D1 (n : Int)) :: own b34 my.bl.length c35 9 1 (my.bl.map str) :: (.pure True) :: (.pure True) :: cel g4 [Value.int .i64 my.e, Value.int .i64 my.b, Value.int .i64 my.p, Value.int .i64 my.k, Value.int .i64 my.c, Value.slice ya my.bl.length yc] 24 :: cel g2 [Value.int .i64 mx.e, Value.int .i64 mx.b, Value.int .i64 mx.p, Value.int .i64 mx.k, Value.int .i64 mx.c, Value.slice xa mx.bl.length xc] 24 :: (.pure True) :: L) rfl
      clear hS37
      refine WO.call rfl rfl Ty.hd17 rfl (publish_spec (m := my) (fun h => h.own_rd.1) hrb (k1.fuse (x := (n : Int)) (by omega)) (by omega) (by omega) (by have := enc_len hrb; omega) hS39) (fun v41 w40 pv41 => ?_)
      obtain ⟨hv, hS40⟩ := pv41
      clear hS39
      obtain ⟨D2, e, e2, hT⟩ := fuse_two (k := n) ps1 hrb hcb
      rw [e2] at hv
      rw [e2] at hS40
      change _ = Value.int .i64 e at hv
      subst hv
      replace hS40 : St B (dkA g D2 :: own b34 my.bl.length c35 9 1 (my.bl.map str) :: (.pure True) :: (.pure True) :: cel g4 [Value.int .i64 my.e, Value.int .i64 my.b, Value.int .i64 my.p, Value.int .i64 my.k, Value.int .i64 my.c, Value.slice ya my.bl.length yc] 24 :: cel g2 [Value.int .i64 mx.e, Value.int .i64 mx.b, Value.int .i64 mx.p, Value.int .i64 mx.k, Value.int .i64 mx.c, Value.slice xa mx.bl.length xc] 24 :: (.pure True) :: L) w40 := hS40
      have k2 := (k1.fuse (x := (n : Int)) (by omega)).publish (enc_len hrb)
      rw [e2] at k2
      refine WO.val (run_assign rfl) rfl rfl rfl ?_
      refine WO.nil ?_
      refine NX.go ?_
      refine WP.seq ?_
      have hS42 : St B (dkA g D2 :: (.pure True) :: (.pure True) :: cel g4 [Value.int .i64 my.e, Value.int .i64 my.b, Value.int .i64 my.p, Value.int .i64 my.k, Value.int .i64 my.c, Value.slice ya my.bl.length yc] 24 :: cel g2 [Value.int .i64 mx.e, Value.int .i64 mx.b, Value.int .i64 mx.p, Value.int .i64 mx.k, Value.int .i64 mx.c, Value.slice xa mx.bl.length xc] 24 :: (.pure True) :: L) w40 := (hS40.permT [1, 0, 0, 0, 0, 0, 0] (L' := own b34 my.bl.length c35 9 1 (my.bl.map str) :: dkA g D2 :: (.pure True) :: (.pure True) :: cel g4 [Value.int .i64 my.e, Value.int .i64 my.b, Value.int .i64 my.p, Value.int .i64 my.k, Value.int .i64 my.c, Value.slice ya my.bl.length yc] 24 :: cel g2 [Value.int .i64 mx.e, Value.int .i64 mx.b, Value.int .i64 mx.p, Value.int .i64 mx.k, Value.int .i64 mx.c, Value.slice xa mx.bl.length xc] 24 :: (.pure True) :: L) rfl).drop
      clear hS40
      refine WP.region rfl ?_
      refine WO.val (run_move rfl) rfl rfl rfl ?_
      refine WO.buildSlice (l := []) hS42 Tryz.underlying37 rfl (fun w => by kernel_rfl) rfl (fun g44 w43 lg44 hS43 => ?_)
      clear hS42
      have hS43 := hS43.own_of_cel (m := 0) (k := 1) rfl
      refine WO.val (run_move rfl) rfl rfl rfl ?_
      refine WO.append (news := (ri zs)) 0 rfl Tryz.underlying37 Tryz.underlying37 (fun _ h => by cases h) Ty.sz3 (by decide) Ty.by3 Ty.zr3 rfl rfl rfl rfl hS43 rfl (((fun h => St.rdB h hK) (hS43.focus 6 rfl)).src) (ri_noAgg _) (by omega) (by omega) (fun a46 c47 w45 hS45 => ?_)
      replace hS45 : St B (own a46 zs.length c47 3 1 (ri zs) :: dkA g D2 :: (.pure True) :: (.pure True) :: cel g4 [Value.int .i64 my.e, Value.int .i64 my.b, Value.int .i64 my.p, Value.int .i64 my.k, Value.int .i64 my.c, Value.slice ya my.bl.length yc] 24 :: cel g2 [Value.int .i64 mx.e, Value.int .i64 mx.b, Value.int .i64 mx.p, Value.int .i64 mx.k, Value.int .i64 mx.c, Value.slice xa mx.bl.length xc] 24 :: (.pure True) :: L) w45 := (by have z := hS45; rw [Nat.zero_add] at z; exact z)
      refine WO.as (d := 55) (v := Value.slice a46 zs.length c47) rfl (by rw [Nat.zero_add]) ?_
      clear hS43
      have hcap := hS45.own_le_i 0 rfl
      have hS48 := hS45.permT [1, 0, 0, 0, 0, 0, 0] (L' := dkA g D2 :: own a46 zs.length c47 3 1 (ri zs) :: (.pure True) :: (.pure True) :: cel g4 [Value.int .i64 my.e, Value.int .i64 my.b, Value.int .i64 my.p, Value.int .i64 my.k, Value.int .i64 my.c, Value.slice ya my.bl.length yc] 24 :: cel g2 [Value.int .i64 mx.e, Value.int .i64 mx.b, Value.int .i64 mx.p, Value.int .i64 mx.k, Value.int .i64 mx.c, Value.slice xa mx.bl.length xc] 24 :: (.pure True) :: L) rfl
      clear hS45
      refine WO.call rfl rfl Ty.hd19 rfl (dcrash_spec (zs := zs) k2.w k2.b (by omega) (by omega) (fun h => h.own_rd.1) (by omega) (by omega) hS48) (fun v50 w49 pv50 => ?_)
      obtain ⟨rfl, hS49⟩ := pv50
      clear hS48
      refine WO.nil ?_
      refine NX.go ?_
      refine WP.seq ?_
      refine WP.region rfl ?_
      refine WO.val (run_move rfl) rfl rfl rfl ?_
      obtain ⟨mq, hl0, hcase⟩ := hT zs
      refine WO.call rfl rfl Ty.hd20 rfl (load_spec (k2.crash (zs := zs)) (by omega) hS49) (fun v54 w53 pv54 => ?_)
      obtain ⟨lb51, ld52, hv, hrq, hS53⟩ := pv54
      clear hS49
      rw [hl0] at hv
      rw [hl0] at hS53
      rw [hl0] at hrq
      change _ = Value.tuple #[Value.agg #[Value.int .i64 mq.e, Value.int .i64 mq.b, Value.int .i64 mq.p, Value.int .i64 mq.k, Value.int .i64 mq.c, Value.slice lb51 mq.bl.length ld52], Value.int .i64 0] at hv
      subst hv
      replace hS53 : St B (own lb51 mq.bl.length ld52 9 1 (mq.bl.map str) :: dkA g (crashD D2 zs) :: own a46 zs.length c47 3 1 (ri zs) :: (.pure True) :: (.pure True) :: cel g4 [Value.int .i64 my.e, Value.int .i64 my.b, Value.int .i64 my.p, Value.int .i64 my.k, Value.int .i64 my.c, Value.slice ya my.bl.length yc] 24 :: cel g2 [Value.int .i64 mx.e, Value.int .i64 mx.b, Value.int .i64 mx.p, Value.int .i64 mx.k, Value.int .i64 mx.c, Value.slice xa mx.bl.length xc] 24 :: (.pure True) :: L) w53 := hS53
      replace hrq : RngM mq := hrq
      refine WO.val (run_move rfl) rfl rfl rfl ?_
      refine WO.val (run_extract rfl rfl) rfl rfl rfl ?_
      refine WO.val (run_extract rfl rfl) rfl rfl rfl ?_
      refine WO.alloc (l := [Value.int .i64 0, Value.int .i64 0, Value.int .i64 0, Value.int .i64 0, Value.int .i64 0, Value.slice none 0 0]) hS53 Ty.zr30 rfl rfl (fun g56 w55 lg56 hS55 => ?_)
      clear hS53
      refine WO.store (l' := [Value.int .i64 mq.e, Value.int .i64 mq.b, Value.int .i64 mq.p, Value.int .i64 mq.k, Value.int .i64 mq.c, Value.slice lb51 mq.bl.length ld52]) 0 hS55 rfl Ty.sz30 rfl rfl rfl rfl rfl (Nat.le_of_ble_eq_true rfl) rfl (fun w57 (hS57 : St B (cel g56 [Value.int .i64 mq.e, Value.int .i64 mq.b, Value.int .i64 mq.p, Value.int .i64 mq.k, Value.int .i64 mq.c, Value.slice lb51 mq.bl.length ld52] 30 :: own lb51 mq.bl.length ld52 9 1 (mq.bl.map str) :: dkA g (crashD D2 zs) :: own a46 zs.length c47 3 1 (ri zs) :: (.pure True) :: (.pure True) :: cel g4 [Value.int .i64 my.e, Value.int .i64 my.b, Value.int .i64 my.p, Value.int .i64 my.k, Value.int .i64 my.c, Value.slice ya my.bl.length yc] 24 :: cel g2 [Value.int .i64 mx.e, Value.int .i64 mx.b, Value.int .i64 mx.p, Value.int .i64 mx.k, Value.int .i64 mx.c, Value.slice xa mx.bl.length xc] 24 :: (.pure True) :: L) w57) => ?_)
      clear hS55
      refine WO.val (run_assign rfl) rfl rfl rfl ?_
      refine WO.nil ?_
      refine NX.go ?_
      refine WP.seq ?_
      refine WP.seq ?_
      refine WP.region rfl ?_
      refine WO.val (run_move rfl) rfl rfl rfl ?_
      refine WO.val (run_neq rfl rfl) rfl rfl rfl ?_
      refine WO.nil ?_
      refine NX.go ?_
      refine WP.condF rfl (by decide) ?_
      refine WP.skip ?_
      refine NX.go ?_
      refine WP.seq ?_
      refine WP.seq ?_
      have hS58 : St B (cel g56 [Value.int .i64 mq.e, Value.int .i64 mq.b, Value.int .i64 mq.p, Value.int .i64 mq.k, Value.int .i64 mq.c, Value.slice lb51 mq.bl.length ld52] 30 :: own lb51 mq.bl.length ld52 9 1 (mq.bl.map str) :: (.pure True) :: (.pure True) :: cel g4 [Value.int .i64 my.e, Value.int .i64 my.b, Value.int .i64 my.p, Value.int .i64 my.k, Value.int .i64 my.c, Value.slice ya my.bl.length yc] 24 :: cel g2 [Value.int .i64 mx.e, Value.int .i64 mx.b, Value.int .i64 mx.p, Value.int .i64 mx.k, Value.int .i64 mx.c, Value.slice xa mx.bl.length xc] 24 :: L) w57 := (hS57.permT [2, 2, 6, 0, 0, 0, 0, 0, 0] (L' := dkA g (crashD D2 zs) :: own a46 zs.length c47 3 1 (ri zs) :: (.pure True) :: cel g56 [Value.int .i64 mq.e, Value.int .i64 mq.b, Value.int .i64 mq.p, Value.int .i64 mq.k, Value.int .i64 mq.c, Value.slice lb51 mq.bl.length ld52] 30 :: own lb51 mq.bl.length ld52 9 1 (mq.bl.map str) :: (.pure True) :: (.pure True) :: cel g4 [Value.int .i64 my.e, Value.int .i64 my.b, Value.int .i64 my.p, Value.int .i64 my.k, Value.int .i64 my.c, Value.slice ya my.bl.length yc] 24 :: cel g2 [Value.int .i64 mx.e, Value.int .i64 mx.b, Value.int .i64 mx.p, Value.int .i64 mx.k, Value.int .i64 mx.c, Value.slice xa mx.bl.length xc] 24 :: L) rfl).drop.drop.drop
      clear hS57
      refine WP.region rfl ?_
      refine WO.val (run_move rfl) rfl rfl rfl ?_
      refine WO.val (run_eql rfl rfl) rfl rfl rfl ?_
      refine WO.nil ?_
      refine NX.go ?_
      refine WP.condP rfl (fun g65 => ?_) (fun g65 => ?_)
      ·
       have hmb : mq = my := by rcases hcase with h0 | h0; exact h0.2; omega
       refine WP.seq ?_
       refine WD.start (fun w => (∀ j, World.cell? w ⟨g56, j, none⟩ = [Value.int .i64 mq.e, Value.int .i64 mq.b, Value.int .i64 mq.p, Value.int .i64 mq.k, Value.int .i64 mq.c, Value.slice lb51 mq.bl.length ld52][j]?) ∧ (∀ j, World.cell? w ⟨g4, j, none⟩ = [Value.int .i64 my.e, Value.int .i64 my.b, Value.int .i64 my.p, Value.int .i64 my.k, Value.int .i64 my.c, Value.slice ya my.bl.length yc][j]?) ∧ (∀ j, World.cell? w ⟨g2, j, none⟩ = [Value.int .i64 mx.e, Value.int .i64 mx.b, Value.int .i64 mx.p, Value.int .i64 mx.k, Value.int .i64 mx.c, Value.slice xa mx.bl.length xc][j]?)) [] #[false, false, false, false, false] Ty.mo rfl (by kernel_rfl) hS58 (fun _ h => ⟨h.cel_at 0 rfl, h.cel_at 4 rfl, h.cel_at 5 rfl⟩) (fun w59 hS59 s60 => ?_)
       clear hS58
       refine WD.take (i := 0) manifestEither_core_t15 #[true, false, false, false, false] s60 rfl rfl rfl (by kernel_rfl) (PQ.then (PQ.then PQ.body)) rfl (fun w hs => run_loadAgg (vs := [Value.int .i64 mq.e, Value.int .i64 mq.b, Value.int .i64 mq.p, Value.int .i64 mq.k, Value.int .i64 mq.c, Value.slice lb51 mq.bl.length ld52]) Ty.ag30 Ty.sz30 rfl rfl (cell_all (hs.1) 0 rfl)) ?_
       refine WD.take (i := 2) manifestEither_core_t15 #[true, false, true, false, false] s60 rfl rfl rfl (by kernel_rfl) (PQ.then (PQ.then PQ.body)) rfl (fun w hs => run_loadAgg (vs := [Value.int .i64 my.e, Value.int .i64 my.b, Value.int .i64 my.p, Value.int .i64 my.k, Value.int .i64 my.c, Value.slice ya my.bl.length yc]) Ty.ag24 Ty.sz24 rfl rfl (cell_all (hs.2.1) 0 rfl)) ?_
       refine WD.one (i := 1) manifestEither_core_t15 #[true, true, true, false, false] rfl (by kernel_rfl) ?_
       refine WO.call rfl rfl Ty.hd14 rfl (from_spec (m := mq) hS59) (fun v62 w61 pv62 => ?_)
       obtain ⟨rfl, hS61⟩ := pv62
       clear hS59
       refine WO.nil ?_
       have s63 : (∀ j, World.cell? w61 ⟨g56, j, none⟩ = [Value.int .i64 mq.e, Value.int .i64 mq.b, Value.int .i64 mq.p, Value.int .i64 mq.k, Value.int .i64 mq.c, Value.slice lb51 mq.bl.length ld52][j]?) ∧ (∀ j, World.cell? w61 ⟨g4, j, none⟩ = [Value.int .i64 my.e, Value.int .i64 my.b, Value.int .i64 my.p, Value.int .i64 my.k, Value.int .i64 my.c, Value.slice ya my.bl.length yc][j]?) ∧ (∀ j, World.cell? w61 ⟨g2, j, none⟩ = [Value.int .i64 mx.e, Value.int .i64 mx.b, Value.int .i64 mx.p, Value.int .i64 mx.k, Value.int .i64 mx.c, Value.slice xa mx.bl.length xc][j]?) := ⟨hS61.cel_at 0 rfl, hS61.cel_at 4 rfl, hS61.cel_at 5 rfl⟩
       refine NX.held s63 ?_
       refine WD.one (i := 3) manifestEither_core_t15 #[true, true, true, true, false] rfl (by kernel_rfl) ?_
       have hS64 := hS61.permT [1, 1, 0, 0, 0, 0] (L' := own lb51 mq.bl.length ld52 9 1 (mq.bl.map str) :: (.pure True) :: cel g56 [Value.int .i64 mq.e, Value.int .i64 mq.b, Value.int .i64 mq.p, Value.int .i64 mq.k, Value.int .i64 mq.c, Value.slice lb51 mq.bl.length ld52] 30 :: (.pure True) :: cel g4 [Value.int .i64 my.e, Value.int .i64 my.b, Value.int .i64 my.p, Value.int .i64 my.k, Value.int .i64 my.c, Value.slice ya my.bl.length yc] 24 :: cel g2 [Value.int .i64 mx.e, Value.int .i64 mx.b, Value.int .i64 mx.p, Value.int .i64 mx.k, Value.int .i64 mx.c, Value.slice xa mx.bl.length xc] 24 :: L) rfl
       clear hS61
       refine WO.call rfl rfl Ty.hd13 rfl (rsame_spec (m := mq) (n := my) (fun h => h.own_rd.1) (fun h => St.rdB h hB) hrq hrb hS64) (fun v66 w65 pv66 => ?_)
       obtain ⟨rfl, hS65⟩ := pv66
       clear hS64
       refine WO.nil ?_
       have s67 : (∀ j, World.cell? w65 ⟨g56, j, none⟩ = [Value.int .i64 mq.e, Value.int .i64 mq.b, Value.int .i64 mq.p, Value.int .i64 mq.k, Value.int .i64 mq.c, Value.slice lb51 mq.bl.length ld52][j]?) ∧ (∀ j, World.cell? w65 ⟨g4, j, none⟩ = [Value.int .i64 my.e, Value.int .i64 my.b, Value.int .i64 my.p, Value.int .i64 my.k, Value.int .i64 my.c, Value.slice ya my.bl.length yc][j]?) ∧ (∀ j, World.cell? w65 ⟨g2, j, none⟩ = [Value.int .i64 mx.e, Value.int .i64 mx.b, Value.int .i64 mx.p, Value.int .i64 mx.k, Value.int .i64 mx.c, Value.slice xa mx.bl.length xc][j]?) := ⟨hS65.cel_at 2 rfl, hS65.cel_at 4 rfl, hS65.cel_at 5 rfl⟩
       refine NX.held s67 ?_
       refine WD.pure (i := 4) manifestEither_core_t15 #[true, true, true, true, true] rfl rfl rfl (by kernel_rfl) (PQ.then (PQ.then PQ.body)) rfl (fun w => run_assign rfl) ?_
       refine WD.done manifestEither_core_t15 (by kernel_rfl) ?_
       refine NX.go ?_
       refine WP.ret ?_
       refine NX.thenRet ?_
       refine NX.done (l := [.tmp 8]) rfl rfl ?_
       exact ⟨congrArg Value.bool (decide_eq_true hmb), hS65.drop.drop.drop.drop.drop.drop⟩
      ·
       have he11 : e = 11 := by rcases hcase with h0 | h0; omega; exact h0.1
       have hmb2 : ¬ mq = mx → mq = my := fun hne => by rcases hcase with h0 | h0; exact h0.2; exact h0.2.resolve_left hne
       refine WP.skip ?_
       refine NX.go ?_
       refine WP.seq ?_
       refine WD.start (fun w => (∀ j, World.cell? w ⟨g56, j, none⟩ = [Value.int .i64 mq.e, Value.int .i64 mq.b, Value.int .i64 mq.p, Value.int .i64 mq.k, Value.int .i64 mq.c, Value.slice lb51 mq.bl.length ld52][j]?) ∧ (∀ j, World.cell? w ⟨g4, j, none⟩ = [Value.int .i64 my.e, Value.int .i64 my.b, Value.int .i64 my.p, Value.int .i64 my.k, Value.int .i64 my.c, Value.slice ya my.bl.length yc][j]?) ∧ (∀ j, World.cell? w ⟨g2, j, none⟩ = [Value.int .i64 mx.e, Value.int .i64 mx.b, Value.int .i64 mx.p, Value.int .i64 mx.k, Value.int .i64 mx.c, Value.slice xa mx.bl.length xc][j]?)) [] #[false, false, false, false, false, false, false, false, false, false, false, false, false, false, false] Ty.mo rfl (by kernel_rfl) hS58 (fun _ h => ⟨h.cel_at 0 rfl, h.cel_at 4 rfl, h.cel_at 5 rfl⟩) (fun w68 hS68 s69 => ?_)
       clear hS58
       refine WD.pure (i := 0) manifestEither_core_t16 #[true, false, false, false, false, false, false, false, false, false, false, false, false, false, false] rfl rfl rfl (by kernel_rfl) (PQ.then PQ.body) rfl (fun w => run_move rfl) ?_
       refine WD.pure (i := 1) manifestEither_core_t16 #[true, true, false, false, false, false, false, false, false, false, false, false, false, false, false] rfl rfl rfl (by kernel_rfl) (PQ.then PQ.body) rfl (fun w => run_eql rfl rfl) ?_
       refine WD.pure (i := 2) manifestEither_core_t16 #[true, true, true, false, false, false, false, false, false, false, false, false, false, false, false] rfl rfl rfl (by kernel_rfl) (PQ.then PQ.body) rfl (fun w => run_move rfl) ?_
       by_cases g72 : e = 11
       ·
        refine WD.takeOn (i := 3) manifestEither_core_t16 #[true, true, true, true, false, false, false, false, false, false, false, false, false, false, false] s69 rfl rfl rfl (decide_eq_true g72) (by kernel_rfl) (PQ.then PQ.body) rfl (fun w hs => run_loadAgg (vs := [Value.int .i64 mq.e, Value.int .i64 mq.b, Value.int .i64 mq.p, Value.int .i64 mq.k, Value.int .i64 mq.c, Value.slice lb51 mq.bl.length ld52]) Ty.ag30 Ty.sz30 rfl rfl (cell_all (hs.1) 0 rfl)) ?_
        refine WD.takeOn (i := 5) manifestEither_core_t16 #[true, true, true, true, false, true, false, false, false, false, false, false, false, false, false] s69 rfl rfl rfl (decide_eq_true g72) (by kernel_rfl) (PQ.then PQ.body) rfl (fun w hs => run_loadAgg (vs := [Value.int .i64 mx.e, Value.int .i64 mx.b, Value.int .i64 mx.p, Value.int .i64 mx.k, Value.int .i64 mx.c, Value.slice xa mx.bl.length xc]) Ty.ag24 Ty.sz24 rfl rfl (cell_all (hs.2.2) 0 rfl)) ?_
        refine WD.one (i := 4) manifestEither_core_t16 #[true, true, true, true, true, true, false, false, false, false, false, false, false, false, false] rfl (by kernel_rfl) ?_
        refine WO.on rfl rfl (decide_eq_true g72) ?_
        refine WO.call rfl rfl Ty.hd14 rfl (from_spec (m := mq) hS68) (fun v71 w70 pv71 => ?_)
        obtain ⟨rfl, hS70⟩ := pv71
        clear hS68
        refine WO.nil ?_
        have s72 : (∀ j, World.cell? w70 ⟨g56, j, none⟩ = [Value.int .i64 mq.e, Value.int .i64 mq.b, Value.int .i64 mq.p, Value.int .i64 mq.k, Value.int .i64 mq.c, Value.slice lb51 mq.bl.length ld52][j]?) ∧ (∀ j, World.cell? w70 ⟨g4, j, none⟩ = [Value.int .i64 my.e, Value.int .i64 my.b, Value.int .i64 my.p, Value.int .i64 my.k, Value.int .i64 my.c, Value.slice ya my.bl.length yc][j]?) ∧ (∀ j, World.cell? w70 ⟨g2, j, none⟩ = [Value.int .i64 mx.e, Value.int .i64 mx.b, Value.int .i64 mx.p, Value.int .i64 mx.k, Value.int .i64 mx.c, Value.slice xa mx.bl.length xc][j]?) := ⟨hS70.cel_at 0 rfl, hS70.cel_at 4 rfl, hS70.cel_at 5 rfl⟩
        refine NX.held s72 ?_
        refine WD.one (i := 6) manifestEither_core_t16 #[true, true, true, true, true, true, true, false, false, false, false, false, false, false, false] rfl (by kernel_rfl) ?_
        refine WO.on rfl rfl (decide_eq_true g72) ?_
        have hS73 := hS70.permT [1, 2, 0, 0, 0, 0] (L' := own lb51 mq.bl.length ld52 9 1 (mq.bl.map str) :: (.pure True) :: cel g56 [Value.int .i64 mq.e, Value.int .i64 mq.b, Value.int .i64 mq.p, Value.int .i64 mq.k, Value.int .i64 mq.c, Value.slice lb51 mq.bl.length ld52] 30 :: (.pure True) :: cel g4 [Value.int .i64 my.e, Value.int .i64 my.b, Value.int .i64 my.p, Value.int .i64 my.k, Value.int .i64 my.c, Value.slice ya my.bl.length yc] 24 :: cel g2 [Value.int .i64 mx.e, Value.int .i64 mx.b, Value.int .i64 mx.p, Value.int .i64 mx.k, Value.int .i64 mx.c, Value.slice xa mx.bl.length xc] 24 :: L) rfl
        clear hS70
        refine WO.call rfl rfl Ty.hd13 rfl (rsame_spec (m := mq) (n := mx) (fun h => h.own_rd.1) (fun h => St.rdB h hA) hrq hra hS73) (fun v75 w74 pv75 => ?_)
        obtain ⟨rfl, hS74⟩ := pv75
        clear hS73
        refine WO.nil ?_
        have s76 : (∀ j, World.cell? w74 ⟨g56, j, none⟩ = [Value.int .i64 mq.e, Value.int .i64 mq.b, Value.int .i64 mq.p, Value.int .i64 mq.k, Value.int .i64 mq.c, Value.slice lb51 mq.bl.length ld52][j]?) ∧ (∀ j, World.cell? w74 ⟨g4, j, none⟩ = [Value.int .i64 my.e, Value.int .i64 my.b, Value.int .i64 my.p, Value.int .i64 my.k, Value.int .i64 my.c, Value.slice ya my.bl.length yc][j]?) ∧ (∀ j, World.cell? w74 ⟨g2, j, none⟩ = [Value.int .i64 mx.e, Value.int .i64 mx.b, Value.int .i64 mx.p, Value.int .i64 mx.k, Value.int .i64 mx.c, Value.slice xa mx.bl.length xc][j]?) := ⟨hS74.cel_at 2 rfl, hS74.cel_at 4 rfl, hS74.cel_at 5 rfl⟩
        refine NX.held s76 ?_
        refine WD.pureOn (i := 7) manifestEither_core_t16 #[true, true, true, true, true, true, true, true, false, false, false, false, false, false, false] rfl rfl rfl (decide_eq_true g72) (by kernel_rfl) (PQ.then PQ.body) rfl (fun w => run_move rfl) ?_
        rcases Bool.eq_false_or_eq_true (decide (mq = mx)) with g77 | g77
        ·
         refine WD.off (i := 8) manifestEither_core_t16 #[true, true, true, true, true, true, true, true, true, false, false, false, false, false, false] rfl rfl rfl g77 (by kernel_rfl) (PQ.then PQ.body) rfl ?_
         refine WD.off (i := 9) manifestEither_core_t16 #[true, true, true, true, true, true, true, true, true, true, false, false, false, false, false] rfl rfl rfl g77 (by kernel_rfl) (PQ.then PQ.body) rfl ?_
         refine WD.off (i := 10) manifestEither_core_t16 #[true, true, true, true, true, true, true, true, true, true, true, false, false, false, false] rfl rfl rfl g77 (by kernel_rfl) (PQ.then PQ.body) rfl ?_
         refine WD.off (i := 11) manifestEither_core_t16 #[true, true, true, true, true, true, true, true, true, true, true, true, false, false, false] rfl rfl rfl g77 (by kernel_rfl) (PQ.then PQ.body) rfl ?_
         refine WD.pureOn (i := 12) manifestEither_core_t16 #[true, true, true, true, true, true, true, true, true, true, true, true, true, false, false] rfl rfl rfl (decide_eq_true g72) (by kernel_rfl) (PQ.then PQ.body) rfl (fun w => run_pickT rfl g77 rfl) ?_
         refine WD.pure (i := 13) manifestEither_core_t16 #[true, true, true, true, true, true, true, true, true, true, true, true, true, true, false] rfl rfl rfl (by kernel_rfl) (PQ.then PQ.body) rfl (fun w => run_pickT rfl (decide_eq_true g72) rfl) ?_
         refine WD.pure (i := 14) manifestEither_core_t16 #[true, true, true, true, true, true, true, true, true, true, true, true, true, true, true] rfl rfl rfl (by kernel_rfl) (PQ.then PQ.body) rfl (fun w => run_assign rfl) ?_
         refine WD.done manifestEither_core_t16 (by kernel_rfl) ?_
         refine NX.go ?_
         refine WP.ret ?_
         refine NX.done (l := [.tmp 8]) rfl rfl ?_
         exact ⟨rfl, hS74.drop.drop.drop.drop.drop.drop⟩
        ·
         refine WD.takeOn (i := 8) manifestEither_core_t16 #[true, true, true, true, true, true, true, true, true, false, false, false, false, false, false] s76 rfl rfl rfl g77 (by kernel_rfl) (PQ.then PQ.body) rfl (fun w hs => run_loadAgg (vs := [Value.int .i64 mq.e, Value.int .i64 mq.b, Value.int .i64 mq.p, Value.int .i64 mq.k, Value.int .i64 mq.c, Value.slice lb51 mq.bl.length ld52]) Ty.ag30 Ty.sz30 rfl rfl (cell_all (hs.1) 0 rfl)) ?_
         refine WD.takeOn (i := 10) manifestEither_core_t16 #[true, true, true, true, true, true, true, true, true, false, true, false, false, false, false] s76 rfl rfl rfl g77 (by kernel_rfl) (PQ.then PQ.body) rfl (fun w hs => run_loadAgg (vs := [Value.int .i64 my.e, Value.int .i64 my.b, Value.int .i64 my.p, Value.int .i64 my.k, Value.int .i64 my.c, Value.slice ya my.bl.length yc]) Ty.ag24 Ty.sz24 rfl rfl (cell_all (hs.2.1) 0 rfl)) ?_
         refine WD.one (i := 9) manifestEither_core_t16 #[true, true, true, true, true, true, true, true, true, true, true, false, false, false, false] rfl (by kernel_rfl) ?_
         refine WO.on rfl rfl g77 ?_
         refine WO.call rfl rfl Ty.hd14 rfl (from_spec (m := mq) hS74) (fun v78 w77 pv78 => ?_)
         obtain ⟨rfl, hS77⟩ := pv78
         clear hS74
         refine WO.nil ?_
         have s79 : (∀ j, World.cell? w77 ⟨g56, j, none⟩ = [Value.int .i64 mq.e, Value.int .i64 mq.b, Value.int .i64 mq.p, Value.int .i64 mq.k, Value.int .i64 mq.c, Value.slice lb51 mq.bl.length ld52][j]?) ∧ (∀ j, World.cell? w77 ⟨g4, j, none⟩ = [Value.int .i64 my.e, Value.int .i64 my.b, Value.int .i64 my.p, Value.int .i64 my.k, Value.int .i64 my.c, Value.slice ya my.bl.length yc][j]?) ∧ (∀ j, World.cell? w77 ⟨g2, j, none⟩ = [Value.int .i64 mx.e, Value.int .i64 mx.b, Value.int .i64 mx.p, Value.int .i64 mx.k, Value.int .i64 mx.c, Value.slice xa mx.bl.length xc][j]?) := ⟨hS77.cel_at 2 rfl, hS77.cel_at 4 rfl, hS77.cel_at 5 rfl⟩
         refine NX.held s79 ?_
         refine WD.one (i := 11) manifestEither_core_t16 #[true, true, true, true, true, true, true, true, true, true, true, true, false, false, false] rfl (by kernel_rfl) ?_
         refine WO.on rfl rfl g77 ?_
         have hS80 := hS77.permT [0, 2, 0, 0, 0, 0] (L' := own lb51 mq.bl.length ld52 9 1 (mq.bl.map str) :: (.pure True) :: (.pure True) :: cel g56 [Value.int .i64 mq.e, Value.int .i64 mq.b, Value.int .i64 mq.p, Value.int .i64 mq.k, Value.int .i64 mq.c, Value.slice lb51 mq.bl.length ld52] 30 :: cel g4 [Value.int .i64 my.e, Value.int .i64 my.b, Value.int .i64 my.p, Value.int .i64 my.k, Value.int .i64 my.c, Value.slice ya my.bl.length yc] 24 :: cel g2 [Value.int .i64 mx.e, Value.int .i64 mx.b, Value.int .i64 mx.p, Value.int .i64 mx.k, Value.int .i64 mx.c, Value.slice xa mx.bl.length xc] 24 :: L) rfl
         clear hS77
         refine WO.call rfl rfl Ty.hd13 rfl (rsame_spec (m := mq) (n := my) (fun h => h.own_rd.1) (fun h => St.rdB h hB) hrq hrb hS80) (fun v82 w81 pv82 => ?_)
         obtain ⟨rfl, hS81⟩ := pv82
         clear hS80
         refine WO.nil ?_
         have s83 : (∀ j, World.cell? w81 ⟨g56, j, none⟩ = [Value.int .i64 mq.e, Value.int .i64 mq.b, Value.int .i64 mq.p, Value.int .i64 mq.k, Value.int .i64 mq.c, Value.slice lb51 mq.bl.length ld52][j]?) ∧ (∀ j, World.cell? w81 ⟨g4, j, none⟩ = [Value.int .i64 my.e, Value.int .i64 my.b, Value.int .i64 my.p, Value.int .i64 my.k, Value.int .i64 my.c, Value.slice ya my.bl.length yc][j]?) ∧ (∀ j, World.cell? w81 ⟨g2, j, none⟩ = [Value.int .i64 mx.e, Value.int .i64 mx.b, Value.int .i64 mx.p, Value.int .i64 mx.k, Value.int .i64 mx.c, Value.slice xa mx.bl.length xc][j]?) := ⟨hS81.cel_at 3 rfl, hS81.cel_at 4 rfl, hS81.cel_at 5 rfl⟩
         refine NX.held s83 ?_
         refine WD.pureOn (i := 12) manifestEither_core_t16 #[true, true, true, true, true, true, true, true, true, true, true, true, true, false, false] rfl rfl rfl (decide_eq_true g72) (by kernel_rfl) (PQ.then PQ.body) rfl (fun w => run_pickF rfl g77 rfl) ?_
         refine WD.pure (i := 13) manifestEither_core_t16 #[true, true, true, true, true, true, true, true, true, true, true, true, true, true, false] rfl rfl rfl (by kernel_rfl) (PQ.then PQ.body) rfl (fun w => run_pickT rfl (decide_eq_true g72) rfl) ?_
         refine WD.pure (i := 14) manifestEither_core_t16 #[true, true, true, true, true, true, true, true, true, true, true, true, true, true, true] rfl rfl rfl (by kernel_rfl) (PQ.then PQ.body) rfl (fun w => run_assign rfl) ?_
         refine WD.done manifestEither_core_t16 (by kernel_rfl) ?_
         refine NX.go ?_
         refine WP.ret ?_
         refine NX.done (l := [.tmp 8]) rfl rfl ?_
         exact ⟨congrArg Value.bool (decide_eq_true (hmb2 (of_decide_eq_false g77))), hS81.drop.drop.drop.drop.drop.drop⟩
       ·
        exfalso; exact g72 he11
end Go.Proofs.YtcehlnpbdffdhaaGreatDoor.SL
