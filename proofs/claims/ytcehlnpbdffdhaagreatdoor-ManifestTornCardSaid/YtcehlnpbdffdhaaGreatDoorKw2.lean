/- Manifests: the one of a new node; are two the same: the reference. -/
import Derived.Test.YtcehlnpbdffdhaaGreatDoorKw
namespace Go.Proofs.YtcehlnpbdffdhaaGreatDoor.SL
open Go.RowKit Go.Proofs.YtcehlnpbdffdhaaGreatDoor
open Go.Proofs.YtcehlnpbdffdhaaGreatDoorW.PrintLast (rtab opsOf)
set_option linter.unusedVariables false
set_option linter.unusedSimpArgs false

def noneM : Man := ⟨1, 0, 1, -9223372036854775808, 0, []⟩
theorem man_eq {m n : Man} (h1 : ¬ ¬ m.e = n.e) (h2 : ¬ ¬ m.b = n.b) (h3 : ¬ ¬ m.p = n.p) (h4 : ¬ ¬ m.k = n.k) (h5 : ¬ ¬ m.c = n.c) (h6 : m.bl = n.bl) : m = n := by
  replace h1 := Decidable.of_not_not h1
  replace h2 := Decidable.of_not_not h2
  replace h3 := Decidable.of_not_not h3
  replace h4 := Decidable.of_not_not h4
  replace h5 := Decidable.of_not_not h5
  cases m; cases n
  simp only at h1 h2 h3 h4 h5 h6
  subst h1; subst h2; subst h3; subst h4; subst h5; subst h6; rfl
theorem take_same {α : Type} {l k : List α} {i : Nat} {x y : α} (h : l.take i = k.take i) (hx : l[i]? = some x) (hy : k[i]? = some y) (e : x = y) : l.take (i + 1) = k.take (i + 1) := by
  rw [List.take_add_one, List.take_add_one, h, hx, hy, e]
theorem rnone_spec {B w : World} {L : List HP} (hS : St B L w) : Does Tryz.prog 21 [] w (fun v w1 => v = manV noneM none 0 ∧ St B L w1) := by
 refine enter (n := 2) Tryz.func21 rfl rfl [] rfl ?_
 refine WP.seq ?_
 refine WP.region rfl ?_
 refine WO.alloc (l := [Value.int .i64 0, Value.int .i64 0, Value.int .i64 0, Value.int .i64 0, Value.int .i64 0, Value.slice none 0 0]) hS Ty.zr24 rfl rfl (fun g2 w1 lg2 hS1 => ?_)
 clear hS
 refine WO.nil ?_
 refine NX.go ?_
 refine WP.seq ?_
 refine WP.region rfl ?_
 refine WO.val (run_build (v := Value.agg #[Value.int .i64 1, Value.int .i64 0, Value.int .i64 1, Value.int .i64 (-9223372036854775808), Value.int .i64 0, Value.slice none 0 0]) rfl (fun w => by kernel_rfl)) rfl rfl rfl ?_
 refine WO.store (l' := [Value.int .i64 1, Value.int .i64 0, Value.int .i64 1, Value.int .i64 (-9223372036854775808), Value.int .i64 0, Value.slice none 0 0]) 0 hS1 rfl Ty.sz24 rfl rfl rfl rfl rfl (Nat.le_of_ble_eq_true rfl) rfl (fun w3 (hS3 : St B (cel g2 [Value.int .i64 1, Value.int .i64 0, Value.int .i64 1, Value.int .i64 (-9223372036854775808), Value.int .i64 0, Value.slice none 0 0] 24 :: L) w3) => ?_)
 clear hS1
 refine WO.nil ?_
 refine NX.go ?_
 refine WP.ret ?_
 refine NX.doneC (l := [.cell 0 24]) rfl (.cons (.cell rfl (loadVar_agg (vs := [Value.int .i64 1, Value.int .i64 0, Value.int .i64 1, Value.int .i64 (-9223372036854775808), Value.int .i64 0, Value.slice none 0 0]) Ty.ag24 Ty.sz24 rfl (cell_all (hS3.cel_at 0 rfl) 0 rfl))) .nil) ?_
 exact ⟨rfl, hS3.drop⟩
theorem rsame_spec_t6 : rtab .any (opsOf Tryz.f13 6) = (true, [([], []), ([0], [0]), ([], []), ([1, 2], [1, 2]), ([3], [3]), ([], []), ([5], [5]), ([], []), ([6, 7], [6, 7]), ([8], [8]), ([4, 9], [4, 9])]) := by kernel_rfl
theorem rsame_spec {B w : World} {L : List HP} {X Y : HP} {a b : Option Addr} {cap cap2 : Nat} {m n : Man} (hX : ∀ {L : List HP} {w : World}, St B (X :: L) w → Rd w a m.bl.length 1 (m.bl.map str)) (hY : ∀ {L : List HP} {w : World}, St B (Y :: L) w → Rd w b n.bl.length 1 (n.bl.map str)) (hm : RngM m) (hn : RngM n) (hS : St B (X :: Y :: L) w) : Does Tryz.prog 13 [Value.agg #[Value.int .i64 m.e, Value.int .i64 m.b, Value.int .i64 m.p, Value.int .i64 m.k, Value.int .i64 m.c, Value.slice a m.bl.length cap], Value.agg #[Value.int .i64 n.e, Value.int .i64 n.b, Value.int .i64 n.p, Value.int .i64 n.k, Value.int .i64 n.c, Value.slice b n.bl.length cap2]] w (fun v w1 => v = .bool (decide (m = n)) ∧ St B (X :: Y :: L) w1) := by
 refine enter (n := 66) Tryz.func13 rfl rfl [Value.agg #[Value.int .i64 m.e, Value.int .i64 m.b, Value.int .i64 m.p, Value.int .i64 m.k, Value.int .i64 m.c, Value.slice a m.bl.length cap], Value.agg #[Value.int .i64 n.e, Value.int .i64 n.b, Value.int .i64 n.p, Value.int .i64 n.k, Value.int .i64 n.c, Value.slice b n.bl.length cap2]] rfl ?_
 refine WP.seq ?_
 refine WP.region rfl ?_
 refine WO.box (l := [Value.int .i64 m.e, Value.int .i64 m.b, Value.int .i64 m.p, Value.int .i64 m.k, Value.int .i64 m.c, Value.slice a m.bl.length cap]) hS rfl rfl rfl (fun g2 w1 lg2 hS1 => ?_)
 clear hS
 refine WO.box (l := [Value.int .i64 n.e, Value.int .i64 n.b, Value.int .i64 n.p, Value.int .i64 n.k, Value.int .i64 n.c, Value.slice b n.bl.length cap2]) hS1 rfl rfl rfl (fun g4 w3 lg4 hS3 => ?_)
 clear hS1
 refine WO.val (run_assign rfl) rfl rfl rfl ?_
 refine WO.nil ?_
 refine NX.go ?_
 refine WP.seq ?_
 refine WP.seq ?_
 refine WP.region rfl ?_
 refine WO.val (run_fieldAddr (q := ⟨g2, 0, none⟩) (show fieldB Tryz.prog 24 0 = some 0 from by kernel_rfl) rfl rfl) rfl rfl rfl ?_
 refine WO.val (run_load Ty.ag3 rfl ((hS3.cel_at 1 rfl 0).trans rfl)) rfl rfl rfl ?_
 refine WO.val (run_fieldAddr (q := ⟨g4, 0, none⟩) (show fieldB Tryz.prog 24 0 = some 0 from by kernel_rfl) rfl rfl) rfl rfl rfl ?_
 refine WO.val (run_load Ty.ag3 rfl ((hS3.cel_at 0 rfl 0).trans rfl)) rfl rfl rfl ?_
 refine WO.val (run_neq rfl rfl) rfl rfl rfl ?_
 refine WO.val (run_move rfl) rfl rfl rfl ?_
 by_cases g11 : ¬ m.e = n.e
 ·
  refine WO.off rfl rfl (decide_eq_true g11) rfl ?_
  refine WO.off rfl rfl (decide_eq_true g11) rfl ?_
  refine WO.off rfl rfl (decide_eq_true g11) rfl ?_
  refine WO.off rfl rfl (decide_eq_true g11) rfl ?_
  refine WO.off rfl rfl (decide_eq_true g11) rfl ?_
  refine WO.val (run_pickT rfl (decide_eq_true g11) rfl) rfl rfl rfl ?_
  refine WO.val (run_move rfl) rfl rfl rfl ?_
  refine WO.off rfl rfl rfl rfl ?_
  refine WO.off rfl rfl rfl rfl ?_
  refine WO.off rfl rfl rfl rfl ?_
  refine WO.off rfl rfl rfl rfl ?_
  refine WO.off rfl rfl rfl rfl ?_
  refine WO.val (run_pickT rfl rfl rfl) rfl rfl rfl ?_
  refine WO.val (run_move rfl) rfl rfl rfl ?_
  refine WO.off rfl rfl rfl rfl ?_
  refine WO.off rfl rfl rfl rfl ?_
  refine WO.off rfl rfl rfl rfl ?_
  refine WO.off rfl rfl rfl rfl ?_
  refine WO.off rfl rfl rfl rfl ?_
  refine WO.val (run_pickT rfl rfl rfl) rfl rfl rfl ?_
  refine WO.val (run_move rfl) rfl rfl rfl ?_
  refine WO.off rfl rfl rfl rfl ?_
  refine WO.off rfl rfl rfl rfl ?_
  refine WO.off rfl rfl rfl rfl ?_
  refine WO.off rfl rfl rfl rfl ?_
  refine WO.off rfl rfl rfl rfl ?_
  refine WO.val (run_pickT rfl rfl rfl) rfl rfl rfl ?_
  refine WO.val (run_move rfl) rfl rfl rfl ?_
  refine WO.off rfl rfl rfl rfl ?_
  refine WO.off rfl rfl rfl rfl ?_
  refine WO.off rfl rfl rfl rfl ?_
  refine WO.off rfl rfl rfl rfl ?_
  refine WO.off rfl rfl rfl rfl ?_
  refine WO.off rfl rfl rfl rfl ?_
  refine WO.off rfl rfl rfl rfl ?_
  refine WO.val (run_pickT rfl rfl rfl) rfl rfl rfl ?_
  refine WO.nil ?_
  refine NX.go ?_
  refine WP.condT rfl rfl ?_
  refine WP.seq ?_
  refine WP.region rfl ?_
  refine WO.val (run_assign rfl) rfl rfl rfl ?_
  refine WO.nil ?_
  refine NX.go ?_
  refine WP.ret ?_
  refine NX.thenRet ?_
  refine NX.done (l := [.tmp 4]) rfl rfl ?_
  exact ⟨congrArg Value.bool (decide_eq_false (fun h => by subst h; first | contradiction | omega)).symm, hS3.drop.drop⟩
 ·
  refine WO.on rfl rfl (decide_eq_false g11) ?_
  refine WO.val (run_fieldAddr (q := ⟨g2, 1, none⟩) (show fieldB Tryz.prog 24 1 = some 1 from by kernel_rfl) rfl rfl) rfl rfl rfl ?_
  refine WO.on rfl rfl (decide_eq_false g11) ?_
  refine WO.val (run_load Ty.ag3 rfl ((hS3.cel_at 1 rfl 1).trans rfl)) rfl rfl rfl ?_
  refine WO.on rfl rfl (decide_eq_false g11) ?_
  refine WO.val (run_fieldAddr (q := ⟨g4, 1, none⟩) (show fieldB Tryz.prog 24 1 = some 1 from by kernel_rfl) rfl rfl) rfl rfl rfl ?_
  refine WO.on rfl rfl (decide_eq_false g11) ?_
  refine WO.val (run_load Ty.ag3 rfl ((hS3.cel_at 0 rfl 1).trans rfl)) rfl rfl rfl ?_
  refine WO.on rfl rfl (decide_eq_false g11) ?_
  refine WO.val (run_neq rfl rfl) rfl rfl rfl ?_
  refine WO.val (run_pickF rfl (decide_eq_false g11) rfl) rfl rfl rfl ?_
  refine WO.val (run_move rfl) rfl rfl rfl ?_
  by_cases g18 : ¬ m.b = n.b
  ·
   refine WO.off rfl rfl (decide_eq_true g18) rfl ?_
   refine WO.off rfl rfl (decide_eq_true g18) rfl ?_
   refine WO.off rfl rfl (decide_eq_true g18) rfl ?_
   refine WO.off rfl rfl (decide_eq_true g18) rfl ?_
   refine WO.off rfl rfl (decide_eq_true g18) rfl ?_
   refine WO.val (run_pickT rfl (decide_eq_true g18) rfl) rfl rfl rfl ?_
   refine WO.val (run_move rfl) rfl rfl rfl ?_
   refine WO.off rfl rfl rfl rfl ?_
   refine WO.off rfl rfl rfl rfl ?_
   refine WO.off rfl rfl rfl rfl ?_
   refine WO.off rfl rfl rfl rfl ?_
   refine WO.off rfl rfl rfl rfl ?_
   refine WO.val (run_pickT rfl rfl rfl) rfl rfl rfl ?_
   refine WO.val (run_move rfl) rfl rfl rfl ?_
   refine WO.off rfl rfl rfl rfl ?_
   refine WO.off rfl rfl rfl rfl ?_
   refine WO.off rfl rfl rfl rfl ?_
   refine WO.off rfl rfl rfl rfl ?_
   refine WO.off rfl rfl rfl rfl ?_
   refine WO.val (run_pickT rfl rfl rfl) rfl rfl rfl ?_
   refine WO.val (run_move rfl) rfl rfl rfl ?_
   refine WO.off rfl rfl rfl rfl ?_
   refine WO.off rfl rfl rfl rfl ?_
   refine WO.off rfl rfl rfl rfl ?_
   refine WO.off rfl rfl rfl rfl ?_
   refine WO.off rfl rfl rfl rfl ?_
   refine WO.off rfl rfl rfl rfl ?_
   refine WO.off rfl rfl rfl rfl ?_
   refine WO.val (run_pickT rfl rfl rfl) rfl rfl rfl ?_
   refine WO.nil ?_
   refine NX.go ?_
   refine WP.condT rfl rfl ?_
   refine WP.seq ?_
   refine WP.region rfl ?_
   refine WO.val (run_assign rfl) rfl rfl rfl ?_
   refine WO.nil ?_
   refine NX.go ?_
   refine WP.ret ?_
   refine NX.thenRet ?_
   refine NX.done (l := [.tmp 4]) rfl rfl ?_
   exact ⟨congrArg Value.bool (decide_eq_false (fun h => by subst h; first | contradiction | omega)).symm, hS3.drop.drop⟩
  ·
   refine WO.on rfl rfl (decide_eq_false g18) ?_
   refine WO.val (run_fieldAddr (q := ⟨g2, 2, none⟩) (show fieldB Tryz.prog 24 2 = some 2 from by kernel_rfl) rfl rfl) rfl rfl rfl ?_
   refine WO.on rfl rfl (decide_eq_false g18) ?_
   refine WO.val (run_load Ty.ag3 rfl ((hS3.cel_at 1 rfl 2).trans rfl)) rfl rfl rfl ?_
   refine WO.on rfl rfl (decide_eq_false g18) ?_
   refine WO.val (run_fieldAddr (q := ⟨g4, 2, none⟩) (show fieldB Tryz.prog 24 2 = some 2 from by kernel_rfl) rfl rfl) rfl rfl rfl ?_
   refine WO.on rfl rfl (decide_eq_false g18) ?_
   refine WO.val (run_load Ty.ag3 rfl ((hS3.cel_at 0 rfl 2).trans rfl)) rfl rfl rfl ?_
   refine WO.on rfl rfl (decide_eq_false g18) ?_
   refine WO.val (run_neq rfl rfl) rfl rfl rfl ?_
   refine WO.val (run_pickF rfl (decide_eq_false g18) rfl) rfl rfl rfl ?_
   refine WO.val (run_move rfl) rfl rfl rfl ?_
   by_cases g25 : ¬ m.p = n.p
   ·
    refine WO.off rfl rfl (decide_eq_true g25) rfl ?_
    refine WO.off rfl rfl (decide_eq_true g25) rfl ?_
    refine WO.off rfl rfl (decide_eq_true g25) rfl ?_
    refine WO.off rfl rfl (decide_eq_true g25) rfl ?_
    refine WO.off rfl rfl (decide_eq_true g25) rfl ?_
    refine WO.val (run_pickT rfl (decide_eq_true g25) rfl) rfl rfl rfl ?_
    refine WO.val (run_move rfl) rfl rfl rfl ?_
    refine WO.off rfl rfl rfl rfl ?_
    refine WO.off rfl rfl rfl rfl ?_
    refine WO.off rfl rfl rfl rfl ?_
    refine WO.off rfl rfl rfl rfl ?_
    refine WO.off rfl rfl rfl rfl ?_
    refine WO.val (run_pickT rfl rfl rfl) rfl rfl rfl ?_
    refine WO.val (run_move rfl) rfl rfl rfl ?_
    refine WO.off rfl rfl rfl rfl ?_
    refine WO.off rfl rfl rfl rfl ?_
    refine WO.off rfl rfl rfl rfl ?_
    refine WO.off rfl rfl rfl rfl ?_
    refine WO.off rfl rfl rfl rfl ?_
    refine WO.off rfl rfl rfl rfl ?_
    refine WO.off rfl rfl rfl rfl ?_
    refine WO.val (run_pickT rfl rfl rfl) rfl rfl rfl ?_
    refine WO.nil ?_
    refine NX.go ?_
    refine WP.condT rfl rfl ?_
    refine WP.seq ?_
    refine WP.region rfl ?_
    refine WO.val (run_assign rfl) rfl rfl rfl ?_
    refine WO.nil ?_
    refine NX.go ?_
    refine WP.ret ?_
    refine NX.thenRet ?_
    refine NX.done (l := [.tmp 4]) rfl rfl ?_
    exact ⟨congrArg Value.bool (decide_eq_false (fun h => by subst h; first | contradiction | omega)).symm, hS3.drop.drop⟩
   ·
    refine WO.on rfl rfl (decide_eq_false g25) ?_
    refine WO.val (run_fieldAddr (q := ⟨g2, 3, none⟩) (show fieldB Tryz.prog 24 3 = some 3 from by kernel_rfl) rfl rfl) rfl rfl rfl ?_
    refine WO.on rfl rfl (decide_eq_false g25) ?_
    refine WO.val (run_load Ty.ag2 rfl ((hS3.cel_at 1 rfl 3).trans rfl)) rfl rfl rfl ?_
    refine WO.on rfl rfl (decide_eq_false g25) ?_
    refine WO.val (run_fieldAddr (q := ⟨g4, 3, none⟩) (show fieldB Tryz.prog 24 3 = some 3 from by kernel_rfl) rfl rfl) rfl rfl rfl ?_
    refine WO.on rfl rfl (decide_eq_false g25) ?_
    refine WO.val (run_load Ty.ag2 rfl ((hS3.cel_at 0 rfl 3).trans rfl)) rfl rfl rfl ?_
    refine WO.on rfl rfl (decide_eq_false g25) ?_
    refine WO.val (run_neq rfl rfl) rfl rfl rfl ?_
    refine WO.val (run_pickF rfl (decide_eq_false g25) rfl) rfl rfl rfl ?_
    refine WO.val (run_move rfl) rfl rfl rfl ?_
    by_cases g32 : ¬ m.k = n.k
    ·
     refine WO.off rfl rfl (decide_eq_true g32) rfl ?_
     refine WO.off rfl rfl (decide_eq_true g32) rfl ?_
     refine WO.off rfl rfl (decide_eq_true g32) rfl ?_
     refine WO.off rfl rfl (decide_eq_true g32) rfl ?_
     refine WO.off rfl rfl (decide_eq_true g32) rfl ?_
     refine WO.val (run_pickT rfl (decide_eq_true g32) rfl) rfl rfl rfl ?_
     refine WO.val (run_move rfl) rfl rfl rfl ?_
     refine WO.off rfl rfl rfl rfl ?_
     refine WO.off rfl rfl rfl rfl ?_
     refine WO.off rfl rfl rfl rfl ?_
     refine WO.off rfl rfl rfl rfl ?_
     refine WO.off rfl rfl rfl rfl ?_
     refine WO.off rfl rfl rfl rfl ?_
     refine WO.off rfl rfl rfl rfl ?_
     refine WO.val (run_pickT rfl rfl rfl) rfl rfl rfl ?_
     refine WO.nil ?_
     refine NX.go ?_
     refine WP.condT rfl rfl ?_
     refine WP.seq ?_
     refine WP.region rfl ?_
     refine WO.val (run_assign rfl) rfl rfl rfl ?_
     refine WO.nil ?_
     refine NX.go ?_
     refine WP.ret ?_
     refine NX.thenRet ?_
     refine NX.done (l := [.tmp 4]) rfl rfl ?_
     exact ⟨congrArg Value.bool (decide_eq_false (fun h => by subst h; first | contradiction | omega)).symm, hS3.drop.drop⟩
    ·
     refine WO.on rfl rfl (decide_eq_false g32) ?_
     refine WO.val (run_fieldAddr (q := ⟨g2, 4, none⟩) (show fieldB Tryz.prog 24 4 = some 4 from by kernel_rfl) rfl rfl) rfl rfl rfl ?_
     refine WO.on rfl rfl (decide_eq_false g32) ?_
     refine WO.val (run_load Ty.ag3 rfl ((hS3.cel_at 1 rfl 4).trans rfl)) rfl rfl rfl ?_
     refine WO.on rfl rfl (decide_eq_false g32) ?_
     refine WO.val (run_fieldAddr (q := ⟨g4, 4, none⟩) (show fieldB Tryz.prog 24 4 = some 4 from by kernel_rfl) rfl rfl) rfl rfl rfl ?_
     refine WO.on rfl rfl (decide_eq_false g32) ?_
     refine WO.val (run_load Ty.ag3 rfl ((hS3.cel_at 0 rfl 4).trans rfl)) rfl rfl rfl ?_
     refine WO.on rfl rfl (decide_eq_false g32) ?_
     refine WO.val (run_neq rfl rfl) rfl rfl rfl ?_
     refine WO.val (run_pickF rfl (decide_eq_false g32) rfl) rfl rfl rfl ?_
     refine WO.val (run_move rfl) rfl rfl rfl ?_
     by_cases g39 : ¬ m.c = n.c
     ·
      refine WO.off rfl rfl (decide_eq_true g39) rfl ?_
      refine WO.off rfl rfl (decide_eq_true g39) rfl ?_
      refine WO.off rfl rfl (decide_eq_true g39) rfl ?_
      refine WO.off rfl rfl (decide_eq_true g39) rfl ?_
      refine WO.off rfl rfl (decide_eq_true g39) rfl ?_
      refine WO.off rfl rfl (decide_eq_true g39) rfl ?_
      refine WO.off rfl rfl (decide_eq_true g39) rfl ?_
      refine WO.val (run_pickT rfl (decide_eq_true g39) rfl) rfl rfl rfl ?_
      refine WO.nil ?_
      refine NX.go ?_
      refine WP.condT rfl rfl ?_
      refine WP.seq ?_
      refine WP.region rfl ?_
      refine WO.val (run_assign rfl) rfl rfl rfl ?_
      refine WO.nil ?_
      refine NX.go ?_
      refine WP.ret ?_
      refine NX.thenRet ?_
      refine NX.done (l := [.tmp 4]) rfl rfl ?_
      exact ⟨congrArg Value.bool (decide_eq_false (fun h => by subst h; first | contradiction | omega)).symm, hS3.drop.drop⟩
     ·
      refine WO.on rfl rfl (decide_eq_false g39) ?_
      refine WO.val (run_fieldAddr (q := ⟨g2, 5, none⟩) (show fieldB Tryz.prog 24 5 = some 5 from by kernel_rfl) rfl rfl) rfl rfl rfl ?_
      refine WO.on rfl rfl (decide_eq_false g39) ?_
      refine WO.val (run_load Ty.ag22 rfl ((hS3.cel_at 1 rfl 5).trans rfl)) rfl rfl rfl ?_
      refine WO.on rfl rfl (decide_eq_false g39) ?_
      refine WO.val (run_len rfl Tryz.underlying22 rfl) rfl rfl rfl ?_
      refine WO.on rfl rfl (decide_eq_false g39) ?_
      refine WO.val (run_fieldAddr (q := ⟨g4, 5, none⟩) (show fieldB Tryz.prog 24 5 = some 5 from by kernel_rfl) rfl rfl) rfl rfl rfl ?_
      refine WO.on rfl rfl (decide_eq_false g39) ?_
      refine WO.val (run_load Ty.ag22 rfl ((hS3.cel_at 0 rfl 5).trans rfl)) rfl rfl rfl ?_
      refine WO.on rfl rfl (decide_eq_false g39) ?_
      refine WO.val (run_len rfl Tryz.underlying22 rfl) rfl rfl rfl ?_
      refine WO.on rfl rfl (decide_eq_false g39) ?_
      refine WO.val (run_neq rfl rfl) rfl rfl rfl ?_
      refine WO.val (run_pickF rfl (decide_eq_false g39) rfl) rfl rfl rfl ?_
      refine WO.nil ?_
      refine NX.go ?_
      refine WP.condP rfl (fun g47 => ?_) (fun g47 => ?_)
      ·
       refine WP.seq ?_
       refine WP.region rfl ?_
       refine WO.val (run_assign rfl) rfl rfl rfl ?_
       refine WO.nil ?_
       refine NX.go ?_
       refine WP.ret ?_
       refine NX.thenRet ?_
       refine NX.done (l := [.tmp 4]) rfl rfl ?_
       exact ⟨congrArg Value.bool (decide_eq_false (fun h => by subst h; first | contradiction | omega)).symm, hS3.drop.drop⟩
      ·
       refine WP.skip ?_
       refine NX.go ?_
       refine WP.seq ?_
       refine WP.seq ?_
       have hl : m.bl.length = n.bl.length := by omega
       have hln := hm.n
       refine WP.region rfl ?_
       refine WO.val (run_assign rfl) rfl rfl rfl ?_
       refine WO.nil ?_
       refine NX.go ?_
       refine WP.block ?_
       refine WP.loop (α := Nat) (fun x => match x with | i => [(2, Value.pointer (some ⟨g2, 0, none⟩)), (3, Value.pointer (some ⟨g4, 0, none⟩)), (5, Value.int .i64 (i : Int))]) (fun x w => match x with | i => (i ≤ m.bl.length ∧ m.bl.take i = n.bl.take i) ∧ St B (cel g4 [Value.int .i64 n.e, Value.int .i64 n.b, Value.int .i64 n.p, Value.int .i64 n.k, Value.int .i64 n.c, Value.slice b n.bl.length cap2] 24 :: cel g2 [Value.int .i64 m.e, Value.int .i64 m.b, Value.int .i64 m.p, Value.int .i64 m.k, Value.int .i64 m.c, Value.slice a m.bl.length cap] 24 :: X :: Y :: L) w) (fun x => match x with | i => m.bl.length - i) 0 ⟨⟨Nat.zero_le _, rfl⟩, hS3⟩ (Sub.cons rfl (Sub.cons rfl (Sub.consE rfl (by first | rfl | first | rfl | (congr 1; omega) | (simp; done) | (simp; omega)) (Sub.nil _)))) ?_
       rintro i w5 ⟨⟨hi, hok⟩, hS5⟩
       clear hS3
       refine WP.seq ?_
       refine WP.seq ?_
       refine WP.region rfl ?_
       refine WO.val (run_move rfl) rfl rfl rfl ?_
       refine WO.val (run_fieldAddr (q := ⟨g2, 5, none⟩) (show fieldB Tryz.prog 24 5 = some 5 from by kernel_rfl) rfl rfl) rfl rfl rfl ?_
       refine WO.val (run_load Ty.ag22 rfl ((hS5.cel_at 1 rfl 5).trans rfl)) rfl rfl rfl ?_
       refine WO.val (run_len rfl Tryz.underlying22 rfl) rfl rfl rfl ?_
       refine WO.val (run_lss rfl rfl) rfl rfl rfl ?_
       refine WO.nil ?_
       refine NX.go ?_
       refine WP.condP rfl (fun g52 => ?_) (fun g52 => ?_)
       ·
        refine WP.skip ?_
        refine NX.go ?_
        refine WP.seq ?_
        refine WP.block ?_
        refine WP.seq ?_
        obtain ⟨t, ht⟩ : ∃ t, m.bl[i]? = some t := ⟨_, List.getElem?_eq_getElem (by omega)⟩
        obtain ⟨u, hu⟩ : ∃ u, n.bl[i]? = some u := ⟨_, List.getElem?_eq_getElem (by omega)⟩
        refine WD.start (fun w => (∀ j, World.cell? w ⟨g4, j, none⟩ = [Value.int .i64 n.e, Value.int .i64 n.b, Value.int .i64 n.p, Value.int .i64 n.k, Value.int .i64 n.c, Value.slice b n.bl.length cap2][j]?) ∧ (∀ j, World.cell? w ⟨g2, j, none⟩ = [Value.int .i64 m.e, Value.int .i64 m.b, Value.int .i64 m.p, Value.int .i64 m.k, Value.int .i64 m.c, Value.slice a m.bl.length cap][j]?) ∧ Rd w a m.bl.length 1 (m.bl.map str) ∧ Rd w b n.bl.length 1 (n.bl.map str)) [] #[false, false, false, false, false, false, false, false, false, false, false] Ty.mo rfl (by kernel_rfl) hS5 (fun _ h => ⟨h.cel_at 0 rfl, h.cel_at 1 rfl, (hX (h.focus 2 rfl)), (hY (h.focus 3 rfl))⟩) (fun w6 hS6 s7 => ?_)
        clear hS5
        refine WD.pure (i := 0) rsame_spec_t6 #[true, false, false, false, false, false, false, false, false, false, false] rfl rfl rfl (by kernel_rfl) (PQ.then (PQ.blk (PQ.then (PQ.then (PQ.blk (PQ.then PQ.body)))))) rfl (fun w => run_fieldAddr (q := ⟨g2, 5, none⟩) (show fieldB Tryz.prog 24 5 = some 5 from by kernel_rfl) rfl rfl) ?_
        refine WD.take (i := 1) rsame_spec_t6 #[true, true, false, false, false, false, false, false, false, false, false] s7 rfl rfl rfl (by kernel_rfl) (PQ.then (PQ.blk (PQ.then (PQ.then (PQ.blk (PQ.then PQ.body)))))) rfl (fun w hs => run_load Ty.ag22 rfl ((hs.2.1 5).trans rfl)) ?_
        refine WD.pure (i := 2) rsame_spec_t6 #[true, true, true, false, false, false, false, false, false, false, false] rfl rfl rfl (by kernel_rfl) (PQ.then (PQ.blk (PQ.then (PQ.then (PQ.blk (PQ.then PQ.body)))))) rfl (fun w => run_move rfl) ?_
        refine WD.take (i := 3) rsame_spec_t6 #[true, true, true, true, false, false, false, false, false, false, false] s7 rfl rfl rfl (by kernel_rfl) (PQ.then (PQ.blk (PQ.then (PQ.then (PQ.blk (PQ.then PQ.body)))))) rfl (fun w hs => run_indexAddr (q := adr a i) Tryz.underlying22 Ty.sz9 rfl rfl (by omega) (by omega) ((hs.2.2.1).2.1 (by omega)) (by simp)) ?_
        refine WD.take (i := 4) rsame_spec_t6 #[true, true, true, true, true, false, false, false, false, false, false] s7 rfl rfl rfl (by kernel_rfl) (PQ.then (PQ.blk (PQ.then (PQ.then (PQ.blk (PQ.then PQ.body)))))) rfl (fun w hs => run_load Ty.ag9 rfl ((hs.2.2.1).cell (str_at ht))) ?_
        refine WD.pure (i := 5) rsame_spec_t6 #[true, true, true, true, true, true, false, false, false, false, false] rfl rfl rfl (by kernel_rfl) (PQ.then (PQ.blk (PQ.then (PQ.then (PQ.blk (PQ.then PQ.body)))))) rfl (fun w => run_fieldAddr (q := ⟨g4, 5, none⟩) (show fieldB Tryz.prog 24 5 = some 5 from by kernel_rfl) rfl rfl) ?_
        refine WD.take (i := 6) rsame_spec_t6 #[true, true, true, true, true, true, true, false, false, false, false] s7 rfl rfl rfl (by kernel_rfl) (PQ.then (PQ.blk (PQ.then (PQ.then (PQ.blk (PQ.then PQ.body)))))) rfl (fun w hs => run_load Ty.ag22 rfl ((hs.1 5).trans rfl)) ?_
        refine WD.pure (i := 7) rsame_spec_t6 #[true, true, true, true, true, true, true, true, false, false, false] rfl rfl rfl (by kernel_rfl) (PQ.then (PQ.blk (PQ.then (PQ.then (PQ.blk (PQ.then PQ.body)))))) rfl (fun w => run_move rfl) ?_
        refine WD.take (i := 8) rsame_spec_t6 #[true, true, true, true, true, true, true, true, true, false, false] s7 rfl rfl rfl (by kernel_rfl) (PQ.then (PQ.blk (PQ.then (PQ.then (PQ.blk (PQ.then PQ.body)))))) rfl (fun w hs => run_indexAddr (q := adr b i) Tryz.underlying22 Ty.sz9 rfl rfl (by omega) (by omega) ((hs.2.2.2).2.1 (by omega)) (by simp)) ?_
        refine WD.take (i := 9) rsame_spec_t6 #[true, true, true, true, true, true, true, true, true, true, false] s7 rfl rfl rfl (by kernel_rfl) (PQ.then (PQ.blk (PQ.then (PQ.then (PQ.blk (PQ.then PQ.body)))))) rfl (fun w hs => run_load Ty.ag9 rfl ((hs.2.2.2).cell (str_at hu))) ?_
        refine WD.pure (i := 10) rsame_spec_t6 #[true, true, true, true, true, true, true, true, true, true, true] rfl rfl rfl (by kernel_rfl) (PQ.then (PQ.blk (PQ.then (PQ.then (PQ.blk (PQ.then PQ.body)))))) rfl (fun w => run_neqS rfl rfl) ?_
        refine WD.done rsame_spec_t6 (by kernel_rfl) ?_
        refine NX.go ?_
        refine WP.condP rfl (fun g65 => ?_) (fun g65 => ?_)
        ·
         refine WP.seq ?_
         refine WP.region rfl ?_
         refine WO.val (run_assign rfl) rfl rfl rfl ?_
         refine WO.nil ?_
         refine NX.go ?_
         refine WP.ret ?_
         refine NX.blkRet ?_
         refine NX.thenRet ?_
         refine NX.thenRet ?_
         refine NX.blkRet ?_
         refine NX.thenRet ?_
         refine NX.done (l := [.tmp 4]) rfl rfl ?_
         exact ⟨congrArg Value.bool (decide_eq_false (fun h => by subst h; rw [ht] at hu; exact g65 (Option.some.inj hu))).symm, hS6.drop.drop⟩
        ·
         refine WP.skip ?_
         refine NX.blk ?_
         refine NX.go ?_
         refine WP.region rfl ?_
         refine WO.val (run_move rfl) rfl rfl rfl ?_
         refine WO.val (run_add rfl rfl (IntWalk.i64_in _ (by omega))) rfl rfl rfl ?_
         refine WO.val (run_assign rfl) rfl rfl rfl ?_
         refine WO.nil ?_
         exact NX.again (i + 1) ⟨⟨by omega, take_same hok ht hu (Decidable.of_not_not g65)⟩, hS6⟩ (by show m.bl.length - (i + 1) < m.bl.length - i; omega) (Sub.cons rfl (Sub.cons rfl (Sub.consE rfl (by congr 1) (Sub.nil _))))
       ·
        refine WP.exit ?_
        refine NX.thenExit ?_
        refine NX.thenExit ?_
        refine NX.blkExit ?_
        refine NX.go ?_
        refine WP.seq ?_
        refine WP.region rfl ?_
        refine WO.val (run_assign rfl) rfl rfl rfl ?_
        refine WO.nil ?_
        refine NX.go ?_
        refine WP.ret ?_
        refine NX.done (l := [.tmp 4]) rfl rfl ?_
        exact ⟨congrArg Value.bool (decide_eq_true (man_eq g11 g18 g25 g32 g39 (by rw [List.take_of_length_le (by omega), List.take_of_length_le (by omega)] at hok; exact hok))).symm, hS5.drop.drop⟩
end Go.Proofs.YtcehlnpbdffdhaaGreatDoor.SL
