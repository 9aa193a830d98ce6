/- Signed numbers and texts at the front: the reference. -/
import Derived.Test.YtcehlnpbdffdhaaDoorKr3
namespace Go.Proofs.YtcehlnpbdffdhaaDoor.SL
open Go.RowKit Go.Proofs.YtcehlnpbdffdhaaDoor
open Go.Proofs.YtcehlnpbdffdhaaDoorW.PrintLast (rtab opsOf)
set_option linter.unusedVariables false
set_option linter.unusedSimpArgs false
theorem rgetSigned_spec {B w : World} {L : List HP} (s : List UInt8) (hs : s.length ≤ 140737488355328) (hS : St B L w) : Does Tryd.prog 92 [str s] w (fun v w1 => v = .tuple #[.int .i64 (zag (getNum s).1), .int .i64 ((getNum s).2.1 : Int), .int .i64 (getNum s).2.2] ∧ St B L w1) := by
 refine enter (n := 29) Tryd.func92 rfl rfl [str s] rfl ?_
 refine WP.seq ?_
 refine WP.region rfl ?_
 refine WO.val (run_assign rfl) rfl rfl rfl ?_
 refine WO.val (run_assign rfl) rfl rfl rfl ?_
 refine WO.val (run_assign rfl) rfl rfl rfl ?_
 refine WO.nil ?_
 refine NX.go ?_
 refine WP.seq ?_
 refine WP.region rfl ?_
 refine WO.val (run_move rfl) rfl rfl rfl ?_
 refine WO.call rfl rfl Ty.hd91 rfl (rgetNum_spec s hs hS) (fun v2 w1 pv2 => ?_)
 obtain ⟨rfl, hS1⟩ := pv2
 clear hS
 refine WO.val (run_move rfl) rfl rfl rfl ?_
 refine WO.val (run_extract rfl rfl) rfl rfl rfl ?_
 refine WO.val (run_extract rfl rfl) rfl rfl rfl ?_
 refine WO.val (run_extract rfl rfl) rfl rfl rfl ?_
 refine WO.val (run_assign rfl) rfl rfl rfl ?_
 refine WO.val (run_assign rfl) rfl rfl rfl ?_
 refine WO.val (run_assign rfl) rfl rfl rfl ?_
 refine WO.nil ?_
 refine NX.go ?_
 refine WP.seq ?_
 refine WP.seq ?_
 have hlt := getNum_lt s
 refine WP.region rfl ?_
 refine WO.val (run_move rfl) rfl rfl rfl ?_
 refine WO.val (run_rem rfl rfl (by omega) (IntWalk.rem_in _ _ (by omega))) rfl rfl rfl ?_
 refine WO.val (run_eql rfl rfl) rfl rfl rfl ?_
 refine WO.nil ?_
 refine NX.go ?_
 refine WP.condP rfl (fun g16 => ?_) (fun g16 => ?_)
 ·
  refine WP.seq ?_
  refine WP.region rfl ?_
  refine WO.val (run_move rfl) rfl rfl rfl ?_
  refine WO.val (run_quo rfl rfl (by omega) (by exact quo_u64 (by omega))) rfl rfl rfl ?_
  refine WO.val (run_convI Tryd.underlying2 (by kernel_rfl) rfl (IntWalk.i64_in _ (by omega))) rfl rfl rfl ?_
  refine WO.val (run_neg rfl (IntWalk.i64_in _ (by omega))) rfl rfl rfl ?_
  refine WO.val (run_sub rfl rfl (IntWalk.i64_in _ (by omega))) rfl rfl rfl ?_
  refine WO.val (run_move rfl) rfl rfl rfl ?_
  refine WO.val (run_move rfl) rfl rfl rfl ?_
  refine WO.val (run_assign rfl) rfl rfl rfl ?_
  refine WO.val (run_assign rfl) rfl rfl rfl ?_
  refine WO.val (run_assign rfl) rfl rfl rfl ?_
  refine WO.nil ?_
  refine NX.go ?_
  refine WP.ret ?_
  refine NX.thenRet ?_
  refine NX.done (l := [.tmp 2, .tmp 3, .tmp 4]) rfl rfl ?_
  exact ⟨by rw [zag, if_neg (by omega), show 0 - ((getNum s).1 : Int) / 2 - 1 = -(((getNum s).1 / 2 : Nat) : Int) - 1 by omega]; rfl, hS1⟩
 ·
  refine WP.skip ?_
  refine NX.go ?_
  refine WP.seq ?_
  refine WP.region rfl ?_
  refine WO.val (run_move rfl) rfl rfl rfl ?_
  refine WO.val (run_quo rfl rfl (by omega) (by exact quo_u64 (by omega))) rfl rfl rfl ?_
  refine WO.val (run_convI Tryd.underlying2 (by kernel_rfl) rfl (IntWalk.i64_in _ (by omega))) rfl rfl rfl ?_
  refine WO.val (run_move rfl) rfl rfl rfl ?_
  refine WO.val (run_move rfl) rfl rfl rfl ?_
  refine WO.val (run_assign rfl) rfl rfl rfl ?_
  refine WO.val (run_assign rfl) rfl rfl rfl ?_
  refine WO.val (run_assign rfl) rfl rfl rfl ?_
  refine WO.nil ?_
  refine NX.go ?_
  refine WP.ret ?_
  refine NX.done (l := [.tmp 2, .tmp 3, .tmp 4]) rfl rfl ?_
  exact ⟨by rw [zag, if_pos (by omega)]; rfl, hS1⟩
theorem rgetText_spec {B w : World} {L : List HP} (s : List UInt8) (most : Int) (hs : s.length ≤ 140737488355328) (hm : most ≤ 9223372036854775807) (hS : St B L w) : Does Tryd.prog 90 [str s, Value.int .i64 most] w (fun v w1 => v = .tuple #[str (getText s most).1, .int .i64 ((getText s most).2.1 : Int), .int .i64 (getText s most).2.2] ∧ St B L w1) := by
 refine enter (n := 48) Tryd.func90 rfl rfl [str s, Value.int .i64 most] rfl ?_
 refine WP.seq ?_
 refine WP.region rfl ?_
 refine WO.val (run_assign rfl) rfl rfl rfl ?_
 refine WO.val (run_assign rfl) rfl rfl rfl ?_
 refine WO.val (run_assign rfl) rfl rfl rfl ?_
 refine WO.nil ?_
 refine NX.go ?_
 refine WP.seq ?_
 refine WP.region rfl ?_
 refine WO.val (run_move rfl) rfl rfl rfl ?_
 refine WO.call rfl rfl Ty.hd91 rfl (rgetNum_spec s hs hS) (fun v2 w1 pv2 => ?_)
 obtain ⟨rfl, hS1⟩ := pv2
 clear hS
 refine WO.val (run_move rfl) rfl rfl rfl ?_
 refine WO.val (run_extract rfl rfl) rfl rfl rfl ?_
 refine WO.val (run_extract rfl rfl) rfl rfl rfl ?_
 refine WO.val (run_extract rfl rfl) rfl rfl rfl ?_
 refine WO.val (run_assign rfl) rfl rfl rfl ?_
 refine WO.val (run_assign rfl) rfl rfl rfl ?_
 refine WO.val (run_assign rfl) rfl rfl rfl ?_
 refine WO.nil ?_
 refine NX.go ?_
 refine WP.seq ?_
 refine WP.block ?_
 refine WP.seq ?_
 refine WP.region rfl ?_
 refine WO.val (run_move rfl) rfl rfl rfl ?_
 refine WO.val (run_neq rfl rfl) rfl rfl rfl ?_
 refine WO.val (run_assign rfl) rfl rfl rfl ?_
 refine WO.nil ?_
 refine NX.go ?_
 refine WP.condP rfl (fun g16 => ?_) (fun g16 => ?_)
 ·
  refine WP.seq ?_
  refine WP.region rfl ?_
  refine WO.val (run_move rfl) rfl rfl rfl ?_
  refine WO.val (run_assign rfl) rfl rfl rfl ?_
  refine WO.val (run_assign rfl) rfl rfl rfl ?_
  refine WO.val (run_assign rfl) rfl rfl rfl ?_
  refine WO.nil ?_
  refine NX.go ?_
  refine WP.ret ?_
  refine NX.blkRet ?_
  refine NX.thenRet ?_
  refine NX.done (l := [.tmp 4, .tmp 5, .tmp 6]) rfl rfl ?_
  exact ⟨by rw [getText, if_pos g16]; rfl, hS1⟩
 ·
  have hok := getNum_ok (s := s) (Decidable.of_not_not g16)
  refine WP.seq ?_
  refine WP.region rfl ?_
  refine WO.val (run_move rfl) rfl rfl rfl ?_
  refine WO.val (run_lss rfl rfl) rfl rfl rfl ?_
  refine WO.val (run_move rfl) rfl rfl rfl ?_
  by_cases g23 : most < 0
  ·
   refine WO.off rfl rfl (decide_eq_true g23) rfl ?_
   refine WO.off rfl rfl (decide_eq_true g23) rfl ?_
   refine WO.off rfl rfl (decide_eq_true g23) rfl ?_
   refine WO.off rfl rfl (decide_eq_true g23) rfl ?_
   refine WO.val (run_pickT rfl (decide_eq_true g23) rfl) rfl rfl rfl ?_
   refine WO.val (run_assign rfl) rfl rfl rfl ?_
   refine WO.nil ?_
   refine NX.go ?_
   refine WP.condT rfl rfl ?_
   refine WP.seq ?_
   refine WP.region rfl ?_
   refine WO.val (run_assign rfl) rfl rfl rfl ?_
   refine WO.val (run_assign rfl) rfl rfl rfl ?_
   refine WO.val (run_assign rfl) rfl rfl rfl ?_
   refine WO.nil ?_
   refine NX.go ?_
   refine WP.ret ?_
   refine NX.blkRet ?_
   refine NX.thenRet ?_
   refine NX.done (l := [.tmp 4, .tmp 5, .tmp 6]) rfl rfl ?_
   exact ⟨by rw [getText, if_neg (fun h => g16 h), if_pos (by omega)]; rfl, hS1⟩
  ·
   refine WO.on rfl rfl (decide_eq_false g23) ?_
   refine WO.val (run_move rfl) rfl rfl rfl ?_
   refine WO.on rfl rfl (decide_eq_false g23) ?_
   refine WO.val (run_move rfl) rfl rfl rfl ?_
   refine WO.on rfl rfl (decide_eq_false g23) ?_
   refine WO.val (run_convI Tryd.underlying44 (by kernel_rfl) rfl (IntWalk.u64_in _ (by omega))) rfl rfl rfl ?_
   refine WO.on rfl rfl (decide_eq_false g23) ?_
   refine WO.val (run_gtr rfl rfl) rfl rfl rfl ?_
   refine WO.val (run_pickF rfl (decide_eq_false g23) rfl) rfl rfl rfl ?_
   refine WO.val (run_assign rfl) rfl rfl rfl ?_
   refine WO.nil ?_
   refine NX.go ?_
   refine WP.condP rfl (fun g20 => ?_) (fun g20 => ?_)
   ·
    refine WP.seq ?_
    refine WP.region rfl ?_
    refine WO.val (run_assign rfl) rfl rfl rfl ?_
    refine WO.val (run_assign rfl) rfl rfl rfl ?_
    refine WO.val (run_assign rfl) rfl rfl rfl ?_
    refine WO.nil ?_
    refine NX.go ?_
    refine WP.ret ?_
    refine NX.blkRet ?_
    refine NX.thenRet ?_
    refine NX.done (l := [.tmp 4, .tmp 5, .tmp 6]) rfl rfl ?_
    exact ⟨by rw [getText, if_neg (fun h => g16 h), if_pos (by omega)]; rfl, hS1⟩
   ·
    refine WP.seq ?_
    refine WP.region rfl ?_
    refine WO.val (run_move rfl) rfl rfl rfl ?_
    refine WO.val (run_lenS rfl Tryd.underlying9 rfl) rfl rfl rfl ?_
    refine WO.val (run_move rfl) rfl rfl rfl ?_
    refine WO.val (run_sub rfl rfl (IntWalk.i64_in _ (by omega))) rfl rfl rfl ?_
    refine WO.val (run_convI Tryd.underlying44 (by kernel_rfl) rfl (IntWalk.u64_in _ (by omega))) rfl rfl rfl ?_
    refine WO.val (run_move rfl) rfl rfl rfl ?_
    refine WO.val (run_lss rfl rfl) rfl rfl rfl ?_
    refine WO.val (run_assign rfl) rfl rfl rfl ?_
    refine WO.nil ?_
    refine NX.go ?_
    refine WP.condP rfl (fun g29 => ?_) (fun g29 => ?_)
    ·
     refine WP.seq ?_
     refine WP.region rfl ?_
     refine WO.val (run_assign rfl) rfl rfl rfl ?_
     refine WO.val (run_assign rfl) rfl rfl rfl ?_
     refine WO.val (run_assign rfl) rfl rfl rfl ?_
     refine WO.nil ?_
     refine NX.go ?_
     refine WP.ret ?_
     refine NX.blkRet ?_
     refine NX.thenRet ?_
     refine NX.done (l := [.tmp 4, .tmp 5, .tmp 6]) rfl rfl ?_
     exact ⟨by rw [getText, if_neg (fun h => g16 h), if_neg (by omega), if_pos (by omega)]; rfl, hS1⟩
    ·
     refine WP.skip ?_
     refine NX.blk ?_
     refine NX.go ?_
     refine WP.seq ?_
     refine WP.region rfl ?_
     refine WO.val (run_move rfl) rfl rfl rfl ?_
     refine WO.val (run_move rfl) rfl rfl rfl ?_
     refine WO.val (run_move rfl) rfl rfl rfl ?_
     refine WO.val (run_move rfl) rfl rfl rfl ?_
     refine WO.val (run_convI Tryd.underlying3 (by kernel_rfl) rfl (IntWalk.i64_in _ (by omega))) rfl rfl rfl ?_
     refine WO.val (run_add rfl rfl (IntWalk.i64_in _ (by omega))) rfl rfl rfl ?_
     refine WO.val (run_sliceS (i := (getNum s).2.1) (j := ((getNum s).2.1 + (getNum s).1)) Tryd.underlying9 rfl ⟨_, rfl⟩ ⟨_, rfl⟩ (by omega) (by omega) rfl) rfl rfl rfl ?_
     refine WO.val (run_move rfl) rfl rfl rfl ?_
     refine WO.val (run_move rfl) rfl rfl rfl ?_
     refine WO.val (run_convI Tryd.underlying3 (by kernel_rfl) rfl (IntWalk.i64_in _ (by omega))) rfl rfl rfl ?_
     refine WO.val (run_add rfl rfl (IntWalk.i64_in _ (by omega))) rfl rfl rfl ?_
     refine WO.val (run_assign rfl) rfl rfl rfl ?_
     refine WO.val (run_assign rfl) rfl rfl rfl ?_
     refine WO.val (run_assign rfl) rfl rfl rfl ?_
     refine WO.nil ?_
     refine NX.go ?_
     refine WP.ret ?_
     refine NX.done (l := [.tmp 4, .tmp 5, .tmp 6]) rfl rfl ?_
     exact ⟨by rw [getText, if_neg (fun h => g16 h), if_neg (by omega), if_neg (by omega), List.drop_take, Nat.add_sub_cancel_left, Int.natCast_add]; rfl, hS1⟩
end Go.Proofs.YtcehlnpbdffdhaaDoor.SL
