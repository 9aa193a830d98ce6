/- Texts at the front of bytes. -/
import Derived.Test.YtcehlnpbdffdhaaDoorKd2
namespace Go.Proofs.YtcehlnpbdffdhaaDoor.SL
open Go.RowKit Go.Proofs.YtcehlnpbdffdhaaDoor
open Go.Proofs.YtcehlnpbdffdhaaDoorW.PrintLast (rtab opsOf)
set_option linter.unusedVariables false
set_option linter.unusedSimpArgs false

def getText (s : List UInt8) (most : Int) : List UInt8 × Nat × Int :=
  if ¬ (getNum s).2.2 = 0 then ([], 0, (getNum s).2.2) else if most < 0 ∨ most < ((getNum s).1 : Int) then ([], 0, 8) else if s.length - (getNum s).2.1 < (getNum s).1 then ([], 0, 1) else ((s.drop (getNum s).2.1).take (getNum s).1, (getNum s).2.1 + (getNum s).1, 0)
theorem getNum_ok {s : List UInt8} (h : (getNum s).2.2 = 0) : (getNum s).2.1 ≤ s.length ∧ (getNum s).1 < 18446744073709551616 := by
  cases s with
  | nil => simp [getNum] at h
  | cons c rest =>
    simp only [getNum] at h ⊢
    split
    · rename_i h1; rw [if_pos h1] at h; cases h
    · rename_i h1; rw [if_neg h1] at h
      split
      · rename_i h2; rw [if_pos h2] at h; cases h
      · rename_i h2; rw [if_neg h2] at h
        split
        · rename_i h3; rw [if_pos h3] at h; cases h
        · refine ⟨by simp; omega, ?_⟩
          have := beN_lt 8 (rest.take c.toNat) (by rw [List.length_take]; omega)
          exact this
theorem getText_spec {B w : World} {L : List HP} (s : List UInt8) (most : Int) (hs : s.length ≤ 140737488355328) (hm : most ≤ 9223372036854775807) (hS : St B L w) : Does Tryd.prog 86 [str s, Value.int .i64 most] w (fun v w1 => v = .tuple #[str (getText s most).1, .int .i64 ((getText s most).2.1 : Int), .int .i64 (getText s most).2.2] ∧ St B L w1) := by
 refine enter (n := 47) Tryd.func86 rfl rfl [str s, Value.int .i64 most] rfl ?_
 refine WP.seq ?_
 refine WP.region rfl ?_
 refine WO.val (run_assign rfl) rfl rfl rfl ?_
 refine WO.val (run_assign rfl) rfl rfl rfl ?_
 refine WO.val (run_assign rfl) rfl rfl rfl ?_
 refine WO.nil ?_
 refine NX.go ?_
 refine WP.seq ?_
 refine WP.region rfl ?_
 refine WO.val (run_move rfl) rfl rfl rfl ?_
 refine WO.call rfl rfl Ty.hd88 rfl (getNum_spec s hs hS) (fun v2 w1 pv2 => ?_)
 obtain ⟨rfl, hS1⟩ := pv2
 clear hS
 refine WO.val (run_move rfl) rfl rfl rfl ?_
 refine WO.val (run_extract rfl rfl) rfl rfl rfl ?_
 refine WO.val (run_extract rfl rfl) rfl rfl rfl ?_
 refine WO.val (run_extract rfl rfl) rfl rfl rfl ?_
 refine WO.val (run_assign rfl) rfl rfl rfl ?_
 refine WO.val (run_assign rfl) rfl rfl rfl ?_
 refine WO.val (run_assign rfl) rfl rfl rfl ?_
 refine WO.nil ?_
 refine NX.go ?_
 refine WP.seq ?_
 refine WP.block ?_
 refine WP.seq ?_
 refine WP.region rfl ?_
 refine WO.val (run_move rfl) rfl rfl rfl ?_
 refine WO.val (run_neq rfl rfl) rfl rfl rfl ?_
 refine WO.val (run_assign rfl) rfl rfl rfl ?_
 refine WO.nil ?_
 refine NX.go ?_
 refine WP.condP rfl (fun g17 => ?_) (fun g17 => ?_)
 ·
  refine WP.seq ?_
  refine WP.region rfl ?_
  refine WO.val (run_move rfl) rfl rfl rfl ?_
  refine WO.val (run_assign rfl) rfl rfl rfl ?_
  refine WO.val (run_assign rfl) rfl rfl rfl ?_
  refine WO.val (run_assign rfl) rfl rfl rfl ?_
  refine WO.nil ?_
  refine NX.go ?_
  refine WP.ret ?_
  refine NX.blkRet ?_
  refine NX.thenRet ?_
  refine NX.done (l := [.tmp 4, .tmp 5, .tmp 6]) rfl rfl ?_
  exact ⟨by rw [getText, if_pos g17]; rfl, hS1⟩
 ·
  have hok := getNum_ok (s := s) (Decidable.of_not_not g17)
  refine WP.seq ?_
  refine WP.region rfl ?_
  refine WO.val (run_move rfl) rfl rfl rfl ?_
  refine WO.val (run_lss rfl rfl) rfl rfl rfl ?_
  refine WO.val (run_move rfl) rfl rfl rfl ?_
  by_cases g24 : most < 0
  ·
   refine WO.off rfl rfl (decide_eq_true g24) rfl ?_
   refine WO.off rfl rfl (decide_eq_true g24) rfl ?_
   refine WO.off rfl rfl (decide_eq_true g24) rfl ?_
   refine WO.off rfl rfl (decide_eq_true g24) rfl ?_
   refine WO.val (run_pickT rfl (decide_eq_true g24) rfl) rfl rfl rfl ?_
   refine WO.val (run_assign rfl) rfl rfl rfl ?_
   refine WO.nil ?_
   refine NX.go ?_
   refine WP.condT rfl rfl ?_
   refine WP.seq ?_
   refine WP.region rfl ?_
   refine WO.val (run_assign rfl) rfl rfl rfl ?_
   refine WO.val (run_assign rfl) rfl rfl rfl ?_
   refine WO.val (run_assign rfl) rfl rfl rfl ?_
   refine WO.nil ?_
   refine NX.go ?_
   refine WP.ret ?_
   refine NX.blkRet ?_
   refine NX.thenRet ?_
   refine NX.done (l := [.tmp 4, .tmp 5, .tmp 6]) rfl rfl ?_
   exact ⟨by rw [getText, if_neg (fun h => g17 h), if_pos (by omega)]; rfl, hS1⟩
  ·
   refine WO.on rfl rfl (decide_eq_false g24) ?_
   refine WO.val (run_move rfl) rfl rfl rfl ?_
   refine WO.on rfl rfl (decide_eq_false g24) ?_
   refine WO.val (run_move rfl) rfl rfl rfl ?_
   refine WO.on rfl rfl (decide_eq_false g24) ?_
   refine WO.val (run_convI Tryd.underlying44 (by kernel_rfl) rfl (IntWalk.u64_in _ (by omega))) rfl rfl rfl ?_
   refine WO.on rfl rfl (decide_eq_false g24) ?_
   refine WO.val (run_gtr rfl rfl) rfl rfl rfl ?_
   refine WO.val (run_pickF rfl (decide_eq_false g24) rfl) rfl rfl rfl ?_
   refine WO.val (run_assign rfl) rfl rfl rfl ?_
   refine WO.nil ?_
   refine NX.go ?_
   refine WP.condP rfl (fun g21 => ?_) (fun g21 => ?_)
   ·
    refine WP.seq ?_
    refine WP.region rfl ?_
    refine WO.val (run_assign rfl) rfl rfl rfl ?_
    refine WO.val (run_assign rfl) rfl rfl rfl ?_
    refine WO.val (run_assign rfl) rfl rfl rfl ?_
    refine WO.nil ?_
    refine NX.go ?_
    refine WP.ret ?_
    refine NX.blkRet ?_
    refine NX.thenRet ?_
    refine NX.done (l := [.tmp 4, .tmp 5, .tmp 6]) rfl rfl ?_
    exact ⟨by rw [getText, if_neg (fun h => g17 h), if_pos (by omega)]; rfl, hS1⟩
   ·
    refine WP.seq ?_
    refine WP.region rfl ?_
    refine WO.val (run_move rfl) rfl rfl rfl ?_
    refine WO.val (run_move rfl) rfl rfl rfl ?_
    refine WO.val (run_lenS rfl Tryd.underlying9 rfl) rfl rfl rfl ?_
    refine WO.val (run_move rfl) rfl rfl rfl ?_
    refine WO.val (run_sub rfl rfl (IntWalk.i64_in _ (by omega))) rfl rfl rfl ?_
    refine WO.val (run_convI Tryd.underlying44 (by kernel_rfl) rfl (IntWalk.u64_in _ (by omega))) rfl rfl rfl ?_
    refine WO.val (run_gtr rfl rfl) rfl rfl rfl ?_
    refine WO.val (run_assign rfl) rfl rfl rfl ?_
    refine WO.nil ?_
    refine NX.go ?_
    refine WP.condP rfl (fun g30 => ?_) (fun g30 => ?_)
    ·
     refine WP.seq ?_
     refine WP.region rfl ?_
     refine WO.val (run_assign rfl) rfl rfl rfl ?_
     refine WO.val (run_assign rfl) rfl rfl rfl ?_
     refine WO.val (run_assign rfl) rfl rfl rfl ?_
     refine WO.nil ?_
     refine NX.go ?_
     refine WP.ret ?_
     refine NX.blkRet ?_
     refine NX.thenRet ?_
     refine NX.done (l := [.tmp 4, .tmp 5, .tmp 6]) rfl rfl ?_
     exact ⟨by rw [getText, if_neg (fun h => g17 h), if_neg (by omega), if_pos (by omega)]; rfl, hS1⟩
    ·
     refine WP.skip ?_
     refine NX.blk ?_
     refine NX.go ?_
     refine WP.seq ?_
     refine WP.region rfl ?_
     refine WO.val (run_move rfl) rfl rfl rfl ?_
     refine WO.val (run_move rfl) rfl rfl rfl ?_
     refine WO.val (run_convI Tryd.underlying3 (by kernel_rfl) rfl (IntWalk.i64_in _ (by omega))) rfl rfl rfl ?_
     refine WO.val (run_add rfl rfl (IntWalk.i64_in _ (by omega))) rfl rfl rfl ?_
     refine WO.val (run_assign rfl) rfl rfl rfl ?_
     refine WO.nil ?_
     refine NX.go ?_
     refine WP.seq ?_
     refine WP.region rfl ?_
     refine WO.val (run_move rfl) rfl rfl rfl ?_
     refine WO.val (run_move rfl) rfl rfl rfl ?_
     refine WO.val (run_move rfl) rfl rfl rfl ?_
     refine WO.val (run_sliceS (i := (getNum s).2.1) (j := ((getNum s).2.1 + (getNum s).1)) Tryd.underlying9 rfl ⟨_, rfl⟩ ⟨_, rfl⟩ (by omega) (by omega) rfl) rfl rfl rfl ?_
     refine WO.val (run_move rfl) rfl rfl rfl ?_
     refine WO.val (run_assign rfl) rfl rfl rfl ?_
     refine WO.val (run_assign rfl) rfl rfl rfl ?_
     refine WO.val (run_assign rfl) rfl rfl rfl ?_
     refine WO.nil ?_
     refine NX.go ?_
     refine WP.ret ?_
     refine NX.done (l := [.tmp 4, .tmp 5, .tmp 6]) rfl rfl ?_
     exact ⟨by rw [getText, if_neg (fun h => g17 h), if_neg (by omega), if_neg (by omega), List.drop_take, Nat.add_sub_cancel_left, Int.natCast_add]; rfl, hS1⟩
end Go.Proofs.YtcehlnpbdffdhaaDoor.SL
