/- Signed numbers and texts as bytes: the reference. -/
import Derived.Test.YtcehlnpbdffdhaaDoorKr1
namespace Go.Proofs.YtcehlnpbdffdhaaDoor.SL
open Go.RowKit Go.Proofs.YtcehlnpbdffdhaaDoor
open Go.Proofs.YtcehlnpbdffdhaaDoorW.PrintLast (rtab opsOf)
set_option linter.unusedVariables false
set_option linter.unusedSimpArgs false
theorem rsigned_spec {B w : World} {L : List HP} (n : Int) (h1 : -9223372036854775808 ≤ n) (h2 : n ≤ 9223372036854775807) (hS : St B L w) : Does Tryd.prog 46 [Value.int .i64 n] w (fun v w1 => v = str (numB (zig n)) ∧ St B L w1) := by
 refine enter (n := 16) Tryd.func46 rfl rfl [Value.int .i64 n] rfl ?_
 refine WP.seq ?_
 refine WP.region rfl ?_
 refine WO.val (run_assign rfl) rfl rfl rfl ?_
 refine WO.nil ?_
 refine NX.go ?_
 refine WP.seq ?_
 refine WP.seq ?_
 refine WP.region rfl ?_
 refine WO.val (run_move rfl) rfl rfl rfl ?_
 refine WO.val (run_lss rfl rfl) rfl rfl rfl ?_
 refine WO.nil ?_
 refine NX.go ?_
 refine WP.condP rfl (fun g4 => ?_) (fun g4 => ?_)
 ·
  refine WP.seq ?_
  have hz : (zig n : Int) = 2 * (0 - (n + 1)) + 1 := by unfold zig; rw [if_neg (by omega)]; omega
  refine WP.region rfl ?_
  refine WO.val (run_move rfl) rfl rfl rfl ?_
  refine WO.val (run_add rfl rfl (IntWalk.i64_in _ (by omega))) rfl rfl rfl ?_
  refine WO.val (run_neg rfl (IntWalk.i64_in _ (by omega))) rfl rfl rfl ?_
  refine WO.val (run_convI Tryd.underlying44 (by kernel_rfl) rfl (IntWalk.u64_in _ (by omega))) rfl rfl rfl ?_
  refine WO.val (run_mul rfl rfl (IntWalk.u64_in _ (by omega))) rfl rfl rfl ?_
  refine WO.val (run_add rfl rfl (IntWalk.u64_in _ (by omega))) rfl rfl rfl ?_
  refine WO.call rfl rfl Ty.hd45 rfl (by rw [← hz]; exact rnum_spec (zig n) (zig_lt h1 h2) hS) (fun v2 w1 pv2 => ?_)
  obtain ⟨rfl, hS1⟩ := pv2
  clear hS
  refine WO.val (run_assign rfl) rfl rfl rfl ?_
  refine WO.nil ?_
  refine NX.go ?_
  refine WP.ret ?_
  refine NX.thenRet ?_
  refine NX.done (l := [.tmp 2]) rfl rfl ?_
  exact ⟨rfl, hS1⟩
 ·
  refine WP.skip ?_
  refine NX.go ?_
  refine WP.seq ?_
  have hz : (zig n : Int) = 2 * n := by unfold zig; rw [if_pos (by omega)]; omega
  refine WP.region rfl ?_
  refine WO.val (run_move rfl) rfl rfl rfl ?_
  refine WO.val (run_convI Tryd.underlying44 (by kernel_rfl) rfl (IntWalk.u64_in _ (by omega))) rfl rfl rfl ?_
  refine WO.val (run_mul rfl rfl (IntWalk.u64_in _ (by omega))) rfl rfl rfl ?_
  refine WO.call rfl rfl Ty.hd45 rfl (by rw [← hz]; exact rnum_spec (zig n) (zig_lt h1 h2) hS) (fun v4 w3 pv4 => ?_)
  obtain ⟨rfl, hS3⟩ := pv4
  clear hS
  refine WO.val (run_assign rfl) rfl rfl rfl ?_
  refine WO.nil ?_
  refine NX.go ?_
  refine WP.ret ?_
  refine NX.done (l := [.tmp 2]) rfl rfl ?_
  exact ⟨rfl, hS3⟩
theorem rtext_spec {B w : World} {L : List HP} (s : List UInt8) (hs : s.length ≤ 9223372036854775000) (hS : St B L w) : Does Tryd.prog 47 [str s] w (fun v w1 => v = str (textB s) ∧ St B L w1) := by
 refine enter (n := 9) Tryd.func47 rfl rfl [str s] rfl ?_
 refine WP.seq ?_
 refine WP.region rfl ?_
 refine WO.val (run_assign rfl) rfl rfl rfl ?_
 refine WO.nil ?_
 refine NX.go ?_
 refine WP.seq ?_
 refine WP.region rfl ?_
 refine WO.val (run_move rfl) rfl rfl rfl ?_
 refine WO.val (run_lenS rfl Tryd.underlying9 rfl) rfl rfl rfl ?_
 refine WO.val (run_convI Tryd.underlying44 (by kernel_rfl) rfl (IntWalk.u64_in _ (by omega))) rfl rfl rfl ?_
 refine WO.call rfl rfl Ty.hd45 rfl (rnum_spec s.length (by omega) hS) (fun v2 w1 pv2 => ?_)
 obtain ⟨rfl, hS1⟩ := pv2
 clear hS
 refine WO.val (run_move rfl) rfl rfl rfl ?_
 refine WO.val (run_cat rfl rfl (by have := numB_len (show s.length < 18446744073709551616 by omega); simp; omega)) rfl rfl rfl ?_
 refine WO.val (run_assign rfl) rfl rfl rfl ?_
 refine WO.nil ?_
 refine NX.go ?_
 refine WP.ret ?_
 refine NX.done (l := [.tmp 2]) rfl rfl ?_
 exact ⟨rfl, hS1⟩
end Go.Proofs.YtcehlnpbdffdhaaDoor.SL
