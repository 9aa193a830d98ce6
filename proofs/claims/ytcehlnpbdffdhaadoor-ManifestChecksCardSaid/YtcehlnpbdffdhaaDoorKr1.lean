/- Numbers as bytes: the reference. -/
import Derived.Test.YtcehlnpbdffdhaaDoorKd4
namespace Go.Proofs.YtcehlnpbdffdhaaDoor.SL
open Go.RowKit Go.Proofs.YtcehlnpbdffdhaaDoor
open Go.Proofs.YtcehlnpbdffdhaaDoorW.PrintLast (rtab opsOf)
set_option linter.unusedVariables false
set_option linter.unusedSimpArgs false
theorem rdig_spec_t3 : rtab .any (opsOf Tryd.f83 3) = (true, [([], []), ([0], [0]), ([1], [1]), ([], []), ([3], [3]), ([4], [4]), ([5], [5]), ([6], [6]), ([2, 7], [2, 7]), ([8, 2, 0, 1, 2, 3, 4, 5, 6, 7, 8], [8])]) := by kernel_rfl
theorem rdig_spec (n : Nat) (hn : n < 18446744073709551616) {B w : World} {L : List HP} (hS : St B L w) : Does Tryd.prog 83 [Value.int .u64 (n : Int)] w (fun v w1 => v = str (beB n) ∧ St B L w1) := by
 refine enter (n := 14) Tryd.func83 rfl rfl [Value.int .u64 (n : Int)] rfl ?_
 refine WP.seq ?_
 refine WP.region rfl ?_
 refine WO.val (run_assign rfl) rfl rfl rfl ?_
 refine WO.nil ?_
 refine NX.go ?_
 refine WP.seq ?_
 refine WP.seq ?_
 refine WP.region rfl ?_
 refine WO.val (run_move rfl) rfl rfl rfl ?_
 refine WO.val (run_eql rfl rfl) rfl rfl rfl ?_
 refine WO.nil ?_
 refine NX.go ?_
 refine WP.condP rfl (fun g4 => ?_) (fun g4 => ?_)
 ·
  refine WP.seq ?_
  refine WP.region rfl ?_
  refine WO.val (run_assign rfl) rfl rfl rfl ?_
  refine WO.nil ?_
  refine NX.go ?_
  refine WP.ret ?_
  refine NX.thenRet ?_
  refine NX.done (l := [.tmp 2]) rfl rfl ?_
  exact ⟨by rw [show n = 0 by omega, beB_zero]; rfl, hS⟩
 ·
  refine WP.skip ?_
  refine NX.go ?_
  refine WP.seq ?_
  have hp : 0 < n := by omega
  have hdl := beB_len 8 (n / 256) (by omega)
  refine WD.start (fun w => True) [] #[false, false, false, false, false, false, false, false, false, false] Ty.mo rfl (by kernel_rfl) hS (fun _ h => trivial) (fun w1 hS1 s2 => ?_)
  clear hS
  refine WD.pure (i := 0) rdig_spec_t3 #[true, false, false, false, false, false, false, false, false, false] rfl rfl rfl (by kernel_rfl) (PQ.then PQ.body) rfl (fun w => run_move rfl) ?_
  refine WD.pure (i := 1) rdig_spec_t3 #[true, true, false, false, false, false, false, false, false, false] rfl rfl rfl (by kernel_rfl) (PQ.then PQ.body) rfl (fun w => run_quo rfl rfl (by omega) (by exact quo_u64 (by omega))) ?_
  refine WD.pure (i := 3) rdig_spec_t3 #[true, true, false, true, false, false, false, false, false, false] rfl rfl rfl (by kernel_rfl) (PQ.then PQ.body) rfl (fun w => run_move rfl) ?_
  refine WD.pure (i := 4) rdig_spec_t3 #[true, true, false, true, true, false, false, false, false, false] rfl rfl rfl (by kernel_rfl) (PQ.then PQ.body) rfl (fun w => run_rem rfl rfl (by omega) (IntWalk.rem_in _ _ (by omega))) ?_
  refine WD.pure (i := 5) rdig_spec_t3 #[true, true, false, true, true, true, false, false, false, false] rfl rfl rfl (by kernel_rfl) (PQ.then PQ.body) rfl (fun w => run_convI Tryd.underlying5 (by kernel_rfl) rfl (show IntKind.u8.wrap ((n % 256 : Nat) : Int) = ((UInt8.ofNat (n % 256)).toNat : Int) by rw [IntKind.wrap_u8, u8_ofNat])) ?_
  refine WD.two (i := 2) (k := 6) rdig_spec_t3 #[true, true, true, true, true, true, false, false, false, false] #[true, true, false, true, true, true, true, false, false, false] rfl rfl (by kernel_rfl) ?_ ?_
  ·
   refine WO.call rfl rfl Ty.hd83 rfl (rdig_spec (n / 256) (by omega) hS1) (fun v4 w3 pv4 => ?_)
   obtain ⟨rfl, hS3⟩ := pv4
   clear hS1
   refine WO.nil ?_
   have s5 : True := trivial
   refine NX.held s5 ?_
   refine WD.one (i := 6) rdig_spec_t3 #[true, true, true, true, true, true, true, false, false, false] rfl (by kernel_rfl) ?_
   refine WO.buildSlice (l := [Value.int .u8 ((UInt8.ofNat (n % 256)).toNat : Int)]) hS3 Tryd.underlying52 rfl (fun w => by kernel_rfl) rfl (fun g7 w6 lg7 hS6 => ?_)
   clear hS3
   have hS6 := hS6.own_of_cel (m := 1) (k := 1) rfl
   refine WO.nil ?_
   have s8 : True := trivial
   refine NX.held s8 ?_
   refine WD.one (i := 7) rdig_spec_t3 #[true, true, true, true, true, true, true, true, false, false] rfl (by kernel_rfl) ?_
   refine WO.val (run_bytesToStr Tryd.underlying52 Tryd.underlying5 Tryd.underlying9 rfl (show Rd w6 (some ⟨g7, 0, none⟩) 1 1 (List.map (fun b : UInt8 => Value.int .u8 (b.toNat : Int)) [UInt8.ofNat (n % 256)]) from hS6.own_rd_i 0 rfl)) rfl rfl rfl ?_
   refine WO.nil ?_
   have s9 : True := trivial
   refine NX.held s9 ?_
   refine WD.pure (i := 8) rdig_spec_t3 #[true, true, true, true, true, true, true, true, true, false] rfl rfl rfl (by kernel_rfl) (PQ.then PQ.body) rfl (fun w => run_cat rfl rfl (by simp; omega)) ?_
   refine WD.pure (i := 9) rdig_spec_t3 #[true, true, true, true, true, true, true, true, true, true] rfl rfl rfl (by kernel_rfl) (PQ.then PQ.body) rfl (fun w => run_assign rfl) ?_
   refine WD.done rdig_spec_t3 (by kernel_rfl) ?_
   refine NX.go ?_
   refine WP.ret ?_
   refine NX.done (l := [.tmp 2]) rfl rfl ?_
   exact ⟨by rw [beB_pos hp]; rfl, hS6.drop⟩
  ·
   refine WO.buildSlice (l := [Value.int .u8 ((UInt8.ofNat (n % 256)).toNat : Int)]) hS1 Tryd.underlying52 rfl (fun w => by kernel_rfl) rfl (fun g11 w10 lg11 hS10 => ?_)
   clear hS1
   have hS10 := hS10.own_of_cel (m := 1) (k := 1) rfl
   refine WO.nil ?_
   have s12 : True := trivial
   refine NX.held s12 ?_
   refine WD.two (i := 2) (k := 7) rdig_spec_t3 #[true, true, true, true, true, true, true, false, false, false] #[true, true, false, true, true, true, true, true, false, false] rfl rfl (by kernel_rfl) ?_ ?_
   ·
    refine WO.call rfl rfl Ty.hd83 rfl (rdig_spec (n / 256) (by omega) hS10) (fun v14 w13 pv14 => ?_)
    obtain ⟨rfl, hS13⟩ := pv14
    clear hS10
    refine WO.nil ?_
    have s15 : True := trivial
    refine NX.held s15 ?_
    refine WD.one (i := 7) rdig_spec_t3 #[true, true, true, true, true, true, true, true, false, false] rfl (by kernel_rfl) ?_
    refine WO.val (run_bytesToStr Tryd.underlying52 Tryd.underlying5 Tryd.underlying9 rfl (show Rd w13 (some ⟨g11, 0, none⟩) 1 1 (List.map (fun b : UInt8 => Value.int .u8 (b.toNat : Int)) [UInt8.ofNat (n % 256)]) from hS13.own_rd_i 0 rfl)) rfl rfl rfl ?_
    refine WO.nil ?_
    have s16 : True := trivial
    refine NX.held s16 ?_
    refine WD.pure (i := 8) rdig_spec_t3 #[true, true, true, true, true, true, true, true, true, false] rfl rfl rfl (by kernel_rfl) (PQ.then PQ.body) rfl (fun w => run_cat rfl rfl (by simp; omega)) ?_
    refine WD.pure (i := 9) rdig_spec_t3 #[true, true, true, true, true, true, true, true, true, true] rfl rfl rfl (by kernel_rfl) (PQ.then PQ.body) rfl (fun w => run_assign rfl) ?_
    refine WD.done rdig_spec_t3 (by kernel_rfl) ?_
    refine NX.go ?_
    refine WP.ret ?_
    refine NX.done (l := [.tmp 2]) rfl rfl ?_
    exact ⟨by rw [beB_pos hp]; rfl, hS13.drop⟩
   ·
    refine WO.val (run_bytesToStr Tryd.underlying52 Tryd.underlying5 Tryd.underlying9 rfl (show Rd w10 (some ⟨g11, 0, none⟩) 1 1 (List.map (fun b : UInt8 => Value.int .u8 (b.toNat : Int)) [UInt8.ofNat (n % 256)]) from hS10.own_rd_i 0 rfl)) rfl rfl rfl ?_
    refine WO.nil ?_
    have s17 : True := trivial
    refine NX.held s17 ?_
    refine WD.one (i := 2) rdig_spec_t3 #[true, true, true, true, true, true, true, true, false, false] rfl (by kernel_rfl) ?_
    refine WO.call rfl rfl Ty.hd83 rfl (rdig_spec (n / 256) (by omega) hS10) (fun v19 w18 pv19 => ?_)
    obtain ⟨rfl, hS18⟩ := pv19
    clear hS10
    refine WO.nil ?_
    have s20 : True := trivial
    refine NX.held s20 ?_
    refine WD.pure (i := 8) rdig_spec_t3 #[true, true, true, true, true, true, true, true, true, false] rfl rfl rfl (by kernel_rfl) (PQ.then PQ.body) rfl (fun w => run_cat rfl rfl (by simp; omega)) ?_
    refine WD.pure (i := 9) rdig_spec_t3 #[true, true, true, true, true, true, true, true, true, true] rfl rfl rfl (by kernel_rfl) (PQ.then PQ.body) rfl (fun w => run_assign rfl) ?_
    refine WD.done rdig_spec_t3 (by kernel_rfl) ?_
    refine NX.go ?_
    refine WP.ret ?_
    refine NX.done (l := [.tmp 2]) rfl rfl ?_
    exact ⟨by rw [beB_pos hp]; rfl, hS18.drop⟩
termination_by n
decreasing_by all_goals exact Nat.div_lt_self (by assumption) (by decide)
theorem rnum_spec (n : Nat) (hn : n < 18446744073709551616) {B w : World} {L : List HP} (hS : St B L w) : Does Tryd.prog 45 [Value.int .u64 (n : Int)] w (fun v w1 => v = str (numB n) ∧ St B L w1) := by
 refine enter (n := 13) Tryd.func45 rfl rfl [Value.int .u64 (n : Int)] rfl ?_
 refine WP.seq ?_
 refine WP.region rfl ?_
 refine WO.val (run_assign rfl) rfl rfl rfl ?_
 refine WO.nil ?_
 refine NX.go ?_
 refine WP.seq ?_
 refine WP.region rfl ?_
 refine WO.val (run_move rfl) rfl rfl rfl ?_
 refine WO.call rfl rfl Ty.hd83 rfl (rdig_spec n hn hS) (fun v2 w1 pv2 => ?_)
 obtain ⟨rfl, hS1⟩ := pv2
 clear hS
 refine WO.val (run_assign rfl) rfl rfl rfl ?_
 refine WO.nil ?_
 refine NX.go ?_
 refine WP.seq ?_
 have hbl := beB_len 8 n (by simpa using hn)
 refine WP.region rfl ?_
 refine WO.val (run_move rfl) rfl rfl rfl ?_
 refine WO.val (run_lenS rfl Tryd.underlying9 rfl) rfl rfl rfl ?_
 refine WO.val (run_convI Tryd.underlying5 (by kernel_rfl) rfl (show IntKind.u8.wrap ((beB n).length : Int) = ((UInt8.ofNat (beB n).length).toNat : Int) by rw [IntKind.wrap_u8, u8_ofNat])) rfl rfl rfl ?_
 refine WO.buildSlice (l := [Value.int .u8 ((UInt8.ofNat (beB n).length).toNat : Int)]) hS1 Tryd.underlying52 rfl (fun w => by kernel_rfl) rfl (fun g4 w3 lg4 hS3 => ?_)
 clear hS1
 have hS3 := hS3.own_of_cel (m := 1) (k := 1) rfl
 refine WO.val (run_bytesToStr Tryd.underlying52 Tryd.underlying5 Tryd.underlying9 rfl (show Rd w3 (some ⟨g4, 0, none⟩) 1 1 (List.map (fun b : UInt8 => Value.int .u8 (b.toNat : Int)) [UInt8.ofNat (beB n).length]) from hS3.own_rd_i 0 rfl)) rfl rfl rfl ?_
 refine WO.val (run_move rfl) rfl rfl rfl ?_
 refine WO.val (run_cat rfl rfl (by simp; omega)) rfl rfl rfl ?_
 refine WO.val (run_assign rfl) rfl rfl rfl ?_
 refine WO.nil ?_
 refine NX.go ?_
 refine WP.ret ?_
 refine NX.done (l := [.tmp 2]) rfl rfl ?_
 exact ⟨rfl, hS3.drop⟩
end Go.Proofs.YtcehlnpbdffdhaaDoor.SL
