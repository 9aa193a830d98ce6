import Derived.Test.YtcehlnpbdffdhaaGreatDoorKdM
import Derived.Test.YtcehlnpbdffdhaaGreatDoorKg
import Derived.Test.YtcehlnpbdffdhaaGreatDoorKuM
import Derived.Test.YtcehlnpbdffdhaaGreatDoorMan
/- Numbers as bytes: the reference. -/
namespace Go.Proofs.YtcehlnpbdffdhaaGreatDoor.SL
open Go.RowKit Go.Proofs.YtcehlnpbdffdhaaGreatDoor
open Go.Proofs.YtcehlnpbdffdhaaGreatDoorW.PrintLast (rtab opsOf)
set_option linter.unusedVariables false
set_option linter.unusedSimpArgs false
theorem rdig_spec_t3 : rtab .any (opsOf Tryz.f116 3) = (true, [([], []), ([0], [0]), ([1], [1]), ([], []), ([3], [3]), ([4], [4]), ([5], [5]), ([6], [6]), ([2, 7], [2, 7]), ([8, 2, 0, 1, 2, 3, 4, 5, 6, 7, 8], [8])]) := by kernel_rfl
theorem rdig_spec (n : Nat) (hn : n < 18446744073709551616) {B w : World} {L : List HP} (hS : St B L w) : Does Tryz.prog 116 [Value.int .u64 (n : Int)] w (fun v w1 => v = str (beB n) ∧ St B L w1) := by
 refine enter (n := 14) Tryz.func116 rfl rfl [Value.int .u64 (n : Int)] rfl ?_
 refine WP.seq (WP.region rfl ?_)
 refine WO.asg rfl rfl ?_
 refine WO.nil (NX.go (WP.seq (WP.seq (WP.region rfl ?_))))
 refine WO.mv rfl rfl ?_
 refine WO.val (run_eql rfl rfl) rfl rfl rfl ?_
 refine WO.nil (NX.go ?_)
 refine WP.condP rfl (fun g4 => ?_) (fun g4 => ?_)
 ·
  refine WP.seq (WP.region rfl ?_)
  refine WO.asg rfl rfl ?_
  refine WO.nil (NX.go (WP.ret (NX.thenRet ?_)))
  refine NX.done (l := [.tmp 2]) rfl rfl ?_
  exact ⟨by rw [show n = 0 by omega, beB_zero]; rfl, hS⟩
 ·
  refine WP.skip (NX.go (WP.seq ?_))
  have hp : 0 < n := by omega
  have hdl := beB_len 8 (n / 256) (by omega)
  refine WD.start (fun w => True) [] (bt 10 0) Ty.mo rfl (by kernel_rfl) hS (fun _ h => trivial) (fun w1 hS1 s2 => ?_)
  clear hS
  refine WD.pure (i := 0) rdig_spec_t3 (bt 10 1) rfl rfl rfl (by kernel_rfl) (PQ.then PQ.body) rfl (fun w => run_move rfl) ?_
  refine WD.pure (i := 1) rdig_spec_t3 (bt 10 3) rfl rfl rfl (by kernel_rfl) (PQ.then PQ.body) rfl (fun w => run_quo rfl rfl (by omega) (by exact quo_u64 (by omega))) ?_
  refine WD.pure (i := 3) rdig_spec_t3 (bt 10 11) rfl rfl rfl (by kernel_rfl) (PQ.then PQ.body) rfl (fun w => run_move rfl) ?_
  refine WD.pure (i := 4) rdig_spec_t3 (bt 10 27) rfl rfl rfl (by kernel_rfl) (PQ.then PQ.body) rfl (fun w => run_rem rfl rfl (by omega) (IntWalk.rem_in _ _ (by omega))) ?_
  refine WD.pure (i := 5) rdig_spec_t3 (bt 10 59) rfl rfl rfl (by kernel_rfl) (PQ.then PQ.body) rfl (fun w => run_convI Tryz.underlying5 (by kernel_rfl) rfl (show IntKind.u8.wrap ((n % 256 : Nat) : Int) = ((UInt8.ofNat (n % 256)).toNat : Int) by rw [IntKind.wrap_u8, u8_ofNat])) ?_
  refine WD.two (i := 2) (k := 6) rdig_spec_t3 (bt 10 63) (bt 10 123) rfl rfl (by kernel_rfl) ?_ ?_
  ·
   refine WO.call rfl rfl Ty.hd116 rfl (rdig_spec (n / 256) (by omega) hS1) (fun v4 w3 pv4 => ?_)
   obtain ⟨rfl, hS3⟩ := pv4
   clear hS1
   refine WO.nil ?_
   have s5 : True := trivial
   refine NX.held s5 ?_
   refine WD.one (i := 6) rdig_spec_t3 (bt 10 127) rfl (by kernel_rfl) ?_
   refine WO.buildSlice (l := [Value.int .u8 ((UInt8.ofNat (n % 256)).toNat : Int)]) hS3 Tryz.underlying120 rfl (fun w => by kernel_rfl) rfl (fun g7 w6 lg7 hS6 => ?_)
   clear hS3
   have hS6 := hS6.own_of_cel (m := 1) (k := 1) rfl
   refine WO.nil ?_
   have s8 : True := trivial
   refine NX.held s8 ?_
   refine WD.one (i := 7) rdig_spec_t3 (bt 10 255) rfl (by kernel_rfl) ?_
   refine WO.val (run_bytesToStr Tryz.underlying120 Tryz.underlying5 Tryz.underlying9 rfl (show Rd w6 (some ⟨g7, 0, none⟩) 1 1 (List.map (fun b : UInt8 => Value.int .u8 (b.toNat : Int)) [UInt8.ofNat (n % 256)]) from hS6.own_rd_i 0 rfl)) rfl rfl rfl ?_
   refine WO.nil ?_
   have s9 : True := trivial
   refine NX.held s9 ?_
   refine WD.pure (i := 8) rdig_spec_t3 (bt 10 511) rfl rfl rfl (by kernel_rfl) (PQ.then PQ.body) rfl (fun w => run_cat rfl rfl (by simp; omega)) ?_
   refine WD.pure (i := 9) rdig_spec_t3 (bt 10 1023) rfl rfl rfl (by kernel_rfl) (PQ.then PQ.body) rfl (fun w => run_assign rfl) ?_
   refine WD.done rdig_spec_t3 (by kernel_rfl) ?_
   refine NX.go (WP.ret ?_)
   refine NX.done (l := [.tmp 2]) rfl rfl ?_
   exact ⟨by rw [beB_pos hp]; rfl, hS6.drop⟩
  ·
   refine WO.buildSlice (l := [Value.int .u8 ((UInt8.ofNat (n % 256)).toNat : Int)]) hS1 Tryz.underlying120 rfl (fun w => by kernel_rfl) rfl (fun g11 w10 lg11 hS10 => ?_)
   clear hS1
   have hS10 := hS10.own_of_cel (m := 1) (k := 1) rfl
   refine WO.nil ?_
   have s12 : True := trivial
   refine NX.held s12 ?_
   refine WD.two (i := 2) (k := 7) rdig_spec_t3 (bt 10 127) (bt 10 251) rfl rfl (by kernel_rfl) ?_ ?_
   ·
    refine WO.call rfl rfl Ty.hd116 rfl (rdig_spec (n / 256) (by omega) hS10) (fun v14 w13 pv14 => ?_)
    obtain ⟨rfl, hS13⟩ := pv14
    clear hS10
    refine WO.nil ?_
    have s15 : True := trivial
    refine NX.held s15 ?_
    refine WD.one (i := 7) rdig_spec_t3 (bt 10 255) rfl (by kernel_rfl) ?_
    refine WO.val (run_bytesToStr Tryz.underlying120 Tryz.underlying5 Tryz.underlying9 rfl (show Rd w13 (some ⟨g11, 0, none⟩) 1 1 (List.map (fun b : UInt8 => Value.int .u8 (b.toNat : Int)) [UInt8.ofNat (n % 256)]) from hS13.own_rd_i 0 rfl)) rfl rfl rfl ?_
    refine WO.nil ?_
    have s16 : True := trivial
    refine NX.held s16 ?_
    refine WD.pure (i := 8) rdig_spec_t3 (bt 10 511) rfl rfl rfl (by kernel_rfl) (PQ.then PQ.body) rfl (fun w => run_cat rfl rfl (by simp; omega)) ?_
    refine WD.pure (i := 9) rdig_spec_t3 (bt 10 1023) rfl rfl rfl (by kernel_rfl) (PQ.then PQ.body) rfl (fun w => run_assign rfl) ?_
    refine WD.done rdig_spec_t3 (by kernel_rfl) ?_
    refine NX.go (WP.ret ?_)
    refine NX.done (l := [.tmp 2]) rfl rfl ?_
    exact ⟨by rw [beB_pos hp]; rfl, hS13.drop⟩
   ·
    refine WO.val (run_bytesToStr Tryz.underlying120 Tryz.underlying5 Tryz.underlying9 rfl (show Rd w10 (some ⟨g11, 0, none⟩) 1 1 (List.map (fun b : UInt8 => Value.int .u8 (b.toNat : Int)) [UInt8.ofNat (n % 256)]) from hS10.own_rd_i 0 rfl)) rfl rfl rfl ?_
    refine WO.nil ?_
    have s17 : True := trivial
    refine NX.held s17 ?_
    refine WD.one (i := 2) rdig_spec_t3 (bt 10 255) rfl (by kernel_rfl) ?_
    refine WO.call rfl rfl Ty.hd116 rfl (rdig_spec (n / 256) (by omega) hS10) (fun v19 w18 pv19 => ?_)
    obtain ⟨rfl, hS18⟩ := pv19
    clear hS10
    refine WO.nil ?_
    have s20 : True := trivial
    refine NX.held s20 ?_
    refine WD.pure (i := 8) rdig_spec_t3 (bt 10 511) rfl rfl rfl (by kernel_rfl) (PQ.then PQ.body) rfl (fun w => run_cat rfl rfl (by simp; omega)) ?_
    refine WD.pure (i := 9) rdig_spec_t3 (bt 10 1023) rfl rfl rfl (by kernel_rfl) (PQ.then PQ.body) rfl (fun w => run_assign rfl) ?_
    refine WD.done rdig_spec_t3 (by kernel_rfl) ?_
    refine NX.go (WP.ret ?_)
    refine NX.done (l := [.tmp 2]) rfl rfl ?_
    exact ⟨by rw [beB_pos hp]; rfl, hS18.drop⟩
termination_by n
decreasing_by all_goals exact Nat.div_lt_self (by assumption) (by decide)
theorem rnum_spec (n : Nat) (hn : n < 18446744073709551616) {B w : World} {L : List HP} (hS : St B L w) : Does Tryz.prog 94 [Value.int .u64 (n : Int)] w (fun v w1 => v = str (numB n) ∧ St B L w1) := by
 refine enter (n := 13) Tryz.func94 rfl rfl [Value.int .u64 (n : Int)] rfl ?_
 refine WP.seq (WP.region rfl ?_)
 refine WO.asg rfl rfl ?_
 refine WO.nil (NX.go (WP.seq (WP.region rfl ?_)))
 refine WO.mv rfl rfl ?_
 refine WO.call rfl rfl Ty.hd116 rfl (rdig_spec n hn hS) (fun v2 w1 pv2 => ?_)
 obtain ⟨rfl, hS1⟩ := pv2
 clear hS
 refine WO.asg rfl rfl ?_
 refine WO.nil (NX.go (WP.seq ?_))
 have hbl := beB_len 8 n (by simpa using hn)
 refine WP.region rfl ?_
 refine WO.mv rfl rfl ?_
 refine WO.val (run_lenS rfl Tryz.underlying9 rfl) rfl rfl rfl ?_
 refine WO.val (run_convI Tryz.underlying5 (by kernel_rfl) rfl (show IntKind.u8.wrap ((beB n).length : Int) = ((UInt8.ofNat (beB n).length).toNat : Int) by rw [IntKind.wrap_u8, u8_ofNat])) rfl rfl rfl ?_
 refine WO.buildSlice (l := [Value.int .u8 ((UInt8.ofNat (beB n).length).toNat : Int)]) hS1 Tryz.underlying120 rfl (fun w => by kernel_rfl) rfl (fun g4 w3 lg4 hS3 => ?_)
 clear hS1
 have hS3 := hS3.own_of_cel (m := 1) (k := 1) rfl
 refine WO.val (run_bytesToStr Tryz.underlying120 Tryz.underlying5 Tryz.underlying9 rfl (show Rd w3 (some ⟨g4, 0, none⟩) 1 1 (List.map (fun b : UInt8 => Value.int .u8 (b.toNat : Int)) [UInt8.ofNat (beB n).length]) from hS3.own_rd_i 0 rfl)) rfl rfl rfl ?_
 refine WO.mv rfl rfl ?_
 refine WO.val (run_cat rfl rfl (by simp; omega)) rfl rfl rfl ?_
 refine WO.asg rfl rfl ?_
 refine WO.nil (NX.go (WP.ret ?_))
 refine NX.done (l := [.tmp 2]) rfl rfl ?_
 exact ⟨rfl, hS3.drop⟩
end Go.Proofs.YtcehlnpbdffdhaaGreatDoor.SL

/- Signed numbers and texts as bytes: the reference. -/
namespace Go.Proofs.YtcehlnpbdffdhaaGreatDoor.SL
open Go.RowKit Go.Proofs.YtcehlnpbdffdhaaGreatDoor
open Go.Proofs.YtcehlnpbdffdhaaGreatDoorW.PrintLast (rtab opsOf)
set_option linter.unusedVariables false
set_option linter.unusedSimpArgs false
theorem rsigned_spec {B w : World} {L : List HP} (n : Int) (h1 : -9223372036854775808 ≤ n) (h2 : n ≤ 9223372036854775807) (hS : St B L w) : Does Tryz.prog 95 [Value.int .i64 n] w (fun v w1 => v = str (numB (zig n)) ∧ St B L w1) := by
 refine enter (n := 16) Tryz.func95 rfl rfl [Value.int .i64 n] rfl ?_
 refine WP.seq (WP.region rfl ?_)
 refine WO.asg rfl rfl ?_
 refine WO.nil (NX.go (WP.seq (WP.seq (WP.region rfl ?_))))
 refine WO.mv rfl rfl ?_
 refine WO.val (run_lss rfl rfl) rfl rfl rfl ?_
 refine WO.nil (NX.go ?_)
 refine WP.condP rfl (fun g4 => ?_) (fun g4 => ?_)
 ·
  refine WP.seq ?_
  have hz : (zig n : Int) = 2 * (0 - (n + 1)) + 1 := by unfold zig; rw [if_neg (by omega)]; omega
  refine WP.region rfl ?_
  refine WO.mv rfl rfl ?_
  refine WO.val (run_add rfl rfl (IntWalk.i64_in _ (by omega))) rfl rfl rfl ?_
  refine WO.val (run_neg rfl (IntWalk.i64_in _ (by omega))) rfl rfl rfl ?_
  refine WO.val (run_convI Tryz.underlying43 (by kernel_rfl) rfl (IntWalk.u64_in _ (by omega))) rfl rfl rfl ?_
  refine WO.val (run_mul rfl rfl (IntWalk.u64_in _ (by omega))) rfl rfl rfl ?_
  refine WO.val (run_add rfl rfl (IntWalk.u64_in _ (by omega))) rfl rfl rfl ?_
  refine WO.call rfl rfl Ty.hd94 rfl (by rw [← hz]; exact rnum_spec (zig n) (zig_lt h1 h2) hS) (fun v2 w1 pv2 => ?_)
  obtain ⟨rfl, hS1⟩ := pv2
  clear hS
  refine WO.asg rfl rfl ?_
  refine WO.nil (NX.go (WP.ret (NX.thenRet ?_)))
  refine NX.done (l := [.tmp 2]) rfl rfl ?_
  exact ⟨rfl, hS1⟩
 ·
  refine WP.skip (NX.go (WP.seq ?_))
  have hz : (zig n : Int) = 2 * n := by unfold zig; rw [if_pos (by omega)]; omega
  refine WP.region rfl ?_
  refine WO.mv rfl rfl ?_
  refine WO.val (run_convI Tryz.underlying43 (by kernel_rfl) rfl (IntWalk.u64_in _ (by omega))) rfl rfl rfl ?_
  refine WO.val (run_mul rfl rfl (IntWalk.u64_in _ (by omega))) rfl rfl rfl ?_
  refine WO.call rfl rfl Ty.hd94 rfl (by rw [← hz]; exact rnum_spec (zig n) (zig_lt h1 h2) hS) (fun v4 w3 pv4 => ?_)
  obtain ⟨rfl, hS3⟩ := pv4
  clear hS
  refine WO.asg rfl rfl ?_
  refine WO.nil (NX.go (WP.ret ?_))
  refine NX.done (l := [.tmp 2]) rfl rfl ?_
  exact ⟨rfl, hS3⟩
theorem rtext_spec {B w : World} {L : List HP} (s : List UInt8) (hs : s.length ≤ 9223372036854775000) (hS : St B L w) : Does Tryz.prog 96 [str s] w (fun v w1 => v = str (textB s) ∧ St B L w1) := by
 refine enter (n := 9) Tryz.func96 rfl rfl [str s] rfl ?_
 refine WP.seq (WP.region rfl ?_)
 refine WO.asg rfl rfl ?_
 refine WO.nil (NX.go (WP.seq (WP.region rfl ?_)))
 refine WO.mv rfl rfl ?_
 refine WO.val (run_lenS rfl Tryz.underlying9 rfl) rfl rfl rfl ?_
 refine WO.val (run_convI Tryz.underlying43 (by kernel_rfl) rfl (IntWalk.u64_in _ (by omega))) rfl rfl rfl ?_
 refine WO.call rfl rfl Ty.hd94 rfl (rnum_spec s.length (by omega) hS) (fun v2 w1 pv2 => ?_)
 obtain ⟨rfl, hS1⟩ := pv2
 clear hS
 refine WO.mv rfl rfl ?_
 refine WO.val (run_cat rfl rfl (by have := numB_len (show s.length < 18446744073709551616 by omega); simp; omega)) rfl rfl rfl ?_
 refine WO.asg rfl rfl ?_
 refine WO.nil (NX.go (WP.ret ?_))
 refine NX.done (l := [.tmp 2]) rfl rfl ?_
 exact ⟨rfl, hS1⟩
end Go.Proofs.YtcehlnpbdffdhaaGreatDoor.SL

/- Numbers at the front: the reference. -/
namespace Go.Proofs.YtcehlnpbdffdhaaGreatDoor.SL
open Go.RowKit Go.Proofs.YtcehlnpbdffdhaaGreatDoor
open Go.Proofs.YtcehlnpbdffdhaaGreatDoorW.PrintLast (rtab opsOf)
set_option linter.unusedVariables false
set_option linter.unusedSimpArgs false
theorem rgetNum_spec {B w : World} {L : List HP} (s : List UInt8) (hs : s.length ≤ 140737488355328) (hS : St B L w) : Does Tryz.prog 120 [str s] w (fun v w1 => v = .tuple #[.int .u64 ((getNum s).1 : Int), .int .i64 ((getNum s).2.1 : Int), .int .i64 (getNum s).2.2] ∧ St B L w1) := by
 refine enter (n := 44) Tryz.func120 rfl rfl [str s] rfl ?_
 refine WP.seq (WP.region rfl ?_)
 refine WO.asg rfl rfl ?_
 refine WO.asg rfl rfl ?_
 refine WO.asg rfl rfl ?_
 refine WO.nil (NX.go (WP.seq (WP.seq (WP.region rfl ?_))))
 refine WO.mv rfl rfl ?_
 refine WO.val (run_eqlS rfl rfl) rfl rfl rfl ?_
 refine WO.nil (NX.go ?_)
 refine WP.condP rfl (fun g9 => ?_) (fun g9 => ?_)
 ·
  refine WP.seq (WP.region rfl ?_)
  refine WO.asg rfl rfl ?_
  refine WO.asg rfl rfl ?_
  refine WO.asg rfl rfl ?_
  refine WO.nil (NX.go (WP.ret (NX.thenRet ?_)))
  refine NX.done (l := [.tmp 2, .tmp 3, .tmp 4]) rfl rfl ?_
  exact ⟨by rw [show s = [] from g9]; rfl, hS⟩
 ·
  obtain ⟨c, rest, hs0⟩ : ∃ c rest, s = c :: rest := by cases s with | nil => exact absurd rfl g9 | cons c r => exact ⟨c, r, rfl⟩
  have hcl := UInt8.toNat_lt c
  have hl0 : s.length = rest.length + 1 := by rw [hs0]; rfl
  refine WP.skip (NX.go (WP.seq (WP.region rfl ?_)))
  refine WO.mv rfl rfl ?_
  refine WO.val (run_indexS Tryz.underlying9 rfl rfl (by omega) (by rw [hs0]; rfl)) rfl rfl rfl ?_
  refine WO.val (run_convI Tryz.underlying3 (by kernel_rfl) rfl (IntWalk.i64_in _ (by omega))) rfl rfl rfl ?_
  refine WO.asg rfl rfl ?_
  refine WO.nil (NX.go (WP.seq ?_))
  refine WP.meet (α := Unit) (fun x => match x with | _ => [(0, str s), (5, Value.int .i64 (c.toNat : Int))]) (fun x w => match x with | _ => (¬ 8 < c.toNat ∧ ¬ rest.length < c.toNat ∧ ¬ (0 < c.toNat ∧ rest.head? = some 0)) ∧ St B (L) w) ?_ (fun K1 => ?_)
  ·
   rintro _ w2 ⟨⟨h8, hl8, hz8⟩, hS2⟩
   clear hS
   refine NX.go (WP.seq (WP.region rfl ?_))
   refine WO.asg rfl rfl ?_
   refine WO.nil (NX.go (WP.seq (WP.seq (WP.region rfl ?_))))
   refine WO.asg rfl rfl ?_
   refine WO.nil (NX.go (WP.block ?_))
   refine WP.loop (α := Nat) (fun x => match x with | k => [(0, str s), (5, Value.int .i64 (c.toNat : Int)), (6, Value.int .u64 ((beN (rest.take k) : Nat) : Int)), (7, Value.int .i64 ((k : Int) + 1))]) (fun x w => match x with | k => (k ≤ c.toNat) ∧ St B (L) w) (fun x => match x with | k => c.toNat - k) 0 ⟨Nat.zero_le _, hS2⟩ (Sub.cons rfl (Sub.cons rfl (Sub.consE rfl (by first | rfl | first | rfl | (congr 1; omega) | (simp; done) | (simp; omega)) (Sub.consE rfl (by first | rfl | first | rfl | (congr 1; omega) | (simp; done) | (simp; omega)) (Sub.nil _))))) ?_
   rintro k w3 ⟨hk, hS3⟩
   clear hS2
   refine WP.seq (WP.seq (WP.region rfl ?_))
   refine WO.mv rfl rfl ?_
   refine WO.mv rfl rfl ?_
   refine WO.val (run_leq rfl rfl) rfl rfl rfl ?_
   refine WO.nil (NX.go ?_)
   refine WP.condP rfl (fun g31 => ?_) (fun g31 => ?_)
   ·
    refine WP.skip (NX.go (WP.seq (WP.block ?_)))
    obtain ⟨b, hb⟩ : ∃ b, rest[k]? = some b := ⟨_, List.getElem?_eq_getElem (by omega)⟩
    have hbl := UInt8.toNat_lt b
    have hnl := beN_lt 7 (rest.take k) (by rw [List.length_take]; omega)
    refine WP.region rfl ?_
    refine WO.mv rfl rfl ?_
    refine WO.val (run_mul rfl rfl (IntWalk.u64_in _ (by omega))) rfl rfl rfl ?_
    refine WO.mv rfl rfl ?_
    refine WO.mv rfl rfl ?_
    refine WO.val (run_indexS Tryz.underlying9 rfl rfl (by omega) (by rw [hs0, show ((k : Int) + 1).toNat = k + 1 by omega]; exact hb)) rfl rfl rfl ?_
    refine WO.val (run_convI Tryz.underlying43 (by kernel_rfl) rfl (IntWalk.u64_in _ (by omega))) rfl rfl rfl ?_
    refine WO.val (run_add rfl rfl (IntWalk.u64_in _ (by omega))) rfl rfl rfl ?_
    refine WO.asg rfl rfl ?_
    refine WO.nil (NX.blk (NX.go (WP.region rfl ?_)))
    refine WO.mv rfl rfl ?_
    refine WO.val (run_add rfl rfl (IntWalk.i64_in _ (by omega))) rfl rfl rfl ?_
    refine WO.asg rfl rfl ?_
    refine WO.nil ?_
    exact NX.again (k + 1) ⟨by omega, hS3⟩ (by show c.toNat - (k + 1) < c.toNat - k; omega) (Sub.cons rfl (Sub.cons rfl (Sub.consE rfl (by rw [List.take_add_one, hb, Option.toList_some, beN_snoc]; congr 1; omega) (Sub.consE rfl (by simp) (Sub.nil _)))))
   ·
    refine WP.exit (NX.thenExit (NX.thenExit ?_))
    refine NX.blkExit ?_
    refine NX.go (WP.seq (WP.region rfl ?_))
    refine WO.mv rfl rfl ?_
    refine WO.mv rfl rfl ?_
    refine WO.val (run_add rfl rfl (IntWalk.i64_in _ (by omega))) rfl rfl rfl ?_
    refine WO.asg rfl rfl ?_
    refine WO.asg rfl rfl ?_
    refine WO.asg rfl rfl ?_
    refine WO.nil (NX.go (WP.ret ?_))
    refine NX.done (l := [.tmp 2, .tmp 3, .tmp 4]) rfl rfl ?_
    exact ⟨by rw [hs0, getNum, if_neg h8, if_neg hl8, if_neg hz8, show beN (rest.take k) = beN (rest.take c.toNat) by rw [show k = c.toNat by omega]]; simp only [Int.natCast_add, Int.add_comm]; rfl, hS3⟩
  ·
   refine WP.block (WP.seq (WP.region rfl ?_))
   refine WO.mv rfl rfl ?_
   refine WO.val (run_gtr rfl rfl) rfl rfl rfl ?_
   refine WO.asg rfl rfl ?_
   refine WO.nil (NX.go ?_)
   refine WP.condP rfl (fun g13 => ?_) (fun g13 => ?_)
   ·
    refine WP.seq (WP.region rfl ?_)
    refine WO.asg rfl rfl ?_
    refine WO.asg rfl rfl ?_
    refine WO.asg rfl rfl ?_
    refine WO.nil (NX.go (WP.ret (NX.blkRet (NX.thenRet ?_))))
    refine NX.done (l := [.tmp 2, .tmp 3, .tmp 4]) rfl rfl ?_
    exact ⟨by rw [hs0, getNum, if_pos (by omega)]; rfl, hS⟩
   ·
    refine WP.seq (WP.region rfl ?_)
    refine WO.mv rfl rfl ?_
    refine WO.val (run_lenS rfl Tryz.underlying9 rfl) rfl rfl rfl ?_
    refine WO.mv rfl rfl ?_
    refine WO.val (run_leq rfl rfl) rfl rfl rfl ?_
    refine WO.asg rfl rfl ?_
    refine WO.nil (NX.go ?_)
    refine WP.condP rfl (fun g16 => ?_) (fun g16 => ?_)
    ·
     refine WP.seq (WP.region rfl ?_)
     refine WO.asg rfl rfl ?_
     refine WO.asg rfl rfl ?_
     refine WO.asg rfl rfl ?_
     refine WO.nil (NX.go (WP.ret (NX.blkRet (NX.thenRet ?_))))
     refine NX.done (l := [.tmp 2, .tmp 3, .tmp 4]) rfl rfl ?_
     exact ⟨by rw [hs0, getNum, if_neg (by omega), if_pos (by omega)]; rfl, hS⟩
    ·
     refine WP.seq (WP.region rfl ?_)
     refine WO.mv rfl rfl ?_
     refine WO.val (run_gtr rfl rfl) rfl rfl rfl ?_
     refine WO.mv rfl rfl ?_
     by_cases g24 : 0 < (c.toNat : Int)
     ·
      refine WO.on rfl rfl (decide_eq_true g24) ?_
      refine WO.mv rfl rfl ?_
      refine WO.on rfl rfl (decide_eq_true g24) ?_
      obtain ⟨d, hd0⟩ : ∃ d, rest.head? = some d := by cases rest with | nil => (exfalso; rw [hs0] at g16; simp at g16 <;> omega) | cons d r => exact ⟨d, rfl⟩
      refine WO.val (run_indexS Tryz.underlying9 rfl rfl (by omega) (by rw [hs0]; exact (List.head?_eq_getElem? (l := rest)).symm.trans hd0)) rfl rfl rfl ?_
      refine WO.on rfl rfl (decide_eq_true g24) ?_
      refine WO.val (run_eql rfl rfl) rfl rfl rfl ?_
      refine WO.val (run_pickT rfl (decide_eq_true g24) rfl) rfl rfl rfl ?_
      refine WO.asg rfl rfl ?_
      refine WO.nil (NX.go ?_)
      refine WP.condP rfl (fun g21 => ?_) (fun g21 => ?_)
      ·
       refine WP.seq (WP.region rfl ?_)
       refine WO.asg rfl rfl ?_
       refine WO.asg rfl rfl ?_
       refine WO.asg rfl rfl ?_
       refine WO.nil (NX.go (WP.ret (NX.blkRet (NX.thenRet ?_))))
       refine NX.done (l := [.tmp 2, .tmp 3, .tmp 4]) rfl rfl ?_
       exact ⟨by rw [hs0, getNum, if_neg (by omega), if_neg (by omega), if_pos ⟨by omega, by rw [hd0]; exact congrArg some ((u8z d).1 g21)⟩]; rfl, hS⟩
      ·
       refine WP.skip (NX.blk ?_)
       exact K1 () _ _ ⟨⟨by omega, by omega, fun h => by rw [hd0] at h; exact g21 ((u8z d).2 (Option.some.inj h.2))⟩, hS⟩ (Sub.cons rfl (Sub.cons rfl (Sub.nil _)))
     ·
      refine WO.off rfl rfl (decide_eq_false g24) rfl ?_
      refine WO.off rfl rfl (decide_eq_false g24) rfl ?_
      refine WO.off rfl rfl (decide_eq_false g24) rfl ?_
      refine WO.val (run_pickF rfl (decide_eq_false g24) rfl) rfl rfl rfl ?_
      refine WO.asg rfl rfl ?_
      refine WO.nil (NX.go ?_)
      refine WP.condF rfl rfl ?_
      refine WP.skip (NX.blk ?_)
      exact K1 () _ _ ⟨⟨by omega, by omega, fun h => absurd h.1 (by omega)⟩, hS⟩ (Sub.cons rfl (Sub.cons rfl (Sub.nil _)))
end Go.Proofs.YtcehlnpbdffdhaaGreatDoor.SL

/- Signed numbers and texts at the front: the reference. -/
namespace Go.Proofs.YtcehlnpbdffdhaaGreatDoor.SL
open Go.RowKit Go.Proofs.YtcehlnpbdffdhaaGreatDoor
open Go.Proofs.YtcehlnpbdffdhaaGreatDoorW.PrintLast (rtab opsOf)
set_option linter.unusedVariables false
set_option linter.unusedSimpArgs false
theorem rgetSigned_spec {B w : World} {L : List HP} (s : List UInt8) (hs : s.length ≤ 140737488355328) (hS : St B L w) : Does Tryz.prog 121 [str s] w (fun v w1 => v = .tuple #[.int .i64 (zag (getNum s).1), .int .i64 ((getNum s).2.1 : Int), .int .i64 (getNum s).2.2] ∧ St B L w1) := by
 refine enter (n := 29) Tryz.func121 rfl rfl [str s] rfl ?_
 refine WP.seq (WP.region rfl ?_)
 refine WO.asg rfl rfl ?_
 refine WO.asg rfl rfl ?_
 refine WO.asg rfl rfl ?_
 refine WO.nil (NX.go (WP.seq (WP.region rfl ?_)))
 refine WO.mv rfl rfl ?_
 refine WO.call rfl rfl Ty.hd120 rfl (rgetNum_spec s hs hS) (fun v2 w1 pv2 => ?_)
 obtain ⟨rfl, hS1⟩ := pv2
 clear hS
 refine WO.mv rfl rfl ?_
 refine WO.val (run_extract rfl rfl) rfl rfl rfl ?_
 refine WO.val (run_extract rfl rfl) rfl rfl rfl ?_
 refine WO.val (run_extract rfl rfl) rfl rfl rfl ?_
 refine WO.asg rfl rfl ?_
 refine WO.asg rfl rfl ?_
 refine WO.asg rfl rfl ?_
 refine WO.nil (NX.go (WP.seq (WP.seq ?_)))
 have hlt := getNum_lt s
 refine WP.region rfl ?_
 refine WO.mv rfl rfl ?_
 refine WO.val (run_rem rfl rfl (by omega) (IntWalk.rem_in _ _ (by omega))) rfl rfl rfl ?_
 refine WO.val (run_eql rfl rfl) rfl rfl rfl ?_
 refine WO.nil (NX.go ?_)
 refine WP.condP rfl (fun g16 => ?_) (fun g16 => ?_)
 ·
  refine WP.seq (WP.region rfl ?_)
  refine WO.mv rfl rfl ?_
  refine WO.val (run_quo rfl rfl (by omega) (by exact quo_u64 (by omega))) rfl rfl rfl ?_
  refine WO.val (run_convI Tryz.underlying2 (by kernel_rfl) rfl (IntWalk.i64_in _ (by omega))) rfl rfl rfl ?_
  refine WO.val (run_neg rfl (IntWalk.i64_in _ (by omega))) rfl rfl rfl ?_
  refine WO.val (run_sub rfl rfl (IntWalk.i64_in _ (by omega))) rfl rfl rfl ?_
  refine WO.mv rfl rfl ?_
  refine WO.mv rfl rfl ?_
  refine WO.asg rfl rfl ?_
  refine WO.asg rfl rfl ?_
  refine WO.asg rfl rfl ?_
  refine WO.nil (NX.go (WP.ret (NX.thenRet ?_)))
  refine NX.done (l := [.tmp 2, .tmp 3, .tmp 4]) rfl rfl ?_
  exact ⟨by rw [zag, if_neg (by omega), show 0 - ((getNum s).1 : Int) / 2 - 1 = -(((getNum s).1 / 2 : Nat) : Int) - 1 by omega]; rfl, hS1⟩
 ·
  refine WP.skip (NX.go (WP.seq (WP.region rfl ?_)))
  refine WO.mv rfl rfl ?_
  refine WO.val (run_quo rfl rfl (by omega) (by exact quo_u64 (by omega))) rfl rfl rfl ?_
  refine WO.val (run_convI Tryz.underlying2 (by kernel_rfl) rfl (IntWalk.i64_in _ (by omega))) rfl rfl rfl ?_
  refine WO.mv rfl rfl ?_
  refine WO.mv rfl rfl ?_
  refine WO.asg rfl rfl ?_
  refine WO.asg rfl rfl ?_
  refine WO.asg rfl rfl ?_
  refine WO.nil (NX.go (WP.ret ?_))
  refine NX.done (l := [.tmp 2, .tmp 3, .tmp 4]) rfl rfl ?_
  exact ⟨by rw [zag, if_pos (by omega)]; rfl, hS1⟩
theorem rgetText_spec {B w : World} {L : List HP} (s : List UInt8) (most : Int) (hs : s.length ≤ 140737488355328) (hm : most ≤ 9223372036854775807) (hS : St B L w) : Does Tryz.prog 119 [str s, Value.int .i64 most] w (fun v w1 => v = .tuple #[str (getText s most).1, .int .i64 ((getText s most).2.1 : Int), .int .i64 (getText s most).2.2] ∧ St B L w1) := by
 refine enter (n := 48) Tryz.func119 rfl rfl [str s, Value.int .i64 most] rfl ?_
 refine WP.seq (WP.region rfl ?_)
 refine WO.asg rfl rfl ?_
 refine WO.asg rfl rfl ?_
 refine WO.asg rfl rfl ?_
 refine WO.nil (NX.go (WP.seq (WP.region rfl ?_)))
 refine WO.mv rfl rfl ?_
 refine WO.call rfl rfl Ty.hd120 rfl (rgetNum_spec s hs hS) (fun v2 w1 pv2 => ?_)
 obtain ⟨rfl, hS1⟩ := pv2
 clear hS
 refine WO.mv rfl rfl ?_
 refine WO.val (run_extract rfl rfl) rfl rfl rfl ?_
 refine WO.val (run_extract rfl rfl) rfl rfl rfl ?_
 refine WO.val (run_extract rfl rfl) rfl rfl rfl ?_
 refine WO.asg rfl rfl ?_
 refine WO.asg rfl rfl ?_
 refine WO.asg rfl rfl ?_
 refine WO.nil (NX.go (WP.seq (WP.block (WP.seq (WP.region rfl ?_)))))
 refine WO.mv rfl rfl ?_
 refine WO.val (run_neq rfl rfl) rfl rfl rfl ?_
 refine WO.asg rfl rfl ?_
 refine WO.nil (NX.go ?_)
 refine WP.condP rfl (fun g16 => ?_) (fun g16 => ?_)
 ·
  refine WP.seq (WP.region rfl ?_)
  refine WO.mv rfl rfl ?_
  refine WO.asg rfl rfl ?_
  refine WO.asg rfl rfl ?_
  refine WO.asg rfl rfl ?_
  refine WO.nil (NX.go (WP.ret (NX.blkRet (NX.thenRet ?_))))
  refine NX.done (l := [.tmp 4, .tmp 5, .tmp 6]) rfl rfl ?_
  exact ⟨by rw [getText, if_pos g16]; rfl, hS1⟩
 ·
  have hok := getNum_ok (s := s) (Decidable.of_not_not g16)
  refine WP.seq (WP.region rfl ?_)
  refine WO.mv rfl rfl ?_
  refine WO.val (run_lss rfl rfl) rfl rfl rfl ?_
  refine WO.mv rfl rfl ?_
  by_cases g23 : most < 0
  ·
   refine WO.off rfl rfl (decide_eq_true g23) rfl ?_
   refine WO.off rfl rfl (decide_eq_true g23) rfl ?_
   refine WO.off rfl rfl (decide_eq_true g23) rfl ?_
   refine WO.off rfl rfl (decide_eq_true g23) rfl ?_
   refine WO.val (run_pickT rfl (decide_eq_true g23) rfl) rfl rfl rfl ?_
   refine WO.asg rfl rfl ?_
   refine WO.nil (NX.go ?_)
   refine WP.condT rfl rfl ?_
   refine WP.seq (WP.region rfl ?_)
   refine WO.asg rfl rfl ?_
   refine WO.asg rfl rfl ?_
   refine WO.asg rfl rfl ?_
   refine WO.nil (NX.go (WP.ret (NX.blkRet (NX.thenRet ?_))))
   refine NX.done (l := [.tmp 4, .tmp 5, .tmp 6]) rfl rfl ?_
   exact ⟨by rw [getText, if_neg (fun h => g16 h), if_pos (by omega)]; rfl, hS1⟩
  ·
   refine WO.on rfl rfl (decide_eq_false g23) ?_
   refine WO.mv rfl rfl ?_
   refine WO.on rfl rfl (decide_eq_false g23) ?_
   refine WO.mv rfl rfl ?_
   refine WO.on rfl rfl (decide_eq_false g23) ?_
   refine WO.val (run_convI Tryz.underlying43 (by kernel_rfl) rfl (IntWalk.u64_in _ (by omega))) rfl rfl rfl ?_
   refine WO.on rfl rfl (decide_eq_false g23) ?_
   refine WO.val (run_gtr rfl rfl) rfl rfl rfl ?_
   refine WO.val (run_pickF rfl (decide_eq_false g23) rfl) rfl rfl rfl ?_
   refine WO.asg rfl rfl ?_
   refine WO.nil (NX.go ?_)
   refine WP.condP rfl (fun g20 => ?_) (fun g20 => ?_)
   ·
    refine WP.seq (WP.region rfl ?_)
    refine WO.asg rfl rfl ?_
    refine WO.asg rfl rfl ?_
    refine WO.asg rfl rfl ?_
    refine WO.nil (NX.go (WP.ret (NX.blkRet (NX.thenRet ?_))))
    refine NX.done (l := [.tmp 4, .tmp 5, .tmp 6]) rfl rfl ?_
    exact ⟨by rw [getText, if_neg (fun h => g16 h), if_pos (by omega)]; rfl, hS1⟩
   ·
    refine WP.seq (WP.region rfl ?_)
    refine WO.mv rfl rfl ?_
    refine WO.val (run_lenS rfl Tryz.underlying9 rfl) rfl rfl rfl ?_
    refine WO.mv rfl rfl ?_
    refine WO.val (run_sub rfl rfl (IntWalk.i64_in _ (by omega))) rfl rfl rfl ?_
    refine WO.val (run_convI Tryz.underlying43 (by kernel_rfl) rfl (IntWalk.u64_in _ (by omega))) rfl rfl rfl ?_
    refine WO.mv rfl rfl ?_
    refine WO.val (run_lss rfl rfl) rfl rfl rfl ?_
    refine WO.asg rfl rfl ?_
    refine WO.nil (NX.go ?_)
    refine WP.condP rfl (fun g29 => ?_) (fun g29 => ?_)
    ·
     refine WP.seq (WP.region rfl ?_)
     refine WO.asg rfl rfl ?_
     refine WO.asg rfl rfl ?_
     refine WO.asg rfl rfl ?_
     refine WO.nil (NX.go (WP.ret (NX.blkRet (NX.thenRet ?_))))
     refine NX.done (l := [.tmp 4, .tmp 5, .tmp 6]) rfl rfl ?_
     exact ⟨by rw [getText, if_neg (fun h => g16 h), if_neg (by omega), if_pos (by omega)]; rfl, hS1⟩
    ·
     refine WP.skip (NX.blk (NX.go (WP.seq (WP.region rfl ?_))))
     refine WO.mv rfl rfl ?_
     refine WO.mv rfl rfl ?_
     refine WO.mv rfl rfl ?_
     refine WO.mv rfl rfl ?_
     refine WO.val (run_convI Tryz.underlying3 (by kernel_rfl) rfl (IntWalk.i64_in _ (by omega))) rfl rfl rfl ?_
     refine WO.val (run_add rfl rfl (IntWalk.i64_in _ (by omega))) rfl rfl rfl ?_
     refine WO.val (run_sliceS (i := (getNum s).2.1) (j := ((getNum s).2.1 + (getNum s).1)) Tryz.underlying9 rfl ⟨_, rfl⟩ ⟨_, rfl⟩ (by omega) (by omega) rfl) rfl rfl rfl ?_
     refine WO.mv rfl rfl ?_
     refine WO.mv rfl rfl ?_
     refine WO.val (run_convI Tryz.underlying3 (by kernel_rfl) rfl (IntWalk.i64_in _ (by omega))) rfl rfl rfl ?_
     refine WO.val (run_add rfl rfl (IntWalk.i64_in _ (by omega))) rfl rfl rfl ?_
     refine WO.asg rfl rfl ?_
     refine WO.asg rfl rfl ?_
     refine WO.asg rfl rfl ?_
     refine WO.nil (NX.go (WP.ret ?_))
     refine NX.done (l := [.tmp 4, .tmp 5, .tmp 6]) rfl rfl ?_
     exact ⟨by rw [getText, if_neg (fun h => g16 h), if_neg (by omega), if_neg (by omega), List.drop_take, Nat.add_sub_cancel_left, Int.natCast_add]; rfl, hS1⟩
end Go.Proofs.YtcehlnpbdffdhaaGreatDoor.SL

/- Frames: the reference. -/
namespace Go.Proofs.YtcehlnpbdffdhaaGreatDoor.SL
open Go.RowKit Go.Proofs.YtcehlnpbdffdhaaGreatDoor
open Go.Proofs.YtcehlnpbdffdhaaGreatDoorW.PrintLast (rtab opsOf)
set_option linter.unusedVariables false
set_option linter.unusedSimpArgs false
theorem rput_spec_t5 : rtab .any (opsOf Tryz.f97 5) = (true, [([], []), ([0], [0]), ([1], [1]), ([2], [2]), ([3], [3]), ([], []), ([5], [5]), ([6], [6]), ([4, 7], [4, 7]), ([8, 7, 0, 1, 2, 3, 4, 5, 6, 7, 8], [8])]) := by kernel_rfl
theorem rput_spec {B w : World} {L : List HP} (k : Int) (d : List UInt8) (hk1 : -9223372036854775808 ≤ k) (hk2 : k ≤ 9223372036854775807) (hd : d.length ≤ 140737488355328) (hS : St B L w) : Does Tryz.prog 97 [Value.agg #[Value.int .i64 k, str d]] w (fun v w1 => v = .tuple #[str (putF k d).1, .int .i64 (putF k d).2] ∧ St B L w1) := by
 refine enter (n := 33) Tryz.func97 rfl rfl [Value.agg #[Value.int .i64 k, str d]] rfl ?_
 refine WP.seq (WP.region rfl ?_)
 refine WO.box (l := [Value.int .i64 k, str d]) hS rfl rfl rfl (fun g2 w1 lg2 hS1 => ?_)
 clear hS
 refine WO.asg rfl rfl ?_
 refine WO.asg rfl rfl ?_
 refine WO.nil (NX.go (WP.seq (WP.block (WP.seq (WP.region rfl ?_)))))
 refine WO.val (run_fieldAddr (q := ⟨g2, 0, none⟩) (show fieldB Tryz.prog 144 0 = some 0 from by kernel_rfl) rfl rfl) rfl rfl rfl ?_
 refine WO.val (run_load Ty.ag3 rfl ((hS1.cel_at 0 rfl 0).trans rfl)) rfl rfl rfl ?_
 refine WO.val (run_lss rfl rfl) rfl rfl rfl ?_
 refine WO.mv rfl rfl ?_
 by_cases g9 : k < 1
 ·
  refine WO.off rfl rfl (decide_eq_true g9) rfl ?_
  refine WO.off rfl rfl (decide_eq_true g9) rfl ?_
  refine WO.off rfl rfl (decide_eq_true g9) rfl ?_
  refine WO.val (run_pickT rfl (decide_eq_true g9) rfl) rfl rfl rfl ?_
  refine WO.asg rfl rfl ?_
  refine WO.nil (NX.go ?_)
  refine WP.condT rfl rfl ?_
  refine WP.seq (WP.region rfl ?_)
  refine WO.asg rfl rfl ?_
  refine WO.asg rfl rfl ?_
  refine WO.nil (NX.go (WP.ret (NX.blkRet (NX.thenRet ?_))))
  refine NX.done (l := [.tmp 2, .tmp 3]) rfl rfl ?_
  exact ⟨by rw [putF, if_pos (.inl g9)]; rfl, hS1.drop⟩
 ·
  refine WO.on rfl rfl (decide_eq_false g9) ?_
  refine WO.val (run_fieldAddr (q := ⟨g2, 0, none⟩) (show fieldB Tryz.prog 144 0 = some 0 from by kernel_rfl) rfl rfl) rfl rfl rfl ?_
  refine WO.on rfl rfl (decide_eq_false g9) ?_
  refine WO.val (run_load Ty.ag3 rfl ((hS1.cel_at 0 rfl 0).trans rfl)) rfl rfl rfl ?_
  refine WO.on rfl rfl (decide_eq_false g9) ?_
  refine WO.val (run_gtr rfl rfl) rfl rfl rfl ?_
  refine WO.val (run_pickF rfl (decide_eq_false g9) rfl) rfl rfl rfl ?_
  refine WO.asg rfl rfl ?_
  refine WO.nil (NX.go ?_)
  refine WP.condP rfl (fun g5 => ?_) (fun g5 => ?_)
  ·
   refine WP.seq (WP.region rfl ?_)
   refine WO.asg rfl rfl ?_
   refine WO.asg rfl rfl ?_
   refine WO.nil (NX.go (WP.ret (NX.blkRet (NX.thenRet ?_))))
   refine NX.done (l := [.tmp 2, .tmp 3]) rfl rfl ?_
   exact ⟨by rw [putF, if_pos (.inr g5)]; rfl, hS1.drop⟩
  ·
   refine WP.seq (WP.region rfl ?_)
   refine WO.val (run_fieldAddr (q := ⟨g2, 1, none⟩) (show fieldB Tryz.prog 144 1 = some 1 from by kernel_rfl) rfl rfl) rfl rfl rfl ?_
   refine WO.val (run_load Ty.ag9 rfl ((hS1.cel_at 0 rfl 1).trans rfl)) rfl rfl rfl ?_
   refine WO.val (run_lenS rfl Tryz.underlying9 rfl) rfl rfl rfl ?_
   refine WO.val (run_gtr rfl rfl) rfl rfl rfl ?_
   refine WO.asg rfl rfl ?_
   refine WO.nil (NX.go ?_)
   refine WP.condP rfl (fun g14 => ?_) (fun g14 => ?_)
   ·
    refine WP.seq (WP.region rfl ?_)
    refine WO.asg rfl rfl ?_
    refine WO.asg rfl rfl ?_
    refine WO.nil (NX.go (WP.ret (NX.blkRet (NX.thenRet ?_))))
    refine NX.done (l := [.tmp 2, .tmp 3]) rfl rfl ?_
    exact ⟨by rw [putF, if_neg (fun h => h.elim g9 g5), if_pos (by omega)]; rfl, hS1.drop⟩
   ·
    refine WP.skip (NX.blk (NX.go (WP.seq ?_)))
    have htl : (textB d).length ≤ 65545 := by have := numB_len (show d.length < 18446744073709551616 by omega); unfold textB; rw [List.length_append]; omega
    have hu8 : IntKind.u8.wrap k = ((UInt8.ofNat k.toNat).toNat : Int) := by rw [IntKind.wrap_u8, u8_ofNat]; omega
    refine WD.start (fun w => (∀ j, World.cell? w ⟨g2, j, none⟩ = [Value.int .i64 k, str d][j]?)) [] (bt 10 0) Ty.mo rfl (by kernel_rfl) hS1 (fun _ h => h.cel_at 0 rfl) (fun w3 hS3 s4 => ?_)
    clear hS1
    refine WD.pure (i := 0) rput_spec_t5 (bt 10 1) rfl rfl rfl (by kernel_rfl) (PQ.then PQ.body) rfl (fun w => run_fieldAddr (q := ⟨g2, 0, none⟩) (show fieldB Tryz.prog 144 0 = some 0 from by kernel_rfl) rfl rfl) ?_
    refine WD.take (i := 1) rput_spec_t5 (bt 10 3) s4 rfl rfl rfl (by kernel_rfl) (PQ.then PQ.body) rfl (fun w hs => run_load Ty.ag3 rfl ((hs 0).trans rfl)) ?_
    refine WD.pure (i := 2) rput_spec_t5 (bt 10 7) rfl rfl rfl (by kernel_rfl) (PQ.then PQ.body) rfl (fun w => run_convI Tryz.underlying5 (by kernel_rfl) rfl hu8) ?_
    refine WD.pure (i := 5) rput_spec_t5 (bt 10 39) rfl rfl rfl (by kernel_rfl) (PQ.then PQ.body) rfl (fun w => run_fieldAddr (q := ⟨g2, 1, none⟩) (show fieldB Tryz.prog 144 1 = some 1 from by kernel_rfl) rfl rfl) ?_
    refine WD.take (i := 6) rput_spec_t5 (bt 10 103) s4 rfl rfl rfl (by kernel_rfl) (PQ.then PQ.body) rfl (fun w hs => run_load Ty.ag9 rfl ((hs 1).trans rfl)) ?_
    refine WD.two (i := 3) (k := 7) rput_spec_t5 (bt 10 111) (bt 10 231) rfl rfl (by kernel_rfl) ?_ ?_
    ·
     refine WO.buildSlice (l := [Value.int .u8 ((UInt8.ofNat k.toNat).toNat : Int)]) hS3 Tryz.underlying120 rfl (fun w => by kernel_rfl) rfl (fun g6 w5 lg6 hS5 => ?_)
     clear hS3
     have hS5 := hS5.own_of_cel (m := 1) (k := 1) rfl
     refine WO.nil ?_
     have s7 : (∀ j, World.cell? w5 ⟨g2, j, none⟩ = [Value.int .i64 k, str d][j]?) := hS5.cel_at 1 rfl
     refine NX.held s7 ?_
     refine WD.two (i := 4) (k := 7) rput_spec_t5 (bt 10 127) (bt 10 239) rfl rfl (by kernel_rfl) ?_ ?_
     ·
      refine WO.val (run_bytesToStr Tryz.underlying120 Tryz.underlying5 Tryz.underlying9 rfl (show Rd w5 (some ⟨g6, 0, none⟩) 1 1 (List.map (fun b : UInt8 => Value.int .u8 (b.toNat : Int)) [UInt8.ofNat k.toNat]) from hS5.own_rd_i 0 rfl)) rfl rfl rfl ?_
      refine WO.nil ?_
      have s8 : (∀ j, World.cell? w5 ⟨g2, j, none⟩ = [Value.int .i64 k, str d][j]?) := hS5.cel_at 1 rfl
      refine NX.held s8 ?_
      refine WD.one (i := 7) rput_spec_t5 (bt 10 255) rfl (by kernel_rfl) ?_
      refine WO.call rfl rfl Ty.hd96 rfl (rtext_spec d (by omega) hS5) (fun v10 w9 pv10 => ?_)
      obtain ⟨rfl, hS9⟩ := pv10
      clear hS5
      refine WO.nil ?_
      have s11 : (∀ j, World.cell? w9 ⟨g2, j, none⟩ = [Value.int .i64 k, str d][j]?) := hS9.cel_at 1 rfl
      refine NX.held s11 ?_
      refine WD.pure (i := 8) rput_spec_t5 (bt 10 511) rfl rfl rfl (by kernel_rfl) (PQ.then PQ.body) rfl (fun w => run_cat rfl rfl (by simp; omega)) ?_
      refine WD.pure (i := 9) rput_spec_t5 (bt 10 1023) rfl rfl rfl (by kernel_rfl) (PQ.then PQ.body) rfl (fun w => run_assign rfl) ?_
      refine WD.done rput_spec_t5 (by kernel_rfl) ?_
      refine NX.go (WP.seq ?_)
      have hsl : (UInt8.ofNat k.toNat :: textB d).length ≤ 65546 := by rw [List.length_cons]; omega
      refine WP.region rfl ?_
      refine WO.mv rfl rfl ?_
      refine WO.mv rfl rfl ?_
      refine WO.call rfl rfl Ty.hd118 rfl (rsumOf_spec (UInt8.ofNat k.toNat :: textB d) (by omega) hS9) (fun v13 w12 pv13 => ?_)
      obtain ⟨rfl, hS12⟩ := pv13
      clear hS9
      refine WO.call rfl rfl Ty.hd117 rfl (rsumBytes_spec (moreF 0 (UInt8.ofNat k.toNat :: textB d)) (moreF_lt _ _) hS12) (fun v15 w14 pv15 => ?_)
      obtain ⟨rfl, hS14⟩ := pv15
      clear hS12
      refine WO.val (run_cat rfl rfl (by simp [bytes4]; omega)) rfl rfl rfl ?_
      refine WO.asg rfl rfl ?_
      refine WO.asg rfl rfl ?_
      refine WO.nil (NX.go (WP.ret ?_))
      refine NX.done (l := [.tmp 2, .tmp 3]) rfl rfl ?_
      exact ⟨by rw [putF, if_neg (fun h => h.elim g9 g5), if_neg (by omega)]; rfl, hS14.drop.drop⟩
     ·
      refine WO.call rfl rfl Ty.hd96 rfl (rtext_spec d (by omega) hS5) (fun v17 w16 pv17 => ?_)
      obtain ⟨rfl, hS16⟩ := pv17
      clear hS5
      refine WO.nil ?_
      have s18 : (∀ j, World.cell? w16 ⟨g2, j, none⟩ = [Value.int .i64 k, str d][j]?) := hS16.cel_at 1 rfl
      refine NX.held s18 ?_
      refine WD.one (i := 4) rput_spec_t5 (bt 10 255) rfl (by kernel_rfl) ?_
      refine WO.val (run_bytesToStr Tryz.underlying120 Tryz.underlying5 Tryz.underlying9 rfl (show Rd w16 (some ⟨g6, 0, none⟩) 1 1 (List.map (fun b : UInt8 => Value.int .u8 (b.toNat : Int)) [UInt8.ofNat k.toNat]) from hS16.own_rd_i 0 rfl)) rfl rfl rfl ?_
      refine WO.nil ?_
      have s19 : (∀ j, World.cell? w16 ⟨g2, j, none⟩ = [Value.int .i64 k, str d][j]?) := hS16.cel_at 1 rfl
      refine NX.held s19 ?_
      refine WD.pure (i := 8) rput_spec_t5 (bt 10 511) rfl rfl rfl (by kernel_rfl) (PQ.then PQ.body) rfl (fun w => run_cat rfl rfl (by simp; omega)) ?_
      refine WD.pure (i := 9) rput_spec_t5 (bt 10 1023) rfl rfl rfl (by kernel_rfl) (PQ.then PQ.body) rfl (fun w => run_assign rfl) ?_
      refine WD.done rput_spec_t5 (by kernel_rfl) ?_
      refine NX.go (WP.seq ?_)
      have hsl : (UInt8.ofNat k.toNat :: textB d).length ≤ 65546 := by rw [List.length_cons]; omega
      refine WP.region rfl ?_
      refine WO.mv rfl rfl ?_
      refine WO.mv rfl rfl ?_
      refine WO.call rfl rfl Ty.hd118 rfl (rsumOf_spec (UInt8.ofNat k.toNat :: textB d) (by omega) hS16) (fun v21 w20 pv21 => ?_)
      obtain ⟨rfl, hS20⟩ := pv21
      clear hS16
      refine WO.call rfl rfl Ty.hd117 rfl (rsumBytes_spec (moreF 0 (UInt8.ofNat k.toNat :: textB d)) (moreF_lt _ _) hS20) (fun v23 w22 pv23 => ?_)
      obtain ⟨rfl, hS22⟩ := pv23
      clear hS20
      refine WO.val (run_cat rfl rfl (by simp [bytes4]; omega)) rfl rfl rfl ?_
      refine WO.asg rfl rfl ?_
      refine WO.asg rfl rfl ?_
      refine WO.nil (NX.go (WP.ret ?_))
      refine NX.done (l := [.tmp 2, .tmp 3]) rfl rfl ?_
      exact ⟨by rw [putF, if_neg (fun h => h.elim g9 g5), if_neg (by omega)]; rfl, hS22.drop.drop⟩
    ·
     refine WO.call rfl rfl Ty.hd96 rfl (rtext_spec d (by omega) hS3) (fun v25 w24 pv25 => ?_)
     obtain ⟨rfl, hS24⟩ := pv25
     clear hS3
     refine WO.nil ?_
     have s26 : (∀ j, World.cell? w24 ⟨g2, j, none⟩ = [Value.int .i64 k, str d][j]?) := hS24.cel_at 0 rfl
     refine NX.held s26 ?_
     refine WD.one (i := 3) rput_spec_t5 (bt 10 239) rfl (by kernel_rfl) ?_
     refine WO.buildSlice (l := [Value.int .u8 ((UInt8.ofNat k.toNat).toNat : Int)]) hS24 Tryz.underlying120 rfl (fun w => by kernel_rfl) rfl (fun g28 w27 lg28 hS27 => ?_)
     clear hS24
     have hS27 := hS27.own_of_cel (m := 1) (k := 1) rfl
     refine WO.nil ?_
     have s29 : (∀ j, World.cell? w27 ⟨g2, j, none⟩ = [Value.int .i64 k, str d][j]?) := hS27.cel_at 1 rfl
     refine NX.held s29 ?_
     refine WD.one (i := 4) rput_spec_t5 (bt 10 255) rfl (by kernel_rfl) ?_
     refine WO.val (run_bytesToStr Tryz.underlying120 Tryz.underlying5 Tryz.underlying9 rfl (show Rd w27 (some ⟨g28, 0, none⟩) 1 1 (List.map (fun b : UInt8 => Value.int .u8 (b.toNat : Int)) [UInt8.ofNat k.toNat]) from hS27.own_rd_i 0 rfl)) rfl rfl rfl ?_
     refine WO.nil ?_
     have s30 : (∀ j, World.cell? w27 ⟨g2, j, none⟩ = [Value.int .i64 k, str d][j]?) := hS27.cel_at 1 rfl
     refine NX.held s30 ?_
     refine WD.pure (i := 8) rput_spec_t5 (bt 10 511) rfl rfl rfl (by kernel_rfl) (PQ.then PQ.body) rfl (fun w => run_cat rfl rfl (by simp; omega)) ?_
     refine WD.pure (i := 9) rput_spec_t5 (bt 10 1023) rfl rfl rfl (by kernel_rfl) (PQ.then PQ.body) rfl (fun w => run_assign rfl) ?_
     refine WD.done rput_spec_t5 (by kernel_rfl) ?_
     refine NX.go (WP.seq ?_)
     have hsl : (UInt8.ofNat k.toNat :: textB d).length ≤ 65546 := by rw [List.length_cons]; omega
     refine WP.region rfl ?_
     refine WO.mv rfl rfl ?_
     refine WO.mv rfl rfl ?_
     refine WO.call rfl rfl Ty.hd118 rfl (rsumOf_spec (UInt8.ofNat k.toNat :: textB d) (by omega) hS27) (fun v32 w31 pv32 => ?_)
     obtain ⟨rfl, hS31⟩ := pv32
     clear hS27
     refine WO.call rfl rfl Ty.hd117 rfl (rsumBytes_spec (moreF 0 (UInt8.ofNat k.toNat :: textB d)) (moreF_lt _ _) hS31) (fun v34 w33 pv34 => ?_)
     obtain ⟨rfl, hS33⟩ := pv34
     clear hS31
     refine WO.val (run_cat rfl rfl (by simp [bytes4]; omega)) rfl rfl rfl ?_
     refine WO.asg rfl rfl ?_
     refine WO.asg rfl rfl ?_
     refine WO.nil (NX.go (WP.ret ?_))
     refine NX.done (l := [.tmp 2, .tmp 3]) rfl rfl ?_
     exact ⟨by rw [putF, if_neg (fun h => h.elim g9 g5), if_neg (by omega)]; rfl, hS33.drop.drop⟩
theorem rgetFrame_spec_t10 : rtab .any (opsOf Tryz.f98 10) = (true, [([], []), ([], []), ([1], [1]), ([], []), ([3], [3]), ([0, 2, 4], [0, 2, 4]), ([], []), ([], []), ([7], [7]), ([6, 8], [6, 8]), ([9], [9]), ([10, 10], [10]), ([5, 11], [5, 11]), ([12, 11], [12])]) := by kernel_rfl
theorem rgetFrame_spec {B w : World} {L : List HP} (s : List UInt8) (hs : s.length ≤ 140737488355328) (hS : St B L w) : Does Tryz.prog 98 [str s] w (fun v w1 => v = .tuple #[frV (getF s).1, .int .i64 (getF s).2.1, .int .i64 (getF s).2.2] ∧ St B L w1) := by
 refine enter (n := 56) Tryz.func98 rfl rfl [str s] rfl ?_
 refine WP.seq (WP.region rfl ?_)
 refine WO.alloc (l := [Value.int .i64 0, str []]) hS Ty.zr144 rfl rfl (fun g2 w1 lg2 hS1 => ?_)
 clear hS
 refine WO.asg rfl rfl ?_
 refine WO.asg rfl rfl ?_
 refine WO.nil (NX.go (WP.seq (WP.seq (WP.region rfl ?_))))
 refine WO.mv rfl rfl ?_
 refine WO.val (run_eqlS rfl rfl) rfl rfl rfl ?_
 refine WO.nil (NX.go ?_)
 refine WP.condP rfl (fun g9 => ?_) (fun g9 => ?_)
 ·
  refine WP.seq (WP.region rfl ?_)
  refine WO.val (run_build (v := Value.agg #[Value.int .i64 0, str []]) rfl (fun w => by kernel_rfl)) rfl rfl rfl ?_
  refine WO.store (l' := [Value.int .i64 0, str []]) 0 hS1 rfl Ty.sz144 rfl rfl rfl rfl rfl (Nat.le_of_ble_eq_true rfl) rfl (fun w3 (hS3 : St B (cel g2 [Value.int .i64 0, str []] 144 :: L) w3) => ?_)
  clear hS1
  refine WO.asg rfl rfl ?_
  refine WO.asg rfl rfl ?_
  refine WO.nil (NX.go (WP.ret (NX.thenRet ?_)))
  refine NX.doneC (l := [.cell 2 144, .tmp 3, .tmp 4]) rfl (.cons (.cell rfl (loadVar_agg (vs := [Value.int .i64 0, str []]) Ty.ag144 Ty.sz144 rfl (cell_all (hS3.cel_at 0 rfl) 0 rfl))) (.cons (.tmp rfl) (.cons (.tmp rfl) .nil))) ?_
  exact ⟨by rw [g9]; rfl, hS3.drop⟩
 ·
  obtain ⟨c, r, hs0⟩ : ∃ c r, s = c :: r := by cases s with | nil => exact absurd rfl g9 | cons c r => exact ⟨c, r, rfl⟩
  have hcl := UInt8.toNat_lt c
  have hl0 : s.length = r.length + 1 := by rw [hs0]; rfl
  have hnl := getText_le r 65536
  refine WP.skip (NX.go (WP.seq (WP.seq (WP.region rfl ?_))))
  refine WO.mv rfl rfl ?_
  refine WO.val (run_indexS Tryz.underlying9 rfl rfl (by omega) (by rw [hs0]; rfl)) rfl rfl rfl ?_
  refine WO.val (run_eql rfl rfl) rfl rfl rfl ?_
  refine WO.nil (NX.go ?_)
  refine WP.condP rfl (fun g13 => ?_) (fun g13 => ?_)
  ·
   refine WP.seq (WP.region rfl ?_)
   refine WO.val (run_build (v := Value.agg #[Value.int .i64 0, str []]) rfl (fun w => by kernel_rfl)) rfl rfl rfl ?_
   refine WO.store (l' := [Value.int .i64 0, str []]) 0 hS1 rfl Ty.sz144 rfl rfl rfl rfl rfl (Nat.le_of_ble_eq_true rfl) rfl (fun w4 (hS4 : St B (cel g2 [Value.int .i64 0, str []] 144 :: L) w4) => ?_)
   clear hS1
   refine WO.asg rfl rfl ?_
   refine WO.asg rfl rfl ?_
   refine WO.nil (NX.go (WP.ret (NX.thenRet ?_)))
   refine NX.doneC (l := [.cell 2 144, .tmp 3, .tmp 4]) rfl (.cons (.cell rfl (loadVar_agg (vs := [Value.int .i64 0, str []]) Ty.ag144 Ty.sz144 rfl (cell_all (hS4.cel_at 0 rfl) 0 rfl))) (.cons (.tmp rfl) (.cons (.tmp rfl) .nil))) ?_
   exact ⟨by rw [hs0, getF, if_pos ((u8z c).1 g13)]; rfl, hS4.drop⟩
  ·
   refine WP.skip (NX.go (WP.seq (WP.region rfl ?_)))
   refine WO.mv rfl rfl ?_
   refine WO.val (run_sliceS (i := 1) (j := s.length) Tryz.underlying9 rfl ⟨_, rfl⟩ rfl (by omega) (Nat.le_refl _) (show (s.take s.length).drop 1 = r by rw [List.take_length, hs0]; rfl)) rfl rfl rfl ?_
   refine WO.call rfl rfl Ty.hd119 rfl (rgetText_spec r 65536 (by omega) (by decide) hS1) (fun v6 w5 pv6 => ?_)
   obtain ⟨rfl, hS5⟩ := pv6
   clear hS1
   refine WO.mv rfl rfl ?_
   refine WO.val (run_extract rfl rfl) rfl rfl rfl ?_
   refine WO.val (run_extract rfl rfl) rfl rfl rfl ?_
   refine WO.val (run_extract rfl rfl) rfl rfl rfl ?_
   refine WO.asg rfl rfl ?_
   refine WO.asg rfl rfl ?_
   refine WO.asg rfl rfl ?_
   refine WO.nil (NX.go (WP.seq (WP.block (WP.seq (WP.region rfl ?_)))))
   refine WO.mv rfl rfl ?_
   refine WO.val (run_neq rfl rfl) rfl rfl rfl ?_
   refine WO.asg rfl rfl ?_
   refine WO.nil (NX.go ?_)
   refine WP.condP rfl (fun g22 => ?_) (fun g22 => ?_)
   ·
    refine WP.seq (WP.region rfl ?_)
    refine WO.val (run_build (v := Value.agg #[Value.int .i64 0, str []]) rfl (fun w => by kernel_rfl)) rfl rfl rfl ?_
    refine WO.mv rfl rfl ?_
    refine WO.store (l' := [Value.int .i64 0, str []]) 0 hS5 rfl Ty.sz144 rfl rfl rfl rfl rfl (Nat.le_of_ble_eq_true rfl) rfl (fun w7 (hS7 : St B (cel g2 [Value.int .i64 0, str []] 144 :: L) w7) => ?_)
    clear hS5
    refine WO.asg rfl rfl ?_
    refine WO.asg rfl rfl ?_
    refine WO.nil (NX.go (WP.ret (NX.blkRet (NX.thenRet ?_))))
    refine NX.doneC (l := [.cell 2 144, .tmp 3, .tmp 4]) rfl (.cons (.cell rfl (loadVar_agg (vs := [Value.int .i64 0, str []]) Ty.ag144 Ty.sz144 rfl (cell_all (hS7.cel_at 0 rfl) 0 rfl))) (.cons (.tmp rfl) (.cons (.tmp rfl) .nil))) ?_
    exact ⟨by rw [hs0, getF, if_neg (fun h => g13 ((u8z c).2 h)), if_pos g22]; rfl, hS7.drop⟩
   ·
    refine WP.seq (WP.region rfl ?_)
    refine WO.mv rfl rfl ?_
    refine WO.val (run_lenS rfl Tryz.underlying9 rfl) rfl rfl rfl ?_
    refine WO.mv rfl rfl ?_
    refine WO.val (run_add rfl rfl (IntWalk.i64_in _ (by omega))) rfl rfl rfl ?_
    refine WO.val (run_lss rfl rfl) rfl rfl rfl ?_
    refine WO.asg rfl rfl ?_
    refine WO.nil (NX.go ?_)
    refine WP.condP rfl (fun g27 => ?_) (fun g27 => ?_)
    ·
     refine WP.seq (WP.region rfl ?_)
     refine WO.val (run_build (v := Value.agg #[Value.int .i64 0, str []]) rfl (fun w => by kernel_rfl)) rfl rfl rfl ?_
     refine WO.store (l' := [Value.int .i64 0, str []]) 0 hS5 rfl Ty.sz144 rfl rfl rfl rfl rfl (Nat.le_of_ble_eq_true rfl) rfl (fun w8 (hS8 : St B (cel g2 [Value.int .i64 0, str []] 144 :: L) w8) => ?_)
     clear hS5
     refine WO.asg rfl rfl ?_
     refine WO.asg rfl rfl ?_
     refine WO.nil (NX.go (WP.ret (NX.blkRet (NX.thenRet ?_))))
     refine NX.doneC (l := [.cell 2 144, .tmp 3, .tmp 4]) rfl (.cons (.cell rfl (loadVar_agg (vs := [Value.int .i64 0, str []]) Ty.ag144 Ty.sz144 rfl (cell_all (hS8.cel_at 0 rfl) 0 rfl))) (.cons (.tmp rfl) (.cons (.tmp rfl) .nil))) ?_
     exact ⟨by rw [hs0, getF, if_neg (fun h => g13 ((u8z c).2 h)), if_neg g22, if_pos (by omega)]; rfl, hS8.drop⟩
    ·
     refine WP.seq ?_
     refine WD.start (fun w => (∀ j, World.cell? w ⟨g2, j, none⟩ = [Value.int .i64 0, str []][j]?)) [] (bt 14 0) Ty.mo rfl (by kernel_rfl) hS5 (fun _ h => h.cel_at 0 rfl) (fun w9 hS9 s10 => ?_)
     clear hS5
     refine WD.pure (i := 0) rgetFrame_spec_t10 (bt 14 1) rfl rfl rfl (by kernel_rfl) (PQ.then (PQ.blk (PQ.then PQ.body))) rfl (fun w => run_move rfl) ?_
     refine WD.pure (i := 1) rgetFrame_spec_t10 (bt 14 3) rfl rfl rfl (by kernel_rfl) (PQ.then (PQ.blk (PQ.then PQ.body))) rfl (fun w => run_move rfl) ?_
     refine WD.pure (i := 2) rgetFrame_spec_t10 (bt 14 7) rfl rfl rfl (by kernel_rfl) (PQ.then (PQ.blk (PQ.then PQ.body))) rfl (fun w => run_add rfl rfl (IntWalk.i64_in _ (by omega))) ?_
     refine WD.pure (i := 3) rgetFrame_spec_t10 (bt 14 15) rfl rfl rfl (by kernel_rfl) (PQ.then (PQ.blk (PQ.then PQ.body))) rfl (fun w => run_move rfl) ?_
     refine WD.pure (i := 4) rgetFrame_spec_t10 (bt 14 31) rfl rfl rfl (by kernel_rfl) (PQ.then (PQ.blk (PQ.then PQ.body))) rfl (fun w => run_add rfl rfl (IntWalk.i64_in _ (by omega))) ?_
     refine WD.pure (i := 5) rgetFrame_spec_t10 (bt 14 63) rfl rfl rfl (by kernel_rfl) (PQ.then (PQ.blk (PQ.then PQ.body))) rfl (fun w => run_sliceS (i := ((getText r 65536).2.1 + 1)) (j := ((getText r 65536).2.1 + 1 + 4)) Tryz.underlying9 rfl ⟨_, rfl⟩ ⟨_, rfl⟩ (by omega) (by omega) rfl) ?_
     refine WD.pure (i := 6) rgetFrame_spec_t10 (bt 14 127) rfl rfl rfl (by kernel_rfl) (PQ.then (PQ.blk (PQ.then PQ.body))) rfl (fun w => run_move rfl) ?_
     refine WD.pure (i := 7) rgetFrame_spec_t10 (bt 14 255) rfl rfl rfl (by kernel_rfl) (PQ.then (PQ.blk (PQ.then PQ.body))) rfl (fun w => run_move rfl) ?_
     refine WD.pure (i := 8) rgetFrame_spec_t10 (bt 14 511) rfl rfl rfl (by kernel_rfl) (PQ.then (PQ.blk (PQ.then PQ.body))) rfl (fun w => run_add rfl rfl (IntWalk.i64_in _ (by omega))) ?_
     refine WD.pure (i := 9) rgetFrame_spec_t10 (bt 14 1023) rfl rfl rfl (by kernel_rfl) (PQ.then (PQ.blk (PQ.then PQ.body))) rfl (fun w => run_sliceS (i := 0) (j := ((getText r 65536).2.1 + 1)) Tryz.underlying9 rfl rfl ⟨_, rfl⟩ (Nat.zero_le _) (by omega) (List.drop_zero)) ?_
     refine WD.one (i := 10) rgetFrame_spec_t10 (bt 14 2047) rfl (by kernel_rfl) ?_
     refine WO.call rfl rfl Ty.hd118 rfl (rsumOf_spec (s.take ((getText r 65536).2.1 + 1)) (by rw [List.length_take]; omega) hS9) (fun v12 w11 pv12 => ?_)
     obtain ⟨rfl, hS11⟩ := pv12
     clear hS9
     refine WO.nil ?_
     have s13 : (∀ j, World.cell? w11 ⟨g2, j, none⟩ = [Value.int .i64 0, str []][j]?) := hS11.cel_at 0 rfl
     refine NX.held s13 ?_
     refine WD.one (i := 11) rgetFrame_spec_t10 (bt 14 4095) rfl (by kernel_rfl) ?_
     refine WO.call rfl rfl Ty.hd117 rfl (rsumBytes_spec (moreF 0 (s.take ((getText r 65536).2.1 + 1))) (moreF_lt _ _) hS11) (fun v15 w14 pv15 => ?_)
     obtain ⟨rfl, hS14⟩ := pv15
     clear hS11
     refine WO.nil ?_
     have s16 : (∀ j, World.cell? w14 ⟨g2, j, none⟩ = [Value.int .i64 0, str []][j]?) := hS14.cel_at 0 rfl
     refine NX.held s16 ?_
     refine WD.pure (i := 12) rgetFrame_spec_t10 (bt 14 8191) rfl rfl rfl (by kernel_rfl) (PQ.then (PQ.blk (PQ.then PQ.body))) rfl (fun w => run_neqS rfl rfl) ?_
     refine WD.pure (i := 13) rgetFrame_spec_t10 (bt 14 16383) rfl rfl rfl (by kernel_rfl) (PQ.then (PQ.blk (PQ.then PQ.body))) rfl (fun w => run_assign rfl) ?_
     refine WD.done rgetFrame_spec_t10 (by kernel_rfl) ?_
     refine NX.go ?_
     refine WP.condP rfl (fun g34 => ?_) (fun g34 => ?_)
     ·
      refine WP.seq (WP.region rfl ?_)
      refine WO.val (run_build (v := Value.agg #[Value.int .i64 0, str []]) rfl (fun w => by kernel_rfl)) rfl rfl rfl ?_
      refine WO.store (l' := [Value.int .i64 0, str []]) 0 hS14 rfl Ty.sz144 rfl rfl rfl rfl rfl (Nat.le_of_ble_eq_true rfl) rfl (fun w17 (hS17 : St B (cel g2 [Value.int .i64 0, str []] 144 :: L) w17) => ?_)
      clear hS14
      refine WO.asg rfl rfl ?_
      refine WO.asg rfl rfl ?_
      refine WO.nil (NX.go (WP.ret (NX.blkRet (NX.thenRet ?_))))
      refine NX.doneC (l := [.cell 2 144, .tmp 3, .tmp 4]) rfl (.cons (.cell rfl (loadVar_agg (vs := [Value.int .i64 0, str []]) Ty.ag144 Ty.sz144 rfl (cell_all (hS17.cel_at 0 rfl) 0 rfl))) (.cons (.tmp rfl) (.cons (.tmp rfl) .nil))) ?_
      exact ⟨by rw [getF_cons hs0, if_neg (fun h => g13 ((u8z c).2 h)), if_neg g22, if_neg (by omega), if_pos g34]; rfl, hS17.drop⟩
     ·
      refine WP.skip (NX.blk (NX.go (WP.seq (WP.region rfl ?_))))
      refine WO.mv rfl rfl ?_
      refine WO.val (run_indexS Tryz.underlying9 rfl rfl (by omega) (by rw [hs0]; rfl)) rfl rfl rfl ?_
      refine WO.val (run_convI Tryz.underlying3 (by kernel_rfl) rfl (IntWalk.i64_in _ (by omega))) rfl rfl rfl ?_
      refine WO.mv rfl rfl ?_
      refine WO.val (run_build (v := Value.agg #[Value.int .i64 (c.toNat : Int), str ((getText r 65536).1)]) rfl (fun w => by kernel_rfl)) rfl rfl rfl ?_
      refine WO.mv rfl rfl ?_
      refine WO.val (run_add rfl rfl (IntWalk.i64_in _ (by omega))) rfl rfl rfl ?_
      refine WO.store (l' := [Value.int .i64 (c.toNat : Int), str ((getText r 65536).1)]) 0 hS14 rfl Ty.sz144 rfl rfl rfl rfl rfl (Nat.le_of_ble_eq_true rfl) rfl (fun w18 (hS18 : St B (cel g2 [Value.int .i64 (c.toNat : Int), str ((getText r 65536).1)] 144 :: L) w18) => ?_)
      clear hS14
      refine WO.asg rfl rfl ?_
      refine WO.asg rfl rfl ?_
      refine WO.nil (NX.go (WP.ret ?_))
      refine NX.doneC (l := [.cell 2 144, .tmp 3, .tmp 4]) rfl (.cons (.cell rfl (loadVar_agg (vs := [Value.int .i64 (c.toNat : Int), str ((getText r 65536).1)]) Ty.ag144 Ty.sz144 rfl (cell_all (hS18.cel_at 0 rfl) 0 rfl))) (.cons (.tmp rfl) (.cons (.tmp rfl) .nil))) ?_
      exact ⟨by rw [getF_cons hs0, if_neg (fun h => g13 ((u8z c).2 h)), if_neg g22, if_neg (by omega), if_neg g34]; rfl, hS18.drop⟩
end Go.Proofs.YtcehlnpbdffdhaaGreatDoor.SL

/- A reader over bytes: the reference. -/
namespace Go.Proofs.YtcehlnpbdffdhaaGreatDoor.SL
open Go.RowKit Go.Proofs.YtcehlnpbdffdhaaGreatDoor
open Go.Proofs.YtcehlnpbdffdhaaGreatDoorW.PrintLast (rtab opsOf)
set_option linter.unusedVariables false
set_option linter.unusedSimpArgs false
theorem inNum_spec {B w : World} {L : List HP} (g : Nat) (x : List UInt8 × Int) (hx : x.1.length ≤ 140737488355328) (hS : St B (cel g [str x.1, Value.int .i64 x.2] 149 :: L) w) : Does Tryz.prog 99 [Value.pointer (some ⟨g, 0, none⟩)] w (fun v w1 => v = Value.int .u64 ((inNum x).1 : Int) ∧ St B (cel g [str ((inNum x).2.1), Value.int .i64 ((inNum x).2.2)] 149 :: L) w1) := by
 refine enter (n := 34) Tryz.func99 rfl rfl [Value.pointer (some ⟨g, 0, none⟩)] rfl ?_
 refine WP.seq (WP.region rfl ?_)
 refine WO.asg rfl rfl ?_
 refine WO.nil (NX.go (WP.seq (WP.seq (WP.region rfl ?_))))
 refine WO.mv rfl rfl ?_
 refine WO.val (run_nilCheck rfl) rfl rfl rfl ?_
 refine WO.val (run_fieldAddr (q := ⟨g, 1, none⟩) (show fieldB Tryz.prog 149 1 = some 1 from by kernel_rfl) rfl rfl) rfl rfl rfl ?_
 refine WO.val (run_load Ty.ag27 rfl ((hS.cel_at 0 rfl 1).trans rfl)) rfl rfl rfl ?_
 refine WO.val (run_neq rfl rfl) rfl rfl rfl ?_
 refine WO.nil (NX.go ?_)
 refine WP.condP rfl (fun g10 => ?_) (fun g10 => ?_)
 ·
  refine WP.seq (WP.region rfl ?_)
  refine WO.asg rfl rfl ?_
  refine WO.nil (NX.go (WP.ret (NX.thenRet ?_)))
  refine NX.done (l := [.tmp 2]) rfl rfl ?_
  exact ⟨by rw [inNum, if_neg g10]; rfl, by rw [inNum, if_neg g10]; exact hS⟩
 ·
  refine WP.skip (NX.go (WP.seq ?_))
  have hle := getNum_le x.1
  refine WP.region rfl ?_
  refine WO.mv rfl rfl ?_
  refine WO.val (run_nilCheck rfl) rfl rfl rfl ?_
  refine WO.val (run_fieldAddr (q := ⟨g, 0, none⟩) (show fieldB Tryz.prog 149 0 = some 0 from by kernel_rfl) rfl rfl) rfl rfl rfl ?_
  refine WO.val (run_load Ty.ag9 rfl ((hS.cel_at 0 rfl 0).trans rfl)) rfl rfl rfl ?_
  refine WO.call rfl rfl Ty.hd120 rfl (rgetNum_spec x.1 hx hS) (fun v2 w1 pv2 => ?_)
  obtain ⟨rfl, hS1⟩ := pv2
  clear hS
  refine WO.mv rfl rfl ?_
  refine WO.val (run_extract rfl rfl) rfl rfl rfl ?_
  refine WO.val (run_extract rfl rfl) rfl rfl rfl ?_
  refine WO.val (run_extract rfl rfl) rfl rfl rfl ?_
  refine WO.asg rfl rfl ?_
  refine WO.asg rfl rfl ?_
  refine WO.asg rfl rfl ?_
  refine WO.nil (NX.go (WP.seq (WP.region rfl ?_)))
  refine WO.mv rfl rfl ?_
  refine WO.mv rfl rfl ?_
  refine WO.val (run_nilCheck rfl) rfl rfl rfl ?_
  refine WO.val (run_fieldAddr (q := ⟨g, 1, none⟩) (show fieldB Tryz.prog 149 1 = some 1 from by kernel_rfl) rfl rfl) rfl rfl rfl ?_
  refine WO.store (l' := [str x.1, Value.int .i64 ((getNum x.1).2.2)]) 0 hS1 rfl Ty.sz27 rfl rfl rfl rfl rfl (Nat.le_of_ble_eq_true rfl) rfl (fun w3 (hS3 : St B (cel g [str x.1, Value.int .i64 ((getNum x.1).2.2)] 149 :: L) w3) => ?_)
  clear hS1
  refine WO.nil (NX.go (WP.seq (WP.region rfl ?_)))
  refine WO.mv rfl rfl ?_
  refine WO.mv rfl rfl ?_
  refine WO.val (run_nilCheck rfl) rfl rfl rfl ?_
  refine WO.val (run_fieldAddr (q := ⟨g, 0, none⟩) (show fieldB Tryz.prog 149 0 = some 0 from by kernel_rfl) rfl rfl) rfl rfl rfl ?_
  refine WO.val (run_load Ty.ag9 rfl ((hS3.cel_at 0 rfl 0).trans rfl)) rfl rfl rfl ?_
  refine WO.mv rfl rfl ?_
  refine WO.val (run_sliceS (i := (getNum x.1).2.1) (j := x.1.length) Tryz.underlying9 rfl ⟨_, rfl⟩ rfl (by omega) (Nat.le_refl _) (by rw [List.take_length])) rfl rfl rfl ?_
  refine WO.val (run_nilCheck rfl) rfl rfl rfl ?_
  refine WO.val (run_fieldAddr (q := ⟨g, 0, none⟩) (show fieldB Tryz.prog 149 0 = some 0 from by kernel_rfl) rfl rfl) rfl rfl rfl ?_
  refine WO.store (l' := [str (x.1.drop ((getNum x.1).2.1)), Value.int .i64 ((getNum x.1).2.2)]) 0 hS3 rfl Ty.sz9 rfl rfl rfl rfl rfl (Nat.le_of_ble_eq_true rfl) rfl (fun w4 (hS4 : St B (cel g [str (x.1.drop ((getNum x.1).2.1)), Value.int .i64 ((getNum x.1).2.2)] 149 :: L) w4) => ?_)
  clear hS3
  refine WO.nil (NX.go (WP.seq (WP.region rfl ?_)))
  refine WO.mv rfl rfl ?_
  refine WO.asg rfl rfl ?_
  refine WO.nil (NX.go (WP.ret ?_))
  refine NX.done (l := [.tmp 2]) rfl rfl ?_
  exact ⟨by rw [inNum, if_pos (Decidable.of_not_not g10)]; rfl, by rw [inNum, if_pos (Decidable.of_not_not g10)]; exact hS4⟩
theorem inSig_spec {B w : World} {L : List HP} (g : Nat) (x : List UInt8 × Int) (hx : x.1.length ≤ 140737488355328) (hS : St B (cel g [str x.1, Value.int .i64 x.2] 149 :: L) w) : Does Tryz.prog 100 [Value.pointer (some ⟨g, 0, none⟩)] w (fun v w1 => v = Value.int .i64 ((inSig x).1) ∧ St B (cel g [str ((inSig x).2.1), Value.int .i64 ((inSig x).2.2)] 149 :: L) w1) := by
 refine enter (n := 34) Tryz.func100 rfl rfl [Value.pointer (some ⟨g, 0, none⟩)] rfl ?_
 refine WP.seq (WP.region rfl ?_)
 refine WO.asg rfl rfl ?_
 refine WO.nil (NX.go (WP.seq (WP.seq (WP.region rfl ?_))))
 refine WO.mv rfl rfl ?_
 refine WO.val (run_nilCheck rfl) rfl rfl rfl ?_
 refine WO.val (run_fieldAddr (q := ⟨g, 1, none⟩) (show fieldB Tryz.prog 149 1 = some 1 from by kernel_rfl) rfl rfl) rfl rfl rfl ?_
 refine WO.val (run_load Ty.ag27 rfl ((hS.cel_at 0 rfl 1).trans rfl)) rfl rfl rfl ?_
 refine WO.val (run_neq rfl rfl) rfl rfl rfl ?_
 refine WO.nil (NX.go ?_)
 refine WP.condP rfl (fun g10 => ?_) (fun g10 => ?_)
 ·
  refine WP.seq (WP.region rfl ?_)
  refine WO.asg rfl rfl ?_
  refine WO.nil (NX.go (WP.ret (NX.thenRet ?_)))
  refine NX.done (l := [.tmp 2]) rfl rfl ?_
  exact ⟨by rw [inSig, if_neg g10]; rfl, by rw [inSig, if_neg g10]; exact hS⟩
 ·
  refine WP.skip (NX.go (WP.seq ?_))
  have hle := getNum_le x.1
  refine WP.region rfl ?_
  refine WO.mv rfl rfl ?_
  refine WO.val (run_nilCheck rfl) rfl rfl rfl ?_
  refine WO.val (run_fieldAddr (q := ⟨g, 0, none⟩) (show fieldB Tryz.prog 149 0 = some 0 from by kernel_rfl) rfl rfl) rfl rfl rfl ?_
  refine WO.val (run_load Ty.ag9 rfl ((hS.cel_at 0 rfl 0).trans rfl)) rfl rfl rfl ?_
  refine WO.call rfl rfl Ty.hd121 rfl (rgetSigned_spec x.1 hx hS) (fun v2 w1 pv2 => ?_)
  obtain ⟨rfl, hS1⟩ := pv2
  clear hS
  refine WO.mv rfl rfl ?_
  refine WO.val (run_extract rfl rfl) rfl rfl rfl ?_
  refine WO.val (run_extract rfl rfl) rfl rfl rfl ?_
  refine WO.val (run_extract rfl rfl) rfl rfl rfl ?_
  refine WO.asg rfl rfl ?_
  refine WO.asg rfl rfl ?_
  refine WO.asg rfl rfl ?_
  refine WO.nil (NX.go (WP.seq (WP.region rfl ?_)))
  refine WO.mv rfl rfl ?_
  refine WO.mv rfl rfl ?_
  refine WO.val (run_nilCheck rfl) rfl rfl rfl ?_
  refine WO.val (run_fieldAddr (q := ⟨g, 1, none⟩) (show fieldB Tryz.prog 149 1 = some 1 from by kernel_rfl) rfl rfl) rfl rfl rfl ?_
  refine WO.store (l' := [str x.1, Value.int .i64 ((getNum x.1).2.2)]) 0 hS1 rfl Ty.sz27 rfl rfl rfl rfl rfl (Nat.le_of_ble_eq_true rfl) rfl (fun w3 (hS3 : St B (cel g [str x.1, Value.int .i64 ((getNum x.1).2.2)] 149 :: L) w3) => ?_)
  clear hS1
  refine WO.nil (NX.go (WP.seq (WP.region rfl ?_)))
  refine WO.mv rfl rfl ?_
  refine WO.mv rfl rfl ?_
  refine WO.val (run_nilCheck rfl) rfl rfl rfl ?_
  refine WO.val (run_fieldAddr (q := ⟨g, 0, none⟩) (show fieldB Tryz.prog 149 0 = some 0 from by kernel_rfl) rfl rfl) rfl rfl rfl ?_
  refine WO.val (run_load Ty.ag9 rfl ((hS3.cel_at 0 rfl 0).trans rfl)) rfl rfl rfl ?_
  refine WO.mv rfl rfl ?_
  refine WO.val (run_sliceS (i := (getNum x.1).2.1) (j := x.1.length) Tryz.underlying9 rfl ⟨_, rfl⟩ rfl (by omega) (Nat.le_refl _) (by rw [List.take_length])) rfl rfl rfl ?_
  refine WO.val (run_nilCheck rfl) rfl rfl rfl ?_
  refine WO.val (run_fieldAddr (q := ⟨g, 0, none⟩) (show fieldB Tryz.prog 149 0 = some 0 from by kernel_rfl) rfl rfl) rfl rfl rfl ?_
  refine WO.store (l' := [str (x.1.drop ((getNum x.1).2.1)), Value.int .i64 ((getNum x.1).2.2)]) 0 hS3 rfl Ty.sz9 rfl rfl rfl rfl rfl (Nat.le_of_ble_eq_true rfl) rfl (fun w4 (hS4 : St B (cel g [str (x.1.drop ((getNum x.1).2.1)), Value.int .i64 ((getNum x.1).2.2)] 149 :: L) w4) => ?_)
  clear hS3
  refine WO.nil (NX.go (WP.seq (WP.region rfl ?_)))
  refine WO.mv rfl rfl ?_
  refine WO.asg rfl rfl ?_
  refine WO.nil (NX.go (WP.ret ?_))
  refine NX.done (l := [.tmp 2]) rfl rfl ?_
  exact ⟨by rw [inSig, if_pos (Decidable.of_not_not g10)]; rfl, by rw [inSig, if_pos (Decidable.of_not_not g10)]; exact hS4⟩
theorem inText_spec {B w : World} {L : List HP} (g : Nat) (x : List UInt8 × Int) (m : Int) (hm : m ≤ 9223372036854775807) (hx : x.1.length ≤ 140737488355328) (hS : St B (cel g [str x.1, Value.int .i64 x.2] 149 :: L) w) : Does Tryz.prog 102 [Value.pointer (some ⟨g, 0, none⟩), Value.int .i64 m] w (fun v w1 => v = str ((inText x m).1) ∧ St B (cel g [str ((inText x m).2.1), Value.int .i64 ((inText x m).2.2)] 149 :: L) w1) := by
 refine enter (n := 37) Tryz.func102 rfl rfl [Value.pointer (some ⟨g, 0, none⟩), Value.int .i64 m] rfl ?_
 refine WP.seq (WP.region rfl ?_)
 refine WO.asg rfl rfl ?_
 refine WO.nil (NX.go (WP.seq (WP.seq (WP.region rfl ?_))))
 refine WO.mv rfl rfl ?_
 refine WO.val (run_nilCheck rfl) rfl rfl rfl ?_
 refine WO.val (run_fieldAddr (q := ⟨g, 1, none⟩) (show fieldB Tryz.prog 149 1 = some 1 from by kernel_rfl) rfl rfl) rfl rfl rfl ?_
 refine WO.val (run_load Ty.ag27 rfl ((hS.cel_at 0 rfl 1).trans rfl)) rfl rfl rfl ?_
 refine WO.val (run_neq rfl rfl) rfl rfl rfl ?_
 refine WO.nil (NX.go ?_)
 refine WP.condP rfl (fun g12 => ?_) (fun g12 => ?_)
 ·
  refine WP.seq (WP.region rfl ?_)
  refine WO.asg rfl rfl ?_
  refine WO.nil (NX.go (WP.ret (NX.thenRet ?_)))
  refine NX.done (l := [.tmp 4]) rfl rfl ?_
  exact ⟨by rw [inText, if_neg g12]; rfl, by rw [inText, if_neg g12]; exact hS⟩
 ·
  refine WP.skip (NX.go (WP.seq ?_))
  have hle := getText_le x.1 m
  refine WP.region rfl ?_
  refine WO.mv rfl rfl ?_
  refine WO.val (run_nilCheck rfl) rfl rfl rfl ?_
  refine WO.val (run_fieldAddr (q := ⟨g, 0, none⟩) (show fieldB Tryz.prog 149 0 = some 0 from by kernel_rfl) rfl rfl) rfl rfl rfl ?_
  refine WO.val (run_load Ty.ag9 rfl ((hS.cel_at 0 rfl 0).trans rfl)) rfl rfl rfl ?_
  refine WO.mv rfl rfl ?_
  refine WO.call rfl rfl Ty.hd119 rfl (rgetText_spec x.1 m hx hm hS) (fun v2 w1 pv2 => ?_)
  obtain ⟨rfl, hS1⟩ := pv2
  clear hS
  refine WO.mv rfl rfl ?_
  refine WO.val (run_extract rfl rfl) rfl rfl rfl ?_
  refine WO.val (run_extract rfl rfl) rfl rfl rfl ?_
  refine WO.val (run_extract rfl rfl) rfl rfl rfl ?_
  refine WO.asg rfl rfl ?_
  refine WO.asg rfl rfl ?_
  refine WO.asg rfl rfl ?_
  refine WO.nil (NX.go (WP.seq (WP.region rfl ?_)))
  refine WO.mv rfl rfl ?_
  refine WO.mv rfl rfl ?_
  refine WO.val (run_nilCheck rfl) rfl rfl rfl ?_
  refine WO.val (run_fieldAddr (q := ⟨g, 1, none⟩) (show fieldB Tryz.prog 149 1 = some 1 from by kernel_rfl) rfl rfl) rfl rfl rfl ?_
  refine WO.store (l' := [str x.1, Value.int .i64 ((getText x.1 m).2.2)]) 0 hS1 rfl Ty.sz27 rfl rfl rfl rfl rfl (Nat.le_of_ble_eq_true rfl) rfl (fun w3 (hS3 : St B (cel g [str x.1, Value.int .i64 ((getText x.1 m).2.2)] 149 :: L) w3) => ?_)
  clear hS1
  refine WO.nil (NX.go (WP.seq (WP.region rfl ?_)))
  refine WO.mv rfl rfl ?_
  refine WO.mv rfl rfl ?_
  refine WO.val (run_nilCheck rfl) rfl rfl rfl ?_
  refine WO.val (run_fieldAddr (q := ⟨g, 0, none⟩) (show fieldB Tryz.prog 149 0 = some 0 from by kernel_rfl) rfl rfl) rfl rfl rfl ?_
  refine WO.val (run_load Ty.ag9 rfl ((hS3.cel_at 0 rfl 0).trans rfl)) rfl rfl rfl ?_
  refine WO.mv rfl rfl ?_
  refine WO.val (run_sliceS (i := (getText x.1 m).2.1) (j := x.1.length) Tryz.underlying9 rfl ⟨_, rfl⟩ rfl (by omega) (Nat.le_refl _) (by rw [List.take_length])) rfl rfl rfl ?_
  refine WO.val (run_nilCheck rfl) rfl rfl rfl ?_
  refine WO.val (run_fieldAddr (q := ⟨g, 0, none⟩) (show fieldB Tryz.prog 149 0 = some 0 from by kernel_rfl) rfl rfl) rfl rfl rfl ?_
  refine WO.store (l' := [str (x.1.drop ((getText x.1 m).2.1)), Value.int .i64 ((getText x.1 m).2.2)]) 0 hS3 rfl Ty.sz9 rfl rfl rfl rfl rfl (Nat.le_of_ble_eq_true rfl) rfl (fun w4 (hS4 : St B (cel g [str (x.1.drop ((getText x.1 m).2.1)), Value.int .i64 ((getText x.1 m).2.2)] 149 :: L) w4) => ?_)
  clear hS3
  refine WO.nil (NX.go (WP.seq (WP.region rfl ?_)))
  refine WO.mv rfl rfl ?_
  refine WO.asg rfl rfl ?_
  refine WO.nil (NX.go (WP.ret ?_))
  refine NX.done (l := [.tmp 4]) rfl rfl ?_
  exact ⟨by rw [inText, if_pos (Decidable.of_not_not g12)]; rfl, by rw [inText, if_pos (Decidable.of_not_not g12)]; exact hS4⟩
theorem inMust_spec {B w : World} {L : List HP} (g : Nat) (x : List UInt8 × Int) (c : Bool) (e : Int) (hS : St B (cel g [str x.1, Value.int .i64 x.2] 149 :: L) w) : Does Tryz.prog 101 [Value.pointer (some ⟨g, 0, none⟩), Value.bool c, Value.int .i64 e] w (fun v w1 => v = .tuple #[] ∧ St B (cel g [str ((must x c e).1), Value.int .i64 ((must x c e).2)] 149 :: L) w1) := by
 refine enter (n := 19) Tryz.func101 rfl rfl [Value.pointer (some ⟨g, 0, none⟩), Value.bool c, Value.int .i64 e] rfl ?_
 refine WP.seq (WP.region rfl ?_)
 refine WO.mv rfl rfl ?_
 refine WO.val (run_nilCheck rfl) rfl rfl rfl ?_
 refine WO.val (run_fieldAddr (q := ⟨g, 1, none⟩) (show fieldB Tryz.prog 149 1 = some 1 from by kernel_rfl) rfl rfl) rfl rfl rfl ?_
 refine WO.val (run_load Ty.ag27 rfl ((hS.cel_at 0 rfl 1).trans rfl)) rfl rfl rfl ?_
 refine WO.val (run_eql rfl rfl) rfl rfl rfl ?_
 refine WO.mv rfl rfl ?_
 by_cases g11 : x.2 = 0
 ·
  refine WO.on rfl rfl (decide_eq_true g11) ?_
  refine WO.mv rfl rfl ?_
  refine WO.on rfl rfl (decide_eq_true g11) ?_
  refine WO.val (run_not rfl rfl) rfl rfl rfl ?_
  refine WO.val (run_pickT rfl (decide_eq_true g11) rfl) rfl rfl rfl ?_
  refine WO.nil (NX.go ?_)
  refine WP.condB rfl (fun g14 => ?_) (fun g14 => ?_)
  ·
   refine WP.region rfl ?_
   refine WO.mv rfl rfl ?_
   refine WO.mv rfl rfl ?_
   refine WO.val (run_nilCheck rfl) rfl rfl rfl ?_
   refine WO.val (run_fieldAddr (q := ⟨g, 1, none⟩) (show fieldB Tryz.prog 149 1 = some 1 from by kernel_rfl) rfl rfl) rfl rfl rfl ?_
   refine WO.store (l' := [str x.1, Value.int .i64 e]) 0 hS rfl Ty.sz27 rfl rfl rfl rfl rfl (Nat.le_of_ble_eq_true rfl) rfl (fun w1 (hS1 : St B (cel g [str x.1, Value.int .i64 e] 149 :: L) w1) => ?_)
   clear hS
   refine WO.nil ?_
   refine NX.ended (l := []) rfl rfl ?_
   exact ⟨rfl, by rw [must, if_pos ⟨g11, by simpa using g14⟩]; exact hS1⟩
  ·
   refine WP.skip ?_
   refine NX.ended (l := []) rfl rfl ?_
   exact ⟨rfl, by rw [must, if_neg (fun h => absurd h.2 (by simpa using g14))]; exact hS⟩
 ·
  refine WO.off rfl rfl (decide_eq_false g11) rfl ?_
  refine WO.off rfl rfl (decide_eq_false g11) rfl ?_
  refine WO.val (run_pickF rfl (decide_eq_false g11) rfl) rfl rfl rfl ?_
  refine WO.nil (NX.go ?_)
  refine WP.condF rfl rfl ?_
  refine WP.skip ?_
  refine NX.ended (l := []) rfl rfl ?_
  exact ⟨rfl, by rw [must, if_neg (fun h => g11 h.1)]; exact hS⟩
end Go.Proofs.YtcehlnpbdffdhaaGreatDoor.SL
