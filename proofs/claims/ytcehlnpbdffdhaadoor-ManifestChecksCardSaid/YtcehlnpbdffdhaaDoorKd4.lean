/- Signed numbers as bytes. -/
import Derived.Test.YtcehlnpbdffdhaaDoorKd3
namespace Go.Proofs.YtcehlnpbdffdhaaDoor.SL
open Go.RowKit Go.Proofs.YtcehlnpbdffdhaaDoor
open Go.Proofs.YtcehlnpbdffdhaaDoorW.PrintLast (rtab opsOf)
set_option linter.unusedVariables false
set_option linter.unusedSimpArgs false

/-- A signed number as a number: the lowest bit is the sign. -/
def zig (n : Int) : Nat := if 0 ≤ n then (2 * n).toNat else (-(2 * n) - 1).toNat
def zag (m : Nat) : Int := if m % 2 = 0 then ((m / 2 : Nat) : Int) else -((m / 2 : Nat) : Int) - 1
theorem ones_xor (b : BitVec 64) : (b ^^^ BitVec.ofInt 64 (-1)).toNat = 18446744073709551615 - b.toNat := by
  rw [show BitVec.ofInt 64 (-1) = BitVec.allOnes 64 by decide, BitVec.xor_allOnes, BitVec.toNat_not]
theorem ones_xor' (b : BitVec 64) : (b ^^^ BitVec.ofInt 64 18446744073709551615).toNat = 18446744073709551615 - b.toNat := by
  rw [show BitVec.ofInt 64 18446744073709551615 = BitVec.allOnes 64 by decide, BitVec.xor_allOnes, BitVec.toNat_not]
theorem zig_shl (n : Int) : IntKind.u64.wrap (n % 18446744073709551616 * 2 ^ (min (1 : Int).toNat IntKind.u64.bits)) = 2 * n % 18446744073709551616 := by
  rw [show (min (1 : Int).toNat IntKind.u64.bits) = 1 by decide, IntKind.wrap_u64]; omega
theorem zig_xor {n : Int} (h1 : -9223372036854775808 ≤ n) (h2 : n ≤ 9223372036854775807) : bits .xor .u64 (2 * n % 18446744073709551616) (n / 9223372036854775808 % 18446744073709551616) = (zig n : Int) := by
  unfold zig
  rcases Int.lt_or_le n 0 with h | h
  · rw [if_neg (by omega), show n / 9223372036854775808 % 18446744073709551616 = 18446744073709551615 by omega]
    show IntKind.u64.wrap ((BitVec.ofInt 64 (2 * n % 18446744073709551616) ^^^ BitVec.ofInt 64 18446744073709551615).toNat : Int) = _
    rw [ones_xor', IntKind.wrap_u64, show 2 * n % 18446744073709551616 = (((2 * n % 18446744073709551616).toNat : Nat) : Int) by omega, ofInt_u64 _ (by omega)]
    omega
  · rw [if_pos h, show n / 9223372036854775808 % 18446744073709551616 = ((0 : Nat) : Int) by omega, show 2 * n % 18446744073709551616 = (((2 * n).toNat : Nat) : Int) by omega, u64_xor_nat _ _ (by omega) (by omega), Nat.xor_zero]
theorem zig_lt {n : Int} (h1 : -9223372036854775808 ≤ n) (h2 : n ≤ 9223372036854775807) : zig n < 18446744073709551616 := by unfold zig; split <;> omega
theorem zag_xor {m : Nat} (h : m < 18446744073709551616) : bits .xor .i64 ((m / 2 : Nat) : Int) (0 - ((m % 2 : Nat) : Int)) = zag m := by
  unfold zag
  rcases Nat.mod_two_eq_zero_or_one m with e | e
  · rw [e, if_pos rfl]
    show IntKind.i64.wrap ((BitVec.ofInt 64 ((m / 2 : Nat) : Int) ^^^ BitVec.ofInt 64 0).toNat : Int) = _
    rw [show BitVec.ofInt 64 0 = 0#64 by decide, BitVec.xor_zero, ofInt_u64 _ (by omega)]
    exact IntWalk.i64_in _ (by omega)
  · rw [e, if_neg (by omega)]
    show IntKind.i64.wrap ((BitVec.ofInt 64 ((m / 2 : Nat) : Int) ^^^ BitVec.ofInt 64 (-1)).toNat : Int) = _
    rw [ones_xor, ofInt_u64 _ (by omega), IntKind.wrap_i64]
    omega
theorem andOne {m : Nat} (h : m < 18446744073709551616) : bits .and .u64 (m : Int) 1 = ((m % 2 : Nat) : Int) := by
  rw [show (1 : Int) = ((1 : Nat) : Int) from rfl, u64_and_nat _ _ h (by decide), nat_mask1]
theorem getNum_lt (s : List UInt8) : (getNum s).1 < 18446744073709551616 := by
  by_cases h : (getNum s).2.2 = 0
  · exact (getNum_ok h).2
  · cases s with
    | nil => decide
    | cons c r =>
      simp only [getNum] at h ⊢
      split
      · decide
      · split
        · decide
        · split
          · decide
          · rename_i h1 h2 h3; exact absurd (by rw [if_neg h1, if_neg h2, if_neg h3]) h
theorem signed_spec {B w : World} {L : List HP} (n : Int) (h1 : -9223372036854775808 ≤ n) (h2 : n ≤ 9223372036854775807) (hS : St B L w) : Does Tryd.prog 41 [Value.int .i64 n] w (fun v w1 => v = str (numB (zig n)) ∧ St B L w1) := by
 refine enter (n := 11) Tryd.func41 rfl rfl [Value.int .i64 n] rfl ?_
 refine WP.seq ?_
 refine WP.region rfl ?_
 refine WO.val (run_assign rfl) rfl rfl rfl ?_
 refine WO.nil ?_
 refine NX.go ?_
 refine WP.seq ?_
 refine WP.region rfl ?_
 refine WO.val (run_move rfl) rfl rfl rfl ?_
 refine WO.val (run_convI Tryd.underlying44 (by kernel_rfl) rfl (IntKind.wrap_u64 _)) rfl rfl rfl ?_
 refine WO.val (run_shl rfl rfl (by omega) (zig_shl n)) rfl rfl rfl ?_
 refine WO.val (run_move rfl) rfl rfl rfl ?_
 refine WO.val (run_shr rfl rfl (by omega) (shr_lit (m := 9223372036854775808) rfl (by decide))) rfl rfl rfl ?_
 refine WO.val (run_convI Tryd.underlying44 (by kernel_rfl) rfl (IntKind.wrap_u64 _)) rfl rfl rfl ?_
 refine WO.val (run_xor rfl rfl (zig_xor h1 h2)) rfl rfl rfl ?_
 refine WO.call rfl rfl Ty.hd40 rfl (num_spec (zig n) (zig_lt h1 h2) hS) (fun v2 w1 pv2 => ?_)
 obtain ⟨rfl, hS1⟩ := pv2
 clear hS
 refine WO.val (run_assign rfl) rfl rfl rfl ?_
 refine WO.nil ?_
 refine NX.go ?_
 refine WP.ret ?_
 refine NX.done (l := [.tmp 2]) rfl rfl ?_
 exact ⟨rfl, hS1⟩
theorem getSigned_spec {B w : World} {L : List HP} (s : List UInt8) (hs : s.length ≤ 140737488355328) (hS : St B L w) : Does Tryd.prog 89 [str s] w (fun v w1 => v = .tuple #[.int .i64 (zag (getNum s).1), .int .i64 ((getNum s).2.1 : Int), .int .i64 (getNum s).2.2] ∧ St B L w1) := by
 refine enter (n := 24) Tryd.func89 rfl rfl [str s] rfl ?_
 refine WP.seq ?_
 refine WP.region rfl ?_
 refine WO.val (run_assign rfl) rfl rfl rfl ?_
 refine WO.val (run_assign rfl) rfl rfl rfl ?_
 refine WO.val (run_assign rfl) rfl rfl rfl ?_
 refine WO.nil ?_
 refine NX.go ?_
 refine WP.seq ?_
 refine WP.region rfl ?_
 refine WO.val (run_move rfl) rfl rfl rfl ?_
 refine WO.call rfl rfl Ty.hd88 rfl (getNum_spec s hs hS) (fun v2 w1 pv2 => ?_)
 obtain ⟨rfl, hS1⟩ := pv2
 clear hS
 refine WO.val (run_move rfl) rfl rfl rfl ?_
 refine WO.val (run_extract rfl rfl) rfl rfl rfl ?_
 refine WO.val (run_extract rfl rfl) rfl rfl rfl ?_
 refine WO.val (run_extract rfl rfl) rfl rfl rfl ?_
 refine WO.val (run_assign rfl) rfl rfl rfl ?_
 refine WO.val (run_assign rfl) rfl rfl rfl ?_
 refine WO.val (run_assign rfl) rfl rfl rfl ?_
 refine WO.nil ?_
 refine NX.go ?_
 refine WP.seq ?_
 have hlt := getNum_lt s
 refine WP.region rfl ?_
 refine WO.val (run_move rfl) rfl rfl rfl ?_
 refine WO.val (run_shr rfl rfl (by omega) (shr_lit (m := 2) rfl (by decide))) rfl rfl rfl ?_
 refine WO.val (run_convI Tryd.underlying2 (by kernel_rfl) rfl (IntWalk.i64_in _ (by omega))) rfl rfl rfl ?_
 refine WO.val (run_move rfl) rfl rfl rfl ?_
 refine WO.val (run_and rfl rfl (andOne hlt)) rfl rfl rfl ?_
 refine WO.val (run_convI Tryd.underlying2 (by kernel_rfl) rfl (IntWalk.i64_in _ (by omega))) rfl rfl rfl ?_
 refine WO.val (run_neg rfl (IntWalk.i64_in _ (by omega))) rfl rfl rfl ?_
 refine WO.val (run_xor rfl rfl (zag_xor hlt)) rfl rfl rfl ?_
 refine WO.val (run_move rfl) rfl rfl rfl ?_
 refine WO.val (run_move rfl) rfl rfl rfl ?_
 refine WO.val (run_assign rfl) rfl rfl rfl ?_
 refine WO.val (run_assign rfl) rfl rfl rfl ?_
 refine WO.val (run_assign rfl) rfl rfl rfl ?_
 refine WO.nil ?_
 refine NX.go ?_
 refine WP.ret ?_
 refine NX.done (l := [.tmp 2, .tmp 3, .tmp 4]) rfl rfl ?_
 exact ⟨rfl, hS1⟩
end Go.Proofs.YtcehlnpbdffdhaaDoor.SL
