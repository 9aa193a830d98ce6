/- Check sums. -/
import Derived.Test.YtcehlnpbdffdhaaDoorKd3
import Derived.Laws.BitsAllLaws
namespace Go.Proofs.YtcehlnpbdffdhaaDoor.SL
open Go.RowKit Go.Proofs.YtcehlnpbdffdhaaDoor
open Go.Proofs.YtcehlnpbdffdhaaDoorW.PrintLast (rtab opsOf)
set_option linter.unusedVariables false
set_option linter.unusedSimpArgs false

def stepF (c : Nat) : Nat := if c % 2 = 1 then (c / 2) ^^^ 2197175160 else c / 2
theorem stepF_lt {c : Nat} (h : c < 4294967296) : stepF c < 4294967296 := by
  unfold stepF; split
  · exact Nat.xor_lt_two_pow (n := 32) (by omega) (by decide)
  · omega
def stepsF : Nat → Nat → Nat
  | 0, c => c
  | k + 1, c => stepF (stepsF k c)
theorem stepsF_lt {c : Nat} (h : c < 4294967296) : ∀ k, stepsF k c < 4294967296
  | 0 => h
  | k + 1 => stepF_lt (stepsF_lt h k)
def byteF (c : Nat) (b : UInt8) : Nat := stepsF 8 (c ^^^ b.toNat)
theorem xb_lt {c : Nat} (h : c < 4294967296) (b : UInt8) : c ^^^ b.toNat < 4294967296 := Nat.xor_lt_two_pow (n := 32) (by omega) (by have := UInt8.toNat_lt b; omega)
def sumGo (c : Nat) (s : List UInt8) : Nat := s.foldl byteF c
theorem sumGo_lt : ∀ {s : List UInt8} {c : Nat}, c < 4294967296 → sumGo c s < 4294967296
  | [], _, h => h
  | b :: s, c, h => sumGo_lt (s := s) (stepsF_lt (xb_lt h b) 8)
theorem sumGo_snoc (c : Nat) (s : List UInt8) (b : UInt8) : sumGo c (s ++ [b]) = byteF (sumGo c s) b := by unfold sumGo; rw [List.foldl_append]; rfl
def moreF (c : Nat) (s : List UInt8) : Nat := 4294967295 - sumGo (4294967295 - c) s
theorem moreF_lt (c : Nat) (s : List UInt8) : moreF c s < 4294967296 := by unfold moreF; omega
def bytes4 (c : Nat) : List UInt8 := [UInt8.ofNat (c / 16777216), UInt8.ofNat (c / 65536), UInt8.ofNat (c / 256), UInt8.ofNat c]
theorem and1 {c : Nat} (h : c < 4294967296) : bits .and .u32 (c : Int) 1 = ((c % 2 : Nat) : Int) := by
  have := u32_and_nat c 1 h (by decide)
  rw [Nat.and_one_is_mod] at this; exact this
theorem xor_step {c : Nat} (h : c < 4294967296) : bits .xor .u32 ((c : Int) / 2) (if c % 2 = 1 then 2197175160 else 0) = ((stepF c : Nat) : Int) := by
  unfold stepF
  split
  · exact u32_xor_nat (c / 2) 2197175160 (by omega) (by decide)
  · have := u32_xor_nat (c / 2) 0 (by omega) (by decide)
    rw [Nat.xor_zero] at this; exact this
theorem xor_byte {c : Nat} (h : c < 4294967296) (b : UInt8) : bits .xor .u32 (c : Int) (b.toNat : Int) = ((c ^^^ b.toNat : Nat) : Int) := u32_xor_nat c b.toNat h (by have := UInt8.toNat_lt b; omega)
theorem compl32 {c : Nat} (h : c < 4294967296) : IntKind.u32.wrap ((BitVec.ofInt IntKind.u32.bits (if IntKind.u32.signed then -1 else IntKind.u32.max) ^^^ BitVec.ofInt IntKind.u32.bits (c : Int)).toNat : Int) = ((4294967295 - c : Nat) : Int) := by
  have e : (BitVec.ofInt IntKind.u32.bits (if IntKind.u32.signed then -1 else IntKind.u32.max) ^^^ BitVec.ofInt IntKind.u32.bits (c : Int)).toNat = 4294967295 - c := by
    show (BitVec.ofInt 32 4294967295 ^^^ BitVec.ofInt 32 (c : Int)).toNat = _
    have h1 : BitVec.ofInt 32 4294967295 = BitVec.allOnes 32 := by decide
    rw [h1, BitVec.allOnes_xor, BitVec.toNat_not]
    simp [BitVec.toNat_ofInt]
    omega
  rw [e, IntWalk.u32_in _ (by omega)]
theorem mask_at (c : Nat) : [Value.int .u32 0, Value.int .u32 2197175160][c % 2]? = some (Value.int .u32 (if c % 2 = 1 then 2197175160 else 0)) := by
  rcases Nat.mod_two_eq_zero_or_one c with h | h <;> rw [h] <;> rfl
theorem step_spec {B w : World} {L : List HP} {g : Nat} (c : Nat) (hc : c < 4294967296) (hS : St B (cel g [Value.int .u32 0, Value.int .u32 2197175160] 162 :: L) w) : Does Tryd.prog 118 [Value.pointer (some ⟨g, 0, none⟩), Value.int .u32 (c : Int)] w (fun v w1 => v = .int .u32 ((stepF c : Nat) : Int) ∧ St B (cel g [Value.int .u32 0, Value.int .u32 2197175160] 162 :: L) w1) := by
 refine enter (n := 14) Tryd.func118 rfl rfl [Value.pointer (some ⟨g, 0, none⟩), Value.int .u32 (c : Int)] rfl ?_
 refine WP.seq ?_
 refine WP.region rfl ?_
 refine WO.val (run_assign rfl) rfl rfl rfl ?_
 refine WO.nil ?_
 refine NX.go ?_
 refine WP.seq ?_
 refine WP.region rfl ?_
 refine WO.val (run_move rfl) rfl rfl rfl ?_
 refine WO.val (run_shr rfl rfl (by omega) (shr_lit (m := 2) rfl (by decide))) rfl rfl rfl ?_
 refine WO.val (run_move rfl) rfl rfl rfl ?_
 refine WO.val (run_move rfl) rfl rfl rfl ?_
 refine WO.val (run_and rfl rfl (and1 hc)) rfl rfl rfl ?_
 refine WO.val (run_nilCheck rfl) rfl rfl rfl ?_
 refine WO.val (run_indexAddrA (q := ⟨g, (c % 2), none⟩) Tryd.underlying162 Ty.sz125 rfl rfl (by omega) (by omega) (by simp)) rfl rfl rfl ?_
 refine WO.val (run_load Ty.ag125 rfl ((hS.cel_at 0 rfl _).trans (mask_at c))) rfl rfl rfl ?_
 refine WO.val (run_xor rfl rfl (xor_step hc)) rfl rfl rfl ?_
 refine WO.val (run_assign rfl) rfl rfl rfl ?_
 refine WO.nil ?_
 refine NX.go ?_
 refine WP.ret ?_
 refine NX.done (l := [.tmp 4]) rfl rfl ?_
 exact ⟨rfl, hS⟩
end Go.Proofs.YtcehlnpbdffdhaaDoor.SL
