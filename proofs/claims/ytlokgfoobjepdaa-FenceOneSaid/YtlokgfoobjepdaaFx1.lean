/- Contracts of the small functions of fence. -/
import Derived.Test.YtlokgfoobjepdaaProg
import Derived.WalkKit
import Derived.Below
import Derived.KernelRfl
import Derived.Outline
import Derived.Lib.Hide
import Derived.Laws.ResultCell
import Derived.Laws.BitsLemmas
namespace Go.Proofs.Ytlokgfoobjepdaa.Fx
open Go.RowKit

theorem ret_int {k : IntKind} {a b : Int} (h : a = b) : Ending.returned (.int k a) = .returned (.int k b) := by rw [h]
theorem ret_bool {a b : Bool} (h : a = b) : Ending.returned (.bool a) = .returned (.bool b) := by rw [h]
def withinB (n lo hi : Int) : Bool := decide (lo ≤ n ∧ n ≤ hi)
def rightB (e b p : Int) : Bool := decide ((1 ≤ e ∧ e ≤ 99999998) ∧ (0 ≤ b ∧ b ≤ 99999999) ∧ (e ≤ p ∧ p ≤ e + 1))

set_option maxHeartbeats 400000 in
theorem within_any (n lo hi : Int) (w : World) :
    Calls Try.prog 24 #[.int .i64 n, .int .i64 lo, .int .i64 hi] w fun e w' => e = .returned (.bool (withinB n lo hi)) ∧ w = w' := by
  by_cases h1 : lo ≤ n <;> by_cases h2 : n ≤ hi <;>
  · go_enter Try.func24, Try.ntmps24
    go_wp2
    go_ret
    exact ⟨by simp [withinB, *], rfl⟩
theorem within_yes (n lo hi : Int) (w : World) (h : withinB n lo hi = true) :
    Calls Try.prog 24 #[.int .i64 n, .int .i64 lo, .int .i64 hi] w fun e w' => e = .returned (.bool true) ∧ w = w' := h ▸ within_any n lo hi w
theorem within_no (n lo hi : Int) (w : World) (h : withinB n lo hi = false) :
    Calls Try.prog 24 #[.int .i64 n, .int .i64 lo, .int .i64 hi] w fun e w' => e = .returned (.bool false) ∧ w = w' := h ▸ within_any n lo hi w

set_option maxHeartbeats 400000 in
theorem right_any (e b p : Int) (w : World) :
    Calls Try.prog 23 #[.agg #[.int .i64 e, .int .i64 b, .int .i64 p]] w fun en w' => en = .returned (.bool (rightB e b p)) ∧ Below w.heap.size w w' := by
  by_cases h1 : 1 ≤ e ∧ e ≤ 99999998
  · have H1 : withinB e 1 99999998 = true := by simp [withinB]; omega
    by_cases h2 : 0 ≤ b ∧ b ≤ 99999999
    · have H2 : withinB b 0 99999999 = true := by simp [withinB]; omega
      obtain ⟨h1a, h1b⟩ := h1
      have H : Hid (withinB p e (e + 1) = rightB e b p) := Lib.hid (by simp only [withinB, rightB, decide_eq_decide]; omega)
      go_enter Try.func23, Try.ntmps23
      go_wp2_with fail
      refine (within_yes _ _ _ _ H1).mono ?_; rintro en w' ⟨rfl, rfl⟩
      go_wp2_with fail
      refine (within_yes _ _ _ _ H2).mono ?_; rintro en w' ⟨rfl, rfl⟩
      go_wp2_with fail
      refine (within_any _ _ _ _).mono ?_; rintro en w' ⟨rfl, rfl⟩
      go_wp2_with fail
      go_ret
      exact ⟨ret_bool (by rw [H.out]), (Below.refl _ _).alloc (Nat.le_refl _) _⟩
    · have H2 : withinB b 0 99999999 = false := by simp [withinB]; omega
      have H : Hid (rightB e b p = false) := Lib.hid (by simp [rightB]; omega)
      clear h2
      go_enter Try.func23, Try.ntmps23
      go_wp2_with fail
      refine (within_yes _ _ _ _ H1).mono ?_; rintro en w' ⟨rfl, rfl⟩
      go_wp2_with fail
      refine (within_no _ _ _ _ H2).mono ?_; rintro en w' ⟨rfl, rfl⟩
      go_wp2_with fail
      go_ret
      exact ⟨ret_bool (by rw [H.out]), (Below.refl _ _).alloc (Nat.le_refl _) _⟩
  · have H1 : withinB e 1 99999998 = false := by simp [withinB]; omega
    have H : Hid (rightB e b p = false) := Lib.hid (by simp [rightB]; omega)
    go_enter Try.func23, Try.ntmps23
    go_wp2_with fail
    refine (within_no _ _ _ _ H1).mono ?_; rintro en w' ⟨rfl, rfl⟩
    go_wp2_with fail
    go_ret
    exact ⟨ret_bool (by rw [H.out]), (Below.refl _ _).alloc (Nat.le_refl _) _⟩

/-- The leader of an epoch. -/
def lead (e : Int) : Int := 1 - e % 2
theorem and_one (e : Int) : bits .and .i64 e 1 = e % 2 := by
  have h : (BitVec.ofInt IntKind.i64.bits e &&& BitVec.ofInt IntKind.i64.bits 1).toNat = (e % 2).toNat := by
    have h1 : (BitVec.ofInt IntKind.i64.bits 1).toNat = 1 := by decide
    rw [BitVec.toNat_and, h1, Nat.and_one_is_mod, BitVec.toNat_ofInt]
    have : IntKind.i64.bits = 64 := rfl
    rw [this]; omega
  show IntKind.i64.wrap ((BitVec.ofInt IntKind.i64.bits e &&& BitVec.ofInt IntKind.i64.bits 1).toNat : Int) = e % 2
  rw [h, IntKind.wrap_i64]; omega
set_option maxHeartbeats 400000 in
theorem leader_any (e : Int) (w : World) :
    Calls Try.prog 8 #[.int .i64 e] w fun en w' => en = .returned (.int .i64 (lead e)) ∧ w = w' := by
  have H := Lib.hid (and_one e)
  go_enter Try.func8, Try.ntmps8
  go_wp2
  go_ret
  exact ⟨ret_int (by rw [H.out]; unfold wrap64 lead; omega), rfl⟩
end Go.Proofs.Ytlokgfoobjepdaa.Fx
