/- Arguments read, in the words of assertions; a contract as a law's row asks for it. -/
import Derived.Test.YtcdbnbdeinhokaaSl8
import Derived.Test.YtcdbnbdeinhokaaXo
namespace Go.Proofs.Ytcdbnbdeinhokaa.SL
open Go.RowKit
set_option linter.unusedVariables false
theorem toCalls {P : Program} {f : FuncId} {args : List Value} {W : World} (h : St W [] W → Does P f args W (fun v w1 => v = .bool true ∧ St W [] w1)) : Calls P f args.toArray W fun e W' => e = .returned (.bool true) ∧ Below W.heap.size W W' :=
  Calls.mono (h (St.start W)) fun e w' ⟨v, he, hv, hS⟩ => ⟨by rw [he, hv], hS.below⟩
theorem list_of {α : Type} {p : Nat → α → Prop} : ∀ (n : Nat), (∀ i, i < n → ∃ x, p i x) → ∃ l : List α, l.length = n ∧ ∀ i x, l[i]? = some x → p i x
  | 0, _ => ⟨[], rfl, fun i x h => by simp at h⟩
  | n + 1, h => by
    obtain ⟨l, hl, hp⟩ := list_of n fun i hi => h i (by omega)
    obtain ⟨x, hx⟩ := h n (by omega)
    refine ⟨l ++ [x], by simp [hl], fun i y hy => ?_⟩
    rcases Nat.lt_or_ge i l.length with c | c
    · rw [List.getElem?_append_left c] at hy; exact hp i y hy
    · have hi : i < (l ++ [x]).length := (List.getElem?_eq_some_iff.1 hy).1
      have e : i = l.length := by simp at hi; omega
      subst e
      simp at hy; subst hy; rw [hl]; exact hx
theorem rd_of_rows {α : Type} {enc : α → List Value} {k n : Nat} {W : World} {a : Option Addr} {l : List α} (hk : ∀ x, (enc x).length = k) (hl : l.length = n) (hk0 : 0 < k)
    (h : ∀ i x, l[i]? = some x → ∃ b off, a = some ⟨b, off, none⟩ ∧ ∀ j, j < k → W.cell? ⟨b, off + (i * k + j), none⟩ = (enc x)[j]?) : Rd W a n k (l.flatMap enc) := by
  refine ⟨by rw [flat_len hk, hl], fun hn => ?_, fun j hj => ?_⟩
  · obtain ⟨b, off, e, _⟩ := h 0 l[0] (List.getElem?_eq_getElem (by omega))
    exact ⟨_, e, rfl⟩
  · have hi : j / k < l.length := by rw [hl]; exact Nat.div_lt_of_lt_mul (by rw [Nat.mul_comm]; exact hj)
    obtain ⟨b, off, e, hc⟩ := h (j / k) l[j / k] (List.getElem?_eq_getElem hi)
    have hm := Nat.mod_lt j hk0
    have hj' : j / k * k + j % k = j := by rw [Nat.mul_comm]; exact Nat.div_add_mod j k
    have := hc (j % k) hm
    rw [hj'] at this
    subst e
    show W.cell? ⟨b, off + j, none⟩ = _
    rw [this, ← flat_get hk (List.getElem?_eq_getElem hi) hm, hj']
theorem wf_u8 {x : Int} (h : (Lit.int .u8 x).wf = true) : 0 ≤ x ∧ x < 256 := by
  have h2 : IntKind.u8.min ≤ x ∧ x ≤ IntKind.u8.max := by simpa [Lit.wf] using h
  have e1 : IntKind.u8.min = 0 := by decide
  have e2 : IntKind.u8.max = 255 := by decide
  rw [e1, e2] at h2; omega
theorem wf_u64 {x : Int} (h : (Lit.int .u64 x).wf = true) : 0 ≤ x ∧ x < 18446744073709551616 := by
  have h2 : IntKind.u64.min ≤ x ∧ x ≤ IntKind.u64.max := by simpa [Lit.wf] using h
  have e1 : IntKind.u64.min = 0 := by decide
  have e2 : IntKind.u64.max = 18446744073709551615 := by decide
  rw [e1, e2] at h2; omega
theorem wf_i64 {x : Int} (h : (Lit.int .i64 x).wf = true) : -9223372036854775808 ≤ x ∧ x ≤ 9223372036854775807 := by
  have h2 : IntKind.i64.min ≤ x ∧ x ≤ IntKind.i64.max := by simpa [Lit.wf] using h
  have e1 : IntKind.i64.min = -9223372036854775808 := by decide
  have e2 : IntKind.i64.max = 9223372036854775807 := by decide
  rw [e1, e2] at h2; exact h2
/-- A byte by its number. -/
theorem u8_of {x : Int} (h : 0 ≤ x ∧ x < 256) : ∃ b : UInt8, (b.toNat : Int) = x := ⟨UInt8.ofNat x.toNat, by rw [UInt8.toNat_ofNat']; omega⟩
end Go.Proofs.Ytcdbnbdeinhokaa.SL
