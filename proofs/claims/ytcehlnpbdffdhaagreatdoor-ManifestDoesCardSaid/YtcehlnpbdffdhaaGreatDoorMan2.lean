/- Manifests as plain data: what is written is read, and read as it was. -/
import Derived.Test.YtcehlnpbdffdhaaGreatDoorPbM
namespace Go.Proofs.YtcehlnpbdffdhaaGreatDoor.SL
open Go.RowKit
set_option linter.unusedVariables false
set_option linter.unusedSimpArgs false
structure GoodM (m : Man) : Prop where
  e : inM m.e
  b : inM m.b
  p : inM m.p
  c : inM m.c
  n : m.bl.length ≤ 16
  t : ∀ t ∈ m.bl, fileF t = true
theorem check_good {m : Man} (h : checkM m = 0) : GoodM m := by
  unfold checkM at h
  split at h
  · cases h
  · rename_i h1
    have h1 := Decidable.of_not_not h1
    split at h
    · cases h
    · split at h
      · cases h
      · split at h
        · rename_i h3 h4
          exact ⟨h1.1, h1.2.1, h1.2.2.1, h1.2.2.2.1, by omega, fun t ht => List.all_eq_true.1 h4 t ht⟩
        · cases h
theorem data_len {m : Man} (hr : RngM m) (h : checkM m = 0) : (dataM m).length ≤ 1000 := by
  have hg := check_good h
  have he : 0 ≤ m.e ∧ m.e ≤ 99999999 := hg.e
  have hb : 0 ≤ m.b ∧ m.b ≤ 99999999 := hg.b
  have hp : 0 ≤ m.p ∧ m.p ≤ 99999999 := hg.p
  have hc : 0 ≤ m.c ∧ m.c ≤ 99999999 := hg.c
  have hn := hg.n
  have := flat_len6 (m := m) (fun t ht => fileF_len (hg.t t ht)) hg.n (numB_len (by omega)) (numB_len (by omega)) (numB_len (by omega)) (numB_len (zig_lt hr.k.1 hr.k.2)) (numB_len (by omega)) (numB_len (by omega))
  rw [flat_data] at this; exact this
theorem enc_ok {m : Man} (hr : RngM m) (h : checkM m = 0) : encM m = ((putF 6 (dataM m)).1, 0) := by
  have hl := data_len hr h
  unfold encM
  rw [if_pos h, putF_ok (by decide) (by decide) (by omega)]
theorem enc_len {m : Man} (hr : RngM m) : (encM m).1.length ≤ 1014 := by
  by_cases h : checkM m = 0
  · rw [enc_ok hr h]
    have hl := data_len hr h
    rw [putF_length (by decide) (by decide) (by omega), textB_length]
    have := numB_len (show (dataM m).length < 18446744073709551616 by omega)
    omega
  · unfold encM; rw [if_neg h]; exact Nat.zero_le _
end Go.Proofs.YtcehlnpbdffdhaaGreatDoor.SL
