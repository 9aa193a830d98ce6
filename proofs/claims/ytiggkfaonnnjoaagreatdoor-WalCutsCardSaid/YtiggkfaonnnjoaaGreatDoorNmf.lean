/- Names of files, and small laws of lists. -/
import Derived.Test.YtiggkfaonnnjoaaGreatDoorShelf
import Derived.Test.YtiggkfaonnnjoaaGreatDoorSl8
namespace Go.Proofs.YtiggkfaonnnjoaaGreatDoor.SL
open Go.RowKit
set_option linter.unusedVariables false
def fileB (b : UInt8) : Prop := 97 ≤ b.toNat ∧ b.toNat ≤ 122 ∨ 48 ≤ b.toNat ∧ b.toNat ≤ 57 ∨ b.toNat = 46 ∨ b.toNat = 45
instance (b : UInt8) : Decidable (fileB b) := by unfold fileB; exact inferInstance
def fileF (s : List UInt8) : Bool := decide (s ≠ [] ∧ s.length ≤ 32 ∧ ∀ b ∈ s, fileB b)
theorem file_next {s : List UInt8} {p : Nat} {b : UInt8} (h : ∀ j b, j < p → s[j]? = some b → fileB b) (hb : s[p]? = some b) (hv : fileB b) : ∀ j c, j < p + 1 → s[j]? = some c → fileB c := by
  intro j c hj hc
  rcases Nat.lt_or_ge j p with k | k
  · exact h j c k hc
  · have : j = p := by omega
    subst this; rw [hb] at hc; cases hc; exact hv
theorem all_of {s : List UInt8} {p : Nat} {Q : UInt8 → Prop} (h : ∀ j b, j < p → s[j]? = some b → Q b) (hp : s.length ≤ p) : ∀ b ∈ s, Q b := by
  intro b hb
  obtain ⟨j, hj, e⟩ := List.getElem_of_mem hb
  exact h j b (by omega) (by rw [List.getElem?_eq_getElem hj, e])
theorem all_next {α : Type} {l : List α} {i : Nat} {x : α} {f : α → Bool} (h : (l.take i).all f = true) (hx : l[i]? = some x) (hf : f x = true) : (l.take (i + 1)).all f = true := by
  rw [List.take_add_one, hx, Option.toList_some, List.all_append, h]; simp [hf]
theorem all_not {α : Type} {l : List α} {i : Nat} {x : α} {f : α → Bool} (hx : l[i]? = some x) (hf : f x = false) : ¬ l.all f = true := fun h => by
  have := List.all_eq_true.1 h x (List.mem_of_getElem? hx)
  rw [hf] at this; cases this
theorem str_at {l : List (List UInt8)} {i : Nat} {t : List UInt8} (h : l[i]? = some t) : (l.map str)[i]? = some (str t) := by rw [List.getElem?_map, h]; rfl
end Go.Proofs.YtiggkfaonnnjoaaGreatDoor.SL
