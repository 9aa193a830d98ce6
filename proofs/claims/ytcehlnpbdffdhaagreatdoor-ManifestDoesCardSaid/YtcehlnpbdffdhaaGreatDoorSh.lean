/- The library's contracts on whole numbers in a row, in the words of assertions. -/
import Derived.Test.YtcehlnpbdffdhaaGreatDoorSl8
import Derived.Shelf.Sort.Plain
import Derived.Shelf.Slices.CompactI
namespace Go.Proofs.YtcehlnpbdffdhaaGreatDoor.SL
open Go.RowKit
set_option linter.unusedVariables false
variable {B w : World} {L : List HP}
def ri (l : List Int) : List Value := l.map (Value.int .i64)
theorem ri_noAgg (l : List Int) : (ri l).all noAgg = true := by simp [ri, noAgg, List.all_map]
theorem ri_get {l : List Int} {i : Nat} {x : Int} (h : l[i]? = some x) : (ri l)[i]? = some (Value.int .i64 x) := by unfold ri; rw [List.getElem?_map, h]; rfl
/-- Parts of a slice that is read. -/
theorem Rd.take {a : Option Addr} {n k m : Nat} {l : List Value} (h : Rd w a n k l) (hm : m ≤ n) : Rd w a m k (l.take (m * k)) := by
  have hk : m * k ≤ n * k := Nat.mul_le_mul_right _ hm
  refine ⟨by rw [List.length_take, h.1]; omega, fun hp => h.2.1 (by omega), fun j hj => ?_⟩
  rw [h.2.2 j (by omega), List.getElem?_take_of_lt hj]
theorem Rd.drop1 {a : Option Addr} {n i c : Nat} {l : List Value} (h : Rd w a n 1 l) (hi : i ≤ n) (hc : n ≤ c) : Rd w (if c = i then a else a.map (·.add (i * 1))) (n - i) 1 (l.drop i) := by
  refine ⟨by rw [List.length_drop, h.1]; omega, fun hp => ?_, fun j hj => ?_⟩
  · obtain ⟨⟨b, o, sp⟩, rfl, hs⟩ := h.2.1 (by omega)
    simp only at hs; subst hs
    rw [if_neg (by omega), Option.map_some, Go.WideShapes.add_plain]
    exact ⟨_, rfl, rfl⟩
  · obtain ⟨⟨b, o, sp⟩, rfl, hs⟩ := h.2.1 (by omega)
    simp only at hs; subst hs
    rw [if_neg (by omega), List.getElem?_drop, ← h.2.2 (i + j) (by omega), Option.map_some, Go.WideShapes.add_plain]
    show w.cell? ⟨b, o + i * 1 + j, none⟩ = w.cell? ⟨b, o + (i + j), none⟩
    rw [Nat.mul_one, Nat.add_assoc]
end Go.Proofs.YtcehlnpbdffdhaaGreatDoor.SL
