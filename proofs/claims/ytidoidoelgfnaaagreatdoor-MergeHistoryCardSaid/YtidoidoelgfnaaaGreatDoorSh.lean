/- The library's contracts on whole numbers in a row, in the words of assertions. -/
import Derived.Test.YtidoidoelgfnaaaGreatDoorSl8
import Derived.Shelf.Sort.Plain
import Derived.Shelf.Slices.CompactI
namespace Go.Proofs.YtidoidoelgfnaaaGreatDoor.SL
open Go.RowKit
set_option linter.unusedVariables false
variable {B w : World} {L : List HP}
theorem St.grow (os : Array Obj) (h : St B L w) : St B L (Go.Sort.grow w os) := by
  obtain ⟨h1, h2, h3, Z, p, d, hB, hZ, hp, s⟩ := h
  have big : Le (heapOf w) (heapOf (Go.Sort.grow w os)) := Le.mk fun g x e => by
    have hlt : g < w.heap.size := (Array.getElem?_eq_some_iff.1 e).1
    show (w.heap ++ os)[g]? = some x
    rw [Array.getElem?_append_left hlt]; exact e
  exact ⟨h1, h2, h3, Z, p, d, hB, hZ.trans big, hp.trans big, s⟩
theorem St.ahead (q : Nat) (h : St B L w) : St B L (Go.Sort.ahead w q) := by
  obtain ⟨h1, h2, h3, Z, p, d, hB, hZ, hp, s⟩ := h
  exact ⟨h1, h2, ⟨h3.1, Nat.le_trans h3.2 (Nat.le_add_right _ _)⟩, Z, p, d, hB, hZ, hp, s⟩
theorem mid_get {α : Type} (x l y : List α) (k : Nat) : (x ++ (l ++ y))[k]? = if k < x.length then x[k]? else if k - x.length < l.length then l[k - x.length]? else y[k - x.length - l.length]? := by
  split
  · rw [List.getElem?_append_left (by assumption)]
  · rw [List.getElem?_append_right (by omega)]
    split
    · rw [List.getElem?_append_left (by assumption)]
    · rw [List.getElem?_append_right (by omega)]
/-- Parts of a slice that is read. -/
theorem Rd.take {a : Option Addr} {n k m : Nat} {l : List Value} (h : Rd w a n k l) (hm : m ≤ n) : Rd w a m k (l.take (m * k)) := by
  have hk : m * k ≤ n * k := Nat.mul_le_mul_right _ hm
  refine ⟨by rw [List.length_take, h.1]; omega, fun hp => h.2.1 (by omega), fun j hj => ?_⟩
  rw [h.2.2 j (by omega), List.getElem?_take_of_lt hj]
end Go.Proofs.YtidoidoelgfnaaaGreatDoor.SL
