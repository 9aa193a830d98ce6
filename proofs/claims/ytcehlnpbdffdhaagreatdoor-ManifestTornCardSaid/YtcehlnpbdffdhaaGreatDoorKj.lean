/- strings.Join at no separator. -/
import Derived.Test.YtcehlnpbdffdhaaGreatDoorSl11
import Derived.Test.YtcehlnpbdffdhaaGreatDoorShelf
import Derived.Test.YtcehlnpbdffdhaaGreatDoorTy
namespace Go.Proofs.YtcehlnpbdffdhaaGreatDoor.SL
open Go.RowKit Go.Proofs.YtcehlnpbdffdhaaGreatDoor
open Go.Proofs.YtcehlnpbdffdhaaGreatDoorW.PrintLast (rtab opsOf)
set_option linter.unusedVariables false
set_option linter.unusedSimpArgs false
open Go.Lib

theorem join_flat : ∀ (l : List (List UInt8)), Lib.join l [] = l.flatten
  | [] => rfl
  | x :: l => by
    rw [Lib.join_cons]
    unfold Lib.joinTail
    simp
theorem join_spec {B w : World} {L : List HP} {a : Option Addr} {c : Nat} {t : TypeId} {xs : List (List UInt8)} (hN : xs.length ≤ 140737488355328) (hl : xs.flatten.length ≤ 140737488355328) (hS : St B (own a xs.length c t 1 (xs.map str) :: L) w) :
    Does Tryz.prog 40 [.slice a xs.length c, str []] w (fun v w1 => v = str xs.flatten ∧ St B (own a xs.length c t 1 (xs.map str) :: L) w1) := by
  obtain ⟨hrd, hcap⟩ := hS.own_rd
  rcases Nat.eq_zero_or_pos xs.length with e | e
  · have hx : xs = [] := List.length_eq_zero_iff.1 e
    subst hx
    exact Calls.mono (Tryz.strings_Join_none a c (bs []) w) fun e w' ⟨he, hw⟩ => ⟨_, he, rfl, hw ▸ hS⟩
  · obtain ⟨⟨bk, o, sp⟩, rfl, hsp⟩ := hrd.2.1 e
    simp only at hsp; subst hsp
    have hc : ∀ (j : Nat) x, (xs.map bs)[j]? = some x → w.cell? ⟨bk, o + j, none⟩ = some (.string x) := fun j x hx => by
      rw [List.getElem?_map] at hx
      obtain ⟨y, hy, rfl⟩ := Option.map_eq_some_iff.1 hx
      exact hrd.cell (j := j) (by rw [List.getElem?_map, hy]; rfl)
    have hbk : bk < w.heap.size := by
      obtain ⟨y, hy⟩ : ∃ y, xs[0]? = some y := ⟨_, List.getElem?_eq_getElem e⟩
      have h0 := hc 0 (bs y) (by rw [List.getElem?_map, hy]; rfl)
      rcases Nat.lt_or_ge bk w.heap.size with h | h
      · exact h
      · exfalso
        have hn : w.heap[bk]? = none := Array.getElem?_eq_none h
        simp [World.cell?, hn] at h0
    have hm : ((xs.map bs).map fun b : ByteArray => b.data.toList) = xs := by
      rw [List.map_map]; exact (List.map_congr_left (fun x _ => rfl)).trans (List.map_id xs)
    have h := Tryz.strings_Join bk o c (xs.map bs) (bs []) w hc hbk (by rw [List.length_map]; exact hN) (by rw [List.length_map]; exact hcap) (by rw [hm, show (bs []).data.toList = [] from rfl, join_flat]; exact hl)
    rw [hm, show (bs []).data.toList = [] from rfl, join_flat, List.length_map] at h
    exact Calls.mono h fun e w' ⟨he, hb⟩ => ⟨_, he, rfl, hS.grown hb⟩
end Go.Proofs.YtcehlnpbdffdhaaGreatDoor.SL
