/- Take, in the words of a Net. -/
import Derived.Test.YtcdbnbdeinhokaaNx3
namespace Go.Proofs.Ytcdbnbdeinhokaa.Nx
open Go.RowKit
open Go.Proofs.Ytcdbnbdeinhokaa.Xb Go.Proofs.Ytcdbnbdeinhokaa.Nb
set_option linter.unusedSimpArgs false
set_option linter.unusedVariables false
def Taken (base g : Nat) (p : PV) (L : List PV) (gone : Int) (w : World) (e : Ending) (w' : World) : Prop := AtSome p e ∧ Net base w' g L gone ∧ NChg base w w'
theorem take_some {base : Nat} {w : World} {g : Nat} {L : List PV} {gone : Int} (h : Net base w g L gone) {m : Nat} (hL : L.length = m + 1) (hm : m < 64) (i : Nat) {p pl : PV} (hp : L[i]? = some p) (hpl : L[m]? = some pl) :
    Calls Try.prog 10 #[.pointer (some ⟨g, 0, none⟩), .int .i64 (i : Int)] w (Taken base g p ((L.set i pl).take m) gone w) := by
  have hat := at_some h (by omega) i p hp
  obtain ⟨v, h⟩ := h
  have hi : i < L.length := (List.getElem?_eq_some_iff.1 hp).1
  rcases h.form with ⟨h0, _⟩ | ⟨gr, cap, cur, rfl, hg, hb, hl, hcm, hs, ht⟩
  · subst h0; simp at hL
  obtain ⟨gb, cb, cs, fr, e1, _, _⟩ := h.bytes pl (List.mem_of_getElem? hpl)
  obtain ⟨gi, ci, csi, fri, e2, _, _⟩ := h.bytes p (List.mem_of_getElem? hp)
  have cell : ∀ k j, k < L.length → j < 3 → cur[k * 3 + j]? = (cellsL L)[k * 3 + j]? := fun k j hk hj => by
    rw [← ht, List.getElem?_take_of_lt (by omega), Array.getElem?_toList]
  have cl : ∀ k q, L[k]? = some q → ∀ j, j < 3 → cur[k * 3 + j]? = (cellsP q)[j]? := fun k q hq j hj => by
    rw [cell k j (List.getElem?_eq_some_iff.1 hq).1 hj, cellsL_get hq j hj]
  have hne : g ≠ gr := by
    rintro rfl
    have h1 := h.blk
    unfold Blk at h1 hb
    rw [hb] at h1
    injection h1 with h1
    injection h1 with _ h3
    exact absurd h3 (by decide)
  have hb1 := h.blk
  rw [hL] at hb1
  refine (take_core (p := p) hb1 hb hne h.low hg hm (by omega) i (by omega) (cl m pl hpl 0 (by omega)) ((cl m pl hpl 1 (by omega)).trans (congrArg some e1)) (cl m pl hpl 2 (by omega)) (cl i p hp 0 (by omega)) (cl i p hp 1 (by omega)) (cl i p hp 2 (by omega)) hat).mono ?_
  rintro e w' ⟨k1, k2, k3, k4⟩
  unfold Taken
  refine ⟨k1, ⟨.slice (some ⟨gr, 0, none⟩) m cap, ?_⟩, k4⟩
  have hlen : ((L.set i pl).take m).length = m := by rw [List.length_take, List.length_set]; omega
  refine ⟨k2, h.low, ?_, ?_⟩
  · rw [hlen]
    refine ⟨by rw [cellsL_length, hlen], .inr ⟨gr, cap, _, rfl, hg, k3, by omega, hcm, by simpa using hs, ?_⟩⟩
    rw [← cellsL_take, cellsL_set _ _ _ hi, ← ht]
    simp only [Array.toList_setIfInBounds, e1]
    simp only [List.take_set, List.take_take]
    rw [show min (m * 3) (L.length * 3) = m * 3 by omega]
  · intro q hq
    have hq := List.mem_of_mem_take hq
    rcases List.mem_or_eq_of_mem_set hq with hq | hq
    · exact (h.bytes q hq).chg k4
    · subst hq
      exact (h.bytes q (List.mem_of_getElem? hpl)).chg k4
end Go.Proofs.Ytcdbnbdeinhokaa.Nx
