/- Spoil, in the words of a Net. -/
import Derived.Test.YtcdbnbdeinhokaaNx5
namespace Go.Proofs.Ytcdbnbdeinhokaa.Nx
open Go.RowKit
open Go.Proofs.Ytcdbnbdeinhokaa.Xb Go.Proofs.Ytcdbnbdeinhokaa.Nb
set_option linter.unusedSimpArgs false
set_option linter.unusedVariables false
def nums (s : ByteArray) : List Int := s.data.toList.map fun b => (b.toNat : Int)
theorem nums_length (s : ByteArray) : (nums s).length = s.size := by unfold nums; rw [List.length_map, Array.length_toList]; rfl
def Spoilt (base g i : Nat) (p : PV) (s' : ByteArray) (L : List PV) (gone : Int) (w : World) (e : Ending) (w' : World) : Prop := e = .returned (.int .i64 0) ∧ (∃ bv, Net base w' g (L.set i ⟨p.to, bv, true, s'⟩) gone) ∧ NChg base w w'
theorem set_same {α : Type} (l : List α) (i : Nat) (a : α) (h : l[i]? = some a) : l.set i a = l := by
  apply List.ext_getElem?
  intro j
  rw [List.getElem?_set]
  split
  · rename_i e; subst e
    split
    · exact h.symm
    · rename_i hj; rw [List.getElem?_eq_none (by omega)] at h; cases h
  · rfl
theorem spoil_some {base : Nat} {w : World} {g : Nat} {L : List PV} {gone : Int} (h : Net base w g L gone) (hL : L.length ≤ 64) (i : Nat) {p : PV} (hp : L[i]? = some p) (hsp : p.sp = false) (k : Nat) (hk : k < p.s.size) (hsz : p.s.size ≤ 4096) (b : Int) (hb0 : ¬ b = 0) (xk : Int) (hxk : (nums p.s)[k]? = some xk) (s' : ByteArray) (hs' : nums s' = (nums p.s).set k (bits .xor .u8 xk b)) :
    Calls Try.prog 14 #[.pointer (some ⟨g, 0, none⟩), .int .i64 (i : Int), .int .i64 (k : Int), .int .u8 b] w (Spoilt base g i p s' L gone w) := by
  obtain ⟨v, h⟩ := h
  have hi : i < L.length := (List.getElem?_eq_some_iff.1 hp).1
  rcases h.form with ⟨h0, _⟩ | ⟨gr, cap, cur, rfl, hg, hb, hl, hcm, hs, ht⟩
  · subst h0; simp at hp
  obtain ⟨gb, cb, cs, fr, e1, hh, hc⟩ := h.bytes p (List.mem_of_getElem? hp)
  have cell : ∀ k j, k < L.length → j < 3 → cur[k * 3 + j]? = (cellsL L)[k * 3 + j]? := fun k j hk hj => by
    rw [← ht, List.getElem?_take_of_lt (by omega), Array.getElem?_toList]
  have cl : ∀ k q, L[k]? = some q → ∀ j, j < 3 → cur[k * 3 + j]? = (cellsP q)[j]? := fun k q hq j hj => by
    rw [cell k j (List.getElem?_eq_some_iff.1 hq).1 hj, cellsL_get hq j hj]
  have hne : g ≠ gr := by
    rintro rfl
    have h1 := h.blk
    unfold Blk at h1 hb
    rw [hb] at h1
    injection h1 with h1
    injection h1 with _ h3
    exact absurd h3 (by decide)
  refine (spoil_core (xs := nums p.s) h.blk hb hne h.low hg hL hl i hi (cl i p hp 0 (by omega)) ((cl i p hp 1 (by omega)).trans (congrArg some e1)) ((cl i p hp 2 (by omega)).trans (by simp [cellsP, hsp])) (nums_length _) (fun j u hu => ?_) k hk hsz hb0 xk hxk).mono ?_
  · rw [cell_of_row w gb j cs 5 fr hh, hc j (by rw [← nums_length]; exact (List.getElem?_eq_some_iff.1 hu).1)]
    have : (List.map (fun b => (b.toNat : Int)) p.s.data.toList).getD j 0 = u := by
      unfold nums at hu
      rw [List.getD_eq_getElem?_getD, hu]; rfl
    rw [this]
  rintro e w' ⟨k1, go, k2, k3, k4, k5⟩
  unfold Spoilt
  refine ⟨k1, ⟨.slice (some ⟨go, 0, none⟩) p.s.size p.s.size, .slice (some ⟨gr, 0, none⟩) L.length cap, ?_⟩, k5⟩
  have hsz' : s'.size = p.s.size := by rw [← nums_length, hs', List.length_set, nums_length]
  refine ⟨k2, h.low, ?_, ?_⟩
  · rw [List.length_set]
    refine ⟨by rw [cellsL_length, List.length_set], .inr ⟨gr, cap, _, rfl, hg, k3, hl, hcm, by simpa using hs, ?_⟩⟩
    rw [cellsL_set _ _ _ hi, ← ht]
    have hh0 : (cur.toList.take (L.length * 3))[i * 3]? = some (.int .i64 p.to) := by
      rw [ht]; exact cellsL_get hp 0 (by omega)
    simp only [Array.toList_setIfInBounds]
    rw [set_same _ _ _ hh0]
    simp only [List.take_set]
  · intro q hq
    rcases List.mem_or_eq_of_mem_set hq with hq | hq
    · exact (h.bytes q hq).chg k5
    · subst hq
      refine ⟨go, p.s.size, _, (0, 0), by rw [hsz'], k4, fun j hj => ?_⟩
      have e2 : ((nums p.s).map fun v => Value.int .u8 v).set k (.int .u8 (bits .xor .u8 xk b)) = (nums s').map fun v => Value.int .u8 v := by
        rw [hs', List.map_set]
      rw [e2]
      have hj' : j < (nums s').length := by rw [nums_length]; exact hj
      show _ = some (Value.int .u8 ((nums s').getD j 0))
      simp [List.getD_eq_getElem?_getD, List.getElem?_eq_getElem hj']
set_option maxHeartbeats 2000000 in
theorem twice_core {w : World} {g gr n cap : Nat} {gone : Int} {cur : Array Value} {b : Int} {gb sl c1 : Nat} (hb : Blk w g #[.slice (some ⟨gr, 0, none⟩) n cap, .int .i64 gone] 49) (hr : Blk w gr cur 51) (hn : n ≤ 64) (hc : n ≤ cap)
    (i : Nat) (hi : i < n) (o1 : cur[i * 3 + 1]? = some (.slice (some ⟨gb, 0, none⟩) sl c1)) (o2 : cur[i * 3 + 2]? = some (.bool true)) (k : Nat) (hk : k < sl) (hs : sl ≤ 4096) (hb0 : ¬ b = 0) :
    Calls Try.prog 14 #[.pointer (some ⟨g, 0, none⟩), .int .i64 (i : Int), .int .i64 (k : Int), .int .u8 b] w fun e w' => e = .returned (.int .i64 13) ∧ w = w' := by
  have f := find_some (i := i) hb hn hc hi
  have F := Asd.mk f; clear f
  have c1' := hr.cell (i * 3 + 1) o1; have c2' := hr.cell (i * 3 + 2) o2
  have bb : (b == 0) = false := beq_eq_false_iff_ne.2 hb0
  have j1 : (k : Int) < (sl : Int) := by omega
  have j2 : ¬ (k : Int) < 0 := by omega
  clear hb hr
  go_enter Try.func14, Try.ntmps14
  go_wp2_with fail
  refine F.out.mono ?_; rintro en w_ ⟨rfl, rfl⟩; clear F
  go_wp2
  go_ret
  exact ⟨rfl, rfl⟩
theorem spoil_twice {base : Nat} {w : World} {g : Nat} {L : List PV} {gone : Int} (h : Net base w g L gone) (hL : L.length ≤ 64) (i : Nat) {p : PV} (hp : L[i]? = some p) (hsp : p.sp = true) (k : Nat) (hk : k < p.s.size) (hsz : p.s.size ≤ 4096) (b : Int) (hb0 : ¬ b = 0) :
    Calls Try.prog 14 #[.pointer (some ⟨g, 0, none⟩), .int .i64 (i : Int), .int .i64 (k : Int), .int .u8 b] w fun e w' => e = .returned (.int .i64 13) ∧ w = w' := by
  obtain ⟨v, h⟩ := h
  have hi : i < L.length := (List.getElem?_eq_some_iff.1 hp).1
  rcases h.form with ⟨h0, _⟩ | ⟨gr, cap, cur, rfl, hg, hb, hl, hcm, hs, ht⟩
  · subst h0; simp at hp
  obtain ⟨gb, cb, cs, fr, e1, hh, hc⟩ := h.bytes p (List.mem_of_getElem? hp)
  have cl : ∀ k q, L[k]? = some q → ∀ j, j < 3 → cur[k * 3 + j]? = (cellsP q)[j]? := fun k q hq j hj => by
    have := (List.getElem?_eq_some_iff.1 hq).1
    rw [← cellsL_get hq j hj, ← ht, List.getElem?_take_of_lt (by omega), Array.getElem?_toList]
  exact twice_core h.blk hb hL hl i hi ((cl i p hp 1 (by omega)).trans (congrArg some e1)) ((cl i p hp 2 (by omega)).trans (by simp [cellsP, hsp])) k hk hsz hb0
end Go.Proofs.Ytcdbnbdeinhokaa.Nx
