/- The log as plain data: segments are let go. -/
import Derived.Test.YtiggkfaonnnjoaaGreatDoorWt
namespace Go.Proofs.YtiggkfaonnnjoaaGreatDoor.SL
open Go.RowKit
set_option linter.unusedVariables false
set_option linter.unusedSimpArgs false
/-- How many segments lie below a number (the last one stays). -/
def dropC (n : Int) : List Sg → Nat
  | x :: y :: l => if (endS x : Int) < n then dropC n (y :: l) + 1 else 0
  | _ => 0
theorem dropC_go {n : Int} {l : List Sg} {j : Nat} {x : Sg} (h : l[j]? = some x) (hl : j + 1 < l.length) (hx : (endS x : Int) < n) : dropC n (l.drop j) = dropC n (l.drop (j + 1)) + 1 := by
  obtain ⟨hj, he⟩ := List.getElem?_eq_some_iff.1 h
  rw [List.drop_eq_getElem_cons hj, he, List.drop_eq_getElem_cons hl]
  show (if (endS x : Int) < n then _ else 0) = _
  rw [if_pos hx]
theorem dropC_stop {n : Int} {l : List Sg} {j : Nat} {x : Sg} (h : l[j]? = some x) (hx : ¬ (endS x : Int) < n) : dropC n (l.drop j) = 0 := by
  obtain ⟨hj, he⟩ := List.getElem?_eq_some_iff.1 h
  rw [List.drop_eq_getElem_cons hj, he]
  cases l.drop (j + 1) with
  | nil => rfl
  | cons y m => show (if (endS x : Int) < n then _ else 0) = 0; rw [if_neg hx]
theorem dropC_one {n : Int} {l : List Sg} (h : l.length ≤ 1) : dropC n l = 0 := by
  match l, h with
  | [], _ => rfl
  | [x], _ => rfl
theorem dropC_lt (n : Int) : ∀ l : List Sg, l ≠ [] → dropC n l < l.length
  | [x], _ => by show 0 < 1; omega
  | x :: y :: l, _ => by
    show (if (endS x : Int) < n then dropC n (y :: l) + 1 else 0) < (x :: y :: l).length
    have := dropC_lt n (y :: l) (by simp)
    have e : (x :: y :: l).length = (y :: l).length + 1 := rfl
    rw [e]
    split <;> omega
theorem dropC_at (n : Int) : ∀ (l : List Sg) (j : Nat) (x : Sg), j < dropC n l → l[j]? = some x → (endS x : Int) < n
  | [], j, x, h, _ => by simp [dropC] at h
  | [z], j, x, h, _ => by simp [dropC] at h
  | z :: y :: l, j, x, h, hx => by
    have e : dropC n (z :: y :: l) = if (endS z : Int) < n then dropC n (y :: l) + 1 else 0 := rfl
    rw [e] at h
    by_cases hz : (endS z : Int) < n
    · rw [if_pos hz] at h
      cases j with
      | zero => simp at hx; rw [← hx]; exact hz
      | succ j => exact dropC_at n (y :: l) j x (by omega) (by simpa using hx)
    · rw [if_neg hz] at h; omega
theorem rmAll_append {js : List (List UInt8)} : ∀ {ks : List (List UInt8)} {D Dq : Dk}, rmAll ks D = (Dq, 0) → rmAll (ks ++ js) D = rmAll js Dq
  | [], D, Dq, h => by have : D = Dq := congrArg Prod.fst h; rw [this]; rfl
  | k :: ks, D, Dq, h => by
    have h0 : (rmAll (k :: ks) D).2 = 0 := by rw [h]
    obtain ⟨h1, h2⟩ := rmAll_cons h0
    rw [h] at h2
    have e : rmAll (k :: ks ++ js) D = if (removeD D k).2 = 0 then rmAll (ks ++ js) (removeD D k).1 else removeD D k := rfl
    rw [e, if_pos h1]; exact rmAll_append h2.symm
theorem rm_next {l : List Sg} {j K : Nat} {x : Sg} {D Dq : Dk} (hx : l[j]? = some x) (hj : j < K) (h : rmAll (nmsW (l.take j)) D = (Dq, 0)) (hK : (rmAll (nmsW (l.take K)) D).2 = 0) :
    (removeD Dq (nameW x.first)).2 = 0 ∧ rmAll (nmsW (l.take (j + 1))) D = ((removeD Dq (nameW x.first)).1, 0) := by
  have e1 : nmsW (l.take (j + 1)) = nmsW (l.take j) ++ [nameW x.first] := by rw [List.take_add_one, hx]; unfold nmsW; rw [List.map_append]; rfl
  have e2 : ∃ js, nmsW (l.take K) = nmsW (l.take j) ++ (nameW x.first :: js) := by
    have h1 : l.take K = l.take (j + 1) ++ (l.take K).drop (j + 1) := by
      have := (List.take_append_drop (j + 1) (l.take K)).symm
      rw [List.take_take, Nat.min_eq_left (by omega)] at this; exact this
    refine ⟨nmsW ((l.take K).drop (j + 1)), ?_⟩
    have h2 := congrArg nmsW h1
    have h3 : nmsW (l.take (j + 1) ++ (l.take K).drop (j + 1)) = nmsW (l.take (j + 1)) ++ nmsW ((l.take K).drop (j + 1)) := by unfold nmsW; rw [List.map_append]
    rw [h2, h3, e1, List.append_assoc]; rfl
  obtain ⟨js, e2⟩ := e2
  rw [e2, rmAll_append h] at hK
  have h4 := (rmAll_cons hK).1
  refine ⟨h4, ?_⟩
  rw [e1, rmAll_append h]
  show (if (removeD Dq (nameW x.first)).2 = 0 then ((removeD Dq (nameW x.first)).1, (0 : Int)) else removeD Dq (nameW x.first)) = _
  rw [if_pos h4]
theorem getLastD_drop {gs : List Nat} {k : Nat} (h : k < gs.length) : (gs.drop k).getLastD 0 = gs.getLastD 0 := by
  rw [List.getLastD_eq_getLast?, List.getLastD_eq_getLast?, List.getLast?_drop, if_neg (by omega)]
end Go.Proofs.YtiggkfaonnnjoaaGreatDoor.SL
