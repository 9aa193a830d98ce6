/- Rows of pairs; the rows that have a pair. -/
import Derived.Test.YtogidmceomlkeaaGreatDoorKo
namespace Go.Proofs.YtogidmceomlkeaaGreatDoor.SL
open Go.RowKit Go.Proofs.YtogidmceomlkeaaGreatDoor
open Go.Proofs.YtogidmceomlkeaaGreatDoorW.PrintLast (rtab opsOf)
set_option linter.unusedVariables false
set_option linter.unusedSimpArgs false

/-- A row of pairs in memory. -/
structure RowV where
  a : Option Addr
  l : List Pr
  cap : Nat
def rowc (r : RowV) : List Value := [.slice r.a r.l.length r.cap]
theorem rowc_len (r : RowV) : (rowc r).length = 1 := rfl
def RdRows (w : World) (a : Option Addr) (R : List RowV) : Prop := Rd w a R.length 1 (R.flatMap rowc) ∧ ∀ r ∈ R, Rd w r.a r.l.length 2 (r.l.flatMap prc)
theorem row_get {R : List RowV} {i : Nat} {r : RowV} (h : R[i]? = some r) : (R.flatMap rowc)[i]? = some (.slice r.a r.l.length r.cap) := by
  have := flat_get rowc_len h (j := 0) (by decide)
  rw [Nat.mul_one, Nat.add_zero] at this
  exact this.trans rfl
def idxGo (f : List Pr → Bool) : Nat → List (List Pr) → List Int
  | _, [] => []
  | i, r :: rs => (if f r then [(i : Int)] else []) ++ idxGo f (i + 1) rs
def ofF (rows : List (List Pr)) (p : Pr) : List Int := idxGo (fun r => decide (p ∈ r)) 0 rows
def findF (rows : List (List Pr)) (l : List Mt) : List Int := idxGo (fun r => isF l r) 0 rows
theorem idx_step {f : List Pr → Bool} {R : List RowV} {i : Nat} {r : RowV} {o T : List Int} (h : R[i]? = some r) (hT : o ++ idxGo f i ((R.map RowV.l).drop i) = T) : (o ++ (if f r.l then [(i : Int)] else [])) ++ idxGo f (i + 1) ((R.map RowV.l).drop (i + 1)) = T := by
  rw [drop_cons (show (R.map RowV.l)[i]? = some r.l by rw [List.getElem?_map, h]; rfl)] at hT
  rw [← hT, idxGo, List.append_assoc]
theorem idx_end {f : List Pr → Bool} {R : List RowV} {i : Nat} {o T : List Int} (h : R.length ≤ i) (hT : o ++ idxGo f i ((R.map RowV.l).drop i) = T) : o = T := by
  rw [List.drop_of_length_le (by simpa using h)] at hT
  simpa [idxGo] using hT
theorem in_step {l : List Pr} {k : Nat} {q p : Pr} (h : l[k]? = some q) : decide (p ∈ l.take (k + 1)) = (decide (p ∈ l.take k) || decide (q = p)) := by
  rw [List.take_add_one, h]
  by_cases h1 : p ∈ l.take k
  · simp [h1]
  · by_cases h2 : q = p
    · simp [h2]
    · simp [h1, h2, Ne.symm h2]
theorem if_len {c : Bool} {i : Int} : (if c then [i] else []).length ≤ 1 := by split <;> simp
def SzR (R : List RowV) : Prop := R.length ≤ 1000000000 ∧ ∀ r ∈ R, r.l.length ≤ 4398046511104 ∧ SzP r.l
end Go.Proofs.YtogidmceomlkeaaGreatDoor.SL
