/- The reference of layer 14: numbers in a list. -/
import Derived.Test.YtogidmceomlkeaaGreatDoorTy
import Derived.Test.YtogidmceomlkeaaGreatDoorSh
namespace Go.Proofs.YtogidmceomlkeaaGreatDoor.SL
open Go.RowKit Go.Proofs.YtogidmceomlkeaaGreatDoor
open Go.Proofs.YtogidmceomlkeaaGreatDoorW.PrintLast (rtab opsOf)
set_option linter.unusedVariables false
set_option linter.unusedSimpArgs false

/-- A number at its place, if it is not in. -/
def putF : List Int → Int → List Int
  | [], n => [n]
  | x :: l, n => if x < n then x :: putF l n else if x = n then x :: l else n :: x :: l
theorem putF_in : ∀ {l : List Int} {i : Nat} {n : Int}, (∀ j x, j < i → l[j]? = some x → x < n) → l[i]? = some n → putF l n = l
  | [], i, n, _, h => by simp at h
  | x :: l, 0, n, _, h => by simp at h; simp [putF, h]
  | x :: l, i + 1, n, h0, h => by
    simp only [putF]
    rw [if_pos (h0 0 x (by omega) rfl), putF_in (i := i) (fun j y hj hy => h0 (j + 1) y (by omega) (by simpa using hy)) (by simpa using h)]
theorem putF_out : ∀ {l : List Int} {i : Nat} {n : Int}, i ≤ l.length → (∀ j x, j < i → l[j]? = some x → x < n) → (∀ x, l[i]? = some x → ¬ x < n ∧ ¬ x = n) → putF l n = (l.take i ++ [n]) ++ l.drop i
  | [], i, n, hi, _, _ => by simp at hi; subst hi; rfl
  | x :: l, 0, n, _, _, h => by
    have := h x rfl
    simp [putF, this.1, this.2]
  | x :: l, i + 1, n, hi, h0, h => by
    simp only [putF]
    rw [if_pos (h0 0 x (by omega) rfl), putF_out (i := i) (by simpa using hi) (fun j y hj hy => h0 (j + 1) y (by omega) (by simpa using hy)) (fun y hy => h y (by simpa using hy))]
    rfl
theorem putF_len : ∀ (l : List Int) (n : Int), (putF l n).length ≤ l.length + 1
  | [], n => by simp [putF]
  | x :: l, n => by
    have := putF_len l n
    simp only [putF]; split
    · simp; omega
    · split <;> simp
def andR (m : List Int) (l : List Int) : List Int := l.foldl (fun o x => if x ∈ m then putF o x else o) []
def lessR (m : List Int) (l : List Int) : List Int := l.foldl (fun o x => if x ∈ m then o else putF o x) []
def orR (o l : List Int) : List Int := l.foldl putF o
theorem fold_take {α : Type} (f : α → Int → α) (o : α) {l : List Int} {i : Nat} {x : Int} (h : l[i]? = some x) : (l.take (i + 1)).foldl f o = f ((l.take i).foldl f o) x := by
  rw [List.take_add_one, h, List.foldl_append]; rfl
theorem orR_len (o l : List Int) : (orR o l).length ≤ o.length + l.length := by
  unfold orR
  induction l generalizing o with
  | nil => simp
  | cons x l ih => have := ih (putF o x); have := putF_len o x; simp only [List.foldl_cons, List.length_cons]; omega
theorem andR_len (m l : List Int) : (andR m l).length ≤ l.length := by
  suffices h : ∀ o : List Int, (l.foldl (fun o x => if x ∈ m then putF o x else o) o).length ≤ o.length + l.length by simpa [andR] using h []
  induction l with
  | nil => intro o; simp
  | cons x l ih => intro o; rw [List.foldl_cons, List.length_cons]; have h1 := ih (if x ∈ m then putF o x else o); have h2 : (if x ∈ m then putF o x else o).length ≤ o.length + 1 := by (split; exact putF_len o x; omega)
                   omega
theorem lessR_len (m l : List Int) : (lessR m l).length ≤ l.length := by
  suffices h : ∀ o : List Int, (l.foldl (fun o x => if x ∈ m then o else putF o x) o).length ≤ o.length + l.length by simpa [lessR] using h []
  induction l with
  | nil => intro o; simp
  | cons x l ih => intro o; rw [List.foldl_cons, List.length_cons]; have h1 := ih (if x ∈ m then o else putF o x); have h2 : (if x ∈ m then o else putF o x).length ≤ o.length + 1 := by (split; omega; exact putF_len o x)
                   omega
theorem own_len {B w : World} {L : List HP} {a : Option Addr} {n n' cap t k : Nat} {l l' : List Value} (h : St B (own a n cap t k l :: L) w) (e : n = n') (e2 : l = l') : St B (own a n' cap t k l' :: L) w := by subst e; subst e2; exact h
end Go.Proofs.YtogidmceomlkeaaGreatDoor.SL
