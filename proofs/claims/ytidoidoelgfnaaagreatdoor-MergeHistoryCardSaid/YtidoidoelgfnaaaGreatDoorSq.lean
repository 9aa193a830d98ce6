/- A row of blocks, each with its own data. -/
import Derived.Test.YtidoidoelgfnaaaGreatDoorSl9M
namespace Go.Proofs.YtidoidoelgfnaaaGreatDoor.SL
open Go.RowKit
set_option linter.unusedVariables false
section
variable {α : Type} {f : Nat → α → HP} {B w : World}
def sqA (f : Nat → α → HP) : List Nat → List α → HP
  | [], [] => .pure True
  | g :: gs, x :: l => .sep (f g x) (sqA f gs l)
  | _, _ => .pure False
def sqBut (f : Nat → α → HP) : Nat → List Nat → List α → HP
  | 0, _ :: gs, _ :: l => sqA f gs l
  | i + 1, g :: gs, x :: l => .sep (f g x) (sqBut f i gs l)
  | _, _, _ => .pure False
theorem sqA_len : ∀ {gs : List Nat} {l : List α} {L : List HP}, St B (sqA f gs l :: L) w → gs.length = l.length
  | [], [], _, _ => rfl
  | g :: gs, x :: l, L, h => by rw [List.length_cons, List.length_cons, sqA_len (gs := gs) (l := l) h.sep.drop]
  | [], _ :: _, _, h => h.pure.1.elim
  | _ :: _, [], _, h => h.pure.1.elim
theorem sqA_pick : ∀ {gs : List Nat} {l : List α} {i : Nat} {x : α} {L : List HP}, l[i]? = some x → St B (sqA f gs l :: L) w → ∃ g, gs[i]? = some g ∧ St B (f g x :: sqBut f i gs l :: L) w
  | [], [], i, x, L, hi, _ => by simp at hi
  | g :: gs, y :: l, 0, x, L, hi, h => by simp at hi; subst hi; exact ⟨g, rfl, h.sep⟩
  | g :: gs, y :: l, i + 1, x, L, hi, h => by
    obtain ⟨q, hq, h1⟩ := sqA_pick (gs := gs) (l := l) (i := i) (by simpa using hi) (h.sep.permT [1, 0] (L' := sqA f gs l :: f g y :: L) rfl)
    exact ⟨q, by simpa using hq, ((h1.permT [2, 1, 0] (L' := f g y :: sqBut f i gs l :: f q x :: L) rfl).join).permT [1, 0] rfl⟩
  | [], _ :: _, _, _, _, _, h => h.pure.1.elim
  | _ :: _, [], _, _, _, _, h => h.pure.1.elim
theorem sqA_back {y : α} {g : Nat} : ∀ {gs : List Nat} {l : List α} {i : Nat} {L : List HP}, gs[i]? = some g → St B (f g y :: sqBut f i gs l :: L) w → St B (sqA f gs (l.set i y) :: L) w
  | q :: gs, x :: l, 0, L, hg, h => by simp at hg; subst hg; exact h.join
  | q :: gs, x :: l, i + 1, L, hg, h => by
    have h0 := (h.permT [1, 0] (L' := sqBut f (i + 1) (q :: gs) (x :: l) :: f g y :: L) rfl).sep
    have h1 := sqA_back (gs := gs) (l := l) (i := i) (by simpa using hg) (h0.permT [2, 1, 0] (L' := f g y :: sqBut f i gs l :: f q x :: L) rfl)
    exact (h1.permT [1, 0] (L' := f q x :: sqA f gs (l.set i y) :: L) rfl).join
  | [], _, i, L, hg, h => by simp at hg
  | _ :: _, [], i, L, _, h => (by cases i <;> exact h.drop.pure.1.elim)
theorem sqA_same {x : α} {g : Nat} {gs : List Nat} {l : List α} {i : Nat} {L : List HP} (hi : l[i]? = some x) (hg : gs[i]? = some g) (h : St B (f g x :: sqBut f i gs l :: L) w) : St B (sqA f gs l :: L) w := by
  have h1 := sqA_back hg h
  obtain ⟨hlt, he⟩ := List.getElem?_eq_some_iff.1 hi
  rwa [← he, List.set_getElem_self] at h1
theorem sqA_snoc {g : Nat} {y : α} : ∀ {gs : List Nat} {l : List α} {L : List HP}, St B (sqA f gs l :: f g y :: L) w → St B (sqA f (gs ++ [g]) (l ++ [y]) :: L) w
  | [], [], L, h => (h.permT [1, 0] (L' := f g y :: sqA f [] [] :: L) rfl).join
  | q :: gs, x :: l, L, h => by
    have h2 := sqA_snoc (gs := gs) (l := l) (h.sep.permT [1, 1, 0] (L' := sqA f gs l :: f g y :: f q x :: L) rfl)
    exact (h2.permT [1, 0] (L' := f q x :: sqA f (gs ++ [g]) (l ++ [y]) :: L) rfl).join
  | [], _ :: _, _, h => h.pure.1.elim
  | _ :: _, [], _, h => h.pure.1.elim
end
end Go.Proofs.YtidoidoelgfnaaaGreatDoor.SL
