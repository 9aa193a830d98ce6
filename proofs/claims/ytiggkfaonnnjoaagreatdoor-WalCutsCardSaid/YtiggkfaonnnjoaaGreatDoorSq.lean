/- A row of blocks, each with its own data. -/
import Derived.Test.YtiggkfaonnnjoaaGreatDoorSl11
namespace Go.Proofs.YtiggkfaonnnjoaaGreatDoor.SL
open Go.RowKit
set_option linter.unusedVariables false
section
variable {α : Type} {f : Nat → α → HP} {B w : World}
def sqA (f : Nat → α → HP) : List Nat → List α → HP
  | [], [] => .pure True
  | g :: gs, x :: l => .sep (f g x) (sqA f gs l)
  | _, _ => .pure False
def sqBut (f : Nat → α → HP) : Nat → List Nat → List α → HP
  | 0, _ :: gs, _ :: l => sqA f gs l
  | i + 1, g :: gs, x :: l => .sep (f g x) (sqBut f i gs l)
  | _, _, _ => .pure False
theorem sqA_len : ∀ {gs : List Nat} {l : List α} {L : List HP}, St B (sqA f gs l :: L) w → gs.length = l.length
  | [], [], _, _ => rfl
  | g :: gs, x :: l, L, h => by rw [List.length_cons, List.length_cons, sqA_len (gs := gs) (l := l) h.sep.drop]
  | [], _ :: _, _, h => h.pure.1.elim
  | _ :: _, [], _, h => h.pure.1.elim
theorem sqA_pick : ∀ {gs : List Nat} {l : List α} {i : Nat} {x : α} {L : List HP}, l[i]? = some x → St B (sqA f gs l :: L) w → ∃ g, gs[i]? = some g ∧ St B (f g x :: sqBut f i gs l :: L) w
  | [], [], i, x, L, hi, _ => by simp at hi
  | g :: gs, y :: l, 0, x, L, hi, h => by simp at hi; subst hi; exact ⟨g, rfl, h.sep⟩
  | g :: gs, y :: l, i + 1, x, L, hi, h => by
    obtain ⟨q, hq, h1⟩ := sqA_pick (gs := gs) (l := l) (i := i) (by simpa using hi) (h.sep.permT [1, 0] (L' := sqA f gs l :: f g y :: L) rfl)
    exact ⟨q, by simpa using hq, ((h1.permT [2, 1, 0] (L' := f g y :: sqBut f i gs l :: f q x :: L) rfl).join).permT [1, 0] rfl⟩
  | [], _ :: _, _, _, _, _, h => h.pure.1.elim
  | _ :: _, [], _, _, _, _, h => h.pure.1.elim
theorem sqA_back {y : α} {g : Nat} : ∀ {gs : List Nat} {l : List α} {i : Nat} {L : List HP}, gs[i]? = some g → St B (f g y :: sqBut f i gs l :: L) w → St B (sqA f gs (l.set i y) :: L) w
  | q :: gs, x :: l, 0, L, hg, h => by simp at hg; subst hg; exact h.join
  | q :: gs, x :: l, i + 1, L, hg, h => by
    have h0 := (h.permT [1, 0] (L' := sqBut f (i + 1) (q :: gs) (x :: l) :: f g y :: L) rfl).sep
    have h1 := sqA_back (gs := gs) (l := l) (i := i) (by simpa using hg) (h0.permT [2, 1, 0] (L' := f g y :: sqBut f i gs l :: f q x :: L) rfl)
    exact (h1.permT [1, 0] (L' := f q x :: sqA f gs (l.set i y) :: L) rfl).join
  | [], _, i, L, hg, h => by simp at hg
  | _ :: _, [], i, L, _, h => (by cases i <;> exact h.drop.pure.1.elim)
theorem sqA_same {x : α} {g : Nat} {gs : List Nat} {l : List α} {i : Nat} {L : List HP} (hi : l[i]? = some x) (hg : gs[i]? = some g) (h : St B (f g x :: sqBut f i gs l :: L) w) : St B (sqA f gs l :: L) w := by
  have h1 := sqA_back hg h
  obtain ⟨hlt, he⟩ := List.getElem?_eq_some_iff.1 hi
  rwa [← he, List.set_getElem_self] at h1
theorem sqA_snoc {g : Nat} {y : α} : ∀ {gs : List Nat} {l : List α} {L : List HP}, St B (sqA f gs l :: f g y :: L) w → St B (sqA f (gs ++ [g]) (l ++ [y]) :: L) w
  | [], [], L, h => (h.permT [1, 0] (L' := f g y :: sqA f [] [] :: L) rfl).join
  | q :: gs, x :: l, L, h => by
    have h2 := sqA_snoc (gs := gs) (l := l) (h.sep.permT [1, 1, 0] (L' := sqA f gs l :: f g y :: f q x :: L) rfl)
    exact (h2.permT [1, 0] (L' := f q x :: sqA f (gs ++ [g]) (l ++ [y]) :: L) rfl).join
  | [], _ :: _, _, h => h.pure.1.elim
  | _ :: _, [], _, h => h.pure.1.elim
theorem sqA_drop : ∀ {k : Nat} {gs : List Nat} {l : List α} {L : List HP}, St B (sqA f gs l :: L) w → St B (sqA f (gs.drop k) (l.drop k) :: L) w
  | 0, _, _, _, h => h
  | k + 1, [], [], L, h => h
  | k + 1, g :: gs, x :: l, L, h => sqA_drop (k := k) h.sep.drop
  | k + 1, [], _ :: _, _, h => h.pure.1.elim
  | k + 1, _ :: _, [], _, h => h.pure.1.elim
theorem sqA_take : ∀ {k : Nat} {gs : List Nat} {l : List α} {L : List HP}, St B (sqA f gs l :: L) w → St B (sqA f (gs.take k) (l.take k) :: L) w
  | 0, _, _, _, h => by rw [List.take_zero, List.take_zero]; exact h.drop.addPure trivial
  | k + 1, [], [], L, h => h
  | k + 1, g :: gs, x :: l, L, h => by
    have h1 := sqA_take (k := k) (h.sep.permT [1, 0] (L' := sqA f gs l :: f g x :: L) rfl)
    exact (h1.permT [1, 0] (L' := f g x :: sqA f (gs.take k) (l.take k) :: L) rfl).join
  | k + 1, [], _ :: _, _, h => h.pure.1.elim
  | k + 1, _ :: _, [], _, h => h.pure.1.elim
/-- The first of a row is let go. -/
theorem St.own_drop {L : List HP} {a : Option Addr} {n cap k m : Nat} {t : TypeId} {l : List Value} (h : St B (own a n cap t k l :: L) w) (hm : m ≤ n) : St B (own (a.map (·.add (m * k))) (n - m) (cap - m) t k (l.drop (m * k)) :: L) w := by
  cases a with
  | none =>
    obtain ⟨⟨h1, h2, h3⟩, h4⟩ := h.pure
    subst h1; subst h3
    rw [List.drop_nil, Nat.zero_sub]
    have : cap - m = 0 := by omega
    rw [this]; exact h4.addPure ⟨rfl, rfl, rfl⟩
  | some p =>
    obtain ⟨q, hq⟩ := h.ex
    obtain ⟨⟨h1, h2, h3, h4, h5⟩, h6⟩ := hq.sep.pure
    have hmk : m * k ≤ n * k := Nat.mul_le_mul_right _ hm
    have hck : n * k ≤ cap * k := Nat.mul_le_mul_right _ h4
    have e : (q.1 ++ l.take (m * k)) ++ (l.drop (m * k) ++ q.2) = q.1 ++ (l ++ q.2) := by rw [List.append_assoc, ← List.append_assoc (l.take (m * k)), List.take_append_drop]
    have ea : p.add (m * k) = ⟨p.block, p.off + m * k, none⟩ := by obtain ⟨b, o, sp⟩ := p; simp only at h1; subst h1; simp [Addr.add]
    show St B (own (some (p.add (m * k))) (n - m) (cap - m) t k (l.drop (m * k)) :: L) w
    rw [ea]
    refine St.own_shut (p := ⟨p.block, p.off + m * k, none⟩) (pre := q.1 ++ l.take (m * k)) (sp := q.2) rfl ?_ ?_ (by omega) ?_ (by rw [e]; exact h6)
    · show p.off + m * k = _; rw [List.length_append, List.length_take]; omega
    · rw [List.length_drop, Nat.sub_mul]; omega
    · rw [List.length_drop, Nat.sub_mul]; omega
end
end Go.Proofs.YtiggkfaonnnjoaaGreatDoor.SL
