/- Rows that are owned. -/
import Derived.Test.YtogidmceomlkeaaGreatDoorKi6
namespace Go.Proofs.YtogidmceomlkeaaGreatDoor.SL
open Go.RowKit Go.Proofs.YtogidmceomlkeaaGreatDoor
open Go.Proofs.YtogidmceomlkeaaGreatDoorW.PrintLast (rtab opsOf)
set_option linter.unusedVariables false
set_option linter.unusedSimpArgs false

theorem rdRowsB {B w : World} {L : List HP} {a : Option Addr} {R : List RowV} (h : St B L w) (hA : RdRows B a R) : RdRows w a R := ⟨h.rdB hA.1, fun r hr => h.rdB (hA.2 r hr)⟩
def ownRows : List RowV → HP
  | [] => .pure True
  | r :: R => .sep (own r.a r.l.length r.cap 35 2 (r.l.flatMap prc)) (ownRows R)
theorem ownRows_rd {B w : World} : ∀ {R : List RowV} {L : List HP}, St B (ownRows R :: L) w → ∀ r ∈ R, Rd w r.a r.l.length 2 (r.l.flatMap prc)
  | [], _, _, r, h => by cases h
  | q :: R, L, hS, r, h => by
    rcases List.mem_cons.1 h with e | e
    · subst e; exact hS.sep.own_rd.1
    · exact ownRows_rd (R := R) hS.sep.drop r e
theorem ownRows_snoc {B w : World} {r : RowV} : ∀ {R : List RowV} {L : List HP}, St B (ownRows R :: own r.a r.l.length r.cap 35 2 (r.l.flatMap prc) :: L) w → St B (ownRows (R ++ [r]) :: L) w
  | [], L, h => (h.permT [1, 0] (L' := own r.a r.l.length r.cap 35 2 (r.l.flatMap prc) :: ownRows [] :: L) rfl).join
  | q :: R, L, h => by
    have h1 := h.sep.permT [1, 1, 0] (L' := ownRows R :: own r.a r.l.length r.cap 35 2 (r.l.flatMap prc) :: own q.a q.l.length q.cap 35 2 (q.l.flatMap prc) :: L) rfl
    have h2 := ownRows_snoc (r := r) (R := R) h1
    exact (h2.permT [1, 0] (L' := own q.a q.l.length q.cap 35 2 (q.l.flatMap prc) :: ownRows (R ++ [r]) :: L) rfl).join
def ownBut : Nat → List RowV → HP
  | _, [] => .pure True
  | 0, _ :: R => ownRows R
  | i + 1, r :: R => .sep (own r.a r.l.length r.cap 35 2 (r.l.flatMap prc)) (ownBut i R)
theorem ownRows_pick {B w : World} {r : RowV} : ∀ {R : List RowV} {i : Nat} {L : List HP}, R[i]? = some r → St B (ownRows R :: L) w → St B (own r.a r.l.length r.cap 35 2 (r.l.flatMap prc) :: ownBut i R :: L) w
  | [], i, L, h, _ => by simp at h
  | q :: R, 0, L, h, hS => by simp at h; subst h; exact hS.sep
  | q :: R, i + 1, L, h, hS => by
    have h1 := hS.sep.permT [1, 0] (L' := ownRows R :: own q.a q.l.length q.cap 35 2 (q.l.flatMap prc) :: L) rfl
    have h2 := ownRows_pick (r := r) (i := i) (by simpa using h) h1
    have h3 := h2.permT [2, 1, 0] (L' := own q.a q.l.length q.cap 35 2 (q.l.flatMap prc) :: ownBut i R :: own r.a r.l.length r.cap 35 2 (r.l.flatMap prc) :: L) rfl
    exact h3.join.permT [1, 0] rfl
theorem ownRows_back {B w : World} {r : RowV} : ∀ {R : List RowV} {i : Nat} {L : List HP}, i < R.length → St B (own r.a r.l.length r.cap 35 2 (r.l.flatMap prc) :: ownBut i R :: L) w → St B (ownRows (R.set i r) :: L) w
  | [], i, L, h, _ => by simp at h
  | q :: R, 0, L, h, hS => hS.join
  | q :: R, i + 1, L, h, hS => by
    have h1 := (hS.permT [1, 0] (L' := HP.sep (own q.a q.l.length q.cap 35 2 (q.l.flatMap prc)) (ownBut i R) :: own r.a r.l.length r.cap 35 2 (r.l.flatMap prc) :: L) rfl).sep
    have h2 := h1.permT [2, 1, 0] (L' := own r.a r.l.length r.cap 35 2 (r.l.flatMap prc) :: ownBut i R :: own q.a q.l.length q.cap 35 2 (q.l.flatMap prc) :: L) rfl
    have h3 := ownRows_back (r := r) (R := R) (i := i) (by simpa using h) h2
    exact (h3.permT [1, 0] (L' := own q.a q.l.length q.cap 35 2 (q.l.flatMap prc) :: ownRows (R.set i r) :: L) rfl).join
theorem rowc_set {r r' : RowV} : ∀ {R : List RowV} {i : Nat}, R[i]? = some r → rowc r' = rowc r → (R.set i r').flatMap rowc = R.flatMap rowc
  | [], i, h, _ => by simp at h
  | q :: R, 0, h, e => by simp at h; subst h; simp [e]
  | q :: R, i + 1, h, e => by
    have := rowc_set (R := R) (i := i) (by simpa using h) e
    simp [this]
theorem of_len (rows : List (List Pr)) (p : Pr) : (ofF rows p).length ≤ rows.length := by
  have key : ∀ (f : List Pr → Bool) (l : List (List Pr)) (j : Nat), (idxGo f j l).length ≤ l.length := by
    intro f l
    induction l with
    | nil => intro j; exact Nat.le_refl _
    | cons q l ih => intro j; simp only [idxGo, List.length_append, List.length_cons]; have := ih (j + 1); split <;> simp <;> omega
  exact key _ _ _
theorem find_len (rows : List (List Pr)) (ms : List Mt) : (findF rows ms).length ≤ rows.length := by
  have key : ∀ (f : List Pr → Bool) (l : List (List Pr)) (j : Nat), (idxGo f j l).length ≤ l.length := by
    intro f l
    induction l with
    | nil => intro j; exact Nat.le_refl _
    | cons q l ih => intro j; simp only [idxGo, List.length_append, List.length_cons]; have := ih (j + 1); split <;> simp <;> omega
  exact key _ _ _
theorem mts_noAgg (l : List Mt) : (l.flatMap mtc).all noAgg = true := by
  rw [List.all_flatMap]; exact List.all_eq_true.2 fun p _ => rfl
end Go.Proofs.YtogidmceomlkeaaGreatDoor.SL
