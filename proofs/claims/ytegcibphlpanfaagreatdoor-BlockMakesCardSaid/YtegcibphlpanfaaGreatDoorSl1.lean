/- Words: assertions on memory by separate blocks: what is owned, what is sealed (never written any more), and what a world is known to hold. -/
import Derived.Below
import Derived.Tactics
import Derived.KernelRfl
import Derived.Laws.Rows
import Derived.WalkKit
import Derived.Deep.Draws
namespace Go.Proofs.YtegcibphlpanfaaGreatDoor.SL
open Go.RowKit
set_option linter.unusedVariables false
/-- A part of memory. -/
abbrev PH := Nat → Option Obj
structure Le (a b : PH) : Prop where
  mk :: (out : ∀ g o, a g = some o → b g = some o)
structure Dj (a b : PH) : Prop where
  mk :: (out : ∀ g, a g = none ∨ b g = none)
def PH.emp : PH := fun _ => none
def PH.un (a b : PH) : PH := fun g => match a g with | some o => some o | none => b g
def PH.one (g : Nat) (o : Obj) : PH := fun k => if k = g then some o else none
theorem Le.refl (a : PH) : Le a a := ⟨fun _ _ h => h⟩
theorem Le.trans {a b c : PH} (h : Le a b) (k : Le b c) : Le a c := ⟨fun g o e => k.out g o (h.out g o e)⟩
theorem Le.emp (a : PH) : Le PH.emp a := ⟨fun _ _ h => by cases h⟩
theorem Dj.symm {a b : PH} (h : Dj a b) : Dj b a := ⟨fun g => (h.out g).symm⟩
theorem Dj.le {a b a' b' : PH} (h : Dj a b) (ha : Le a' a) (hb : Le b' b) : Dj a' b' := ⟨fun g => by
  rcases h.out g with e | e
  · left; cases h' : a' g with
    | none => rfl
    | some o => rw [ha.out g o h'] at e; cases e
  · right; cases h' : b' g with
    | none => rfl
    | some o => rw [hb.out g o h'] at e; cases e⟩
theorem Le.left (a b : PH) : Le a (a.un b) := ⟨fun g o h => by simp [PH.un, h]⟩
theorem Le.right {a b : PH} (h : Dj a b) : Le b (a.un b) := ⟨fun g o e => by
  rcases h.out g with h | h
  · simp [PH.un, h, e]
  · rw [h] at e; cases e⟩
theorem Le.un {a b c : PH} (ha : Le a c) (hb : Le b c) : Le (a.un b) c := ⟨fun g o e => by
  unfold PH.un at e
  cases h : a g with
  | none => rw [h] at e; exact hb.out g o e
  | some x => rw [h] at e; exact ha.out g o (h.trans e)⟩
theorem Dj.un {a b c : PH} (h : Dj a c) (k : Dj b c) : Dj (a.un b) c := ⟨fun g => by
  rcases h.out g with e | e
  · rcases k.out g with f | f
    · left; simp [PH.un, e, f]
    · right; exact f
  · right; exact e⟩
theorem Dj.emp (a : PH) : Dj a PH.emp := ⟨fun _ => .inr rfl⟩
theorem Le.one {g : Nat} {o : Obj} {h : PH} (e : h g = some o) : Le (PH.one g o) h := ⟨fun k x hk => by
  unfold PH.one at hk; split at hk
  · subst k; cases hk; exact e
  · cases hk⟩
theorem PH.one_self (g : Nat) (o : Obj) : PH.one g o g = some o := by simp [PH.one]
/-- Assertions. -/
inductive HP : Type 1 where
  | pure (p : Prop)
  | blk (g : Nat) (o : Obj)
  | seal (g : Nat) (o : Obj)
  | sep (a b : HP)
  | ex {α : Type} (f : α → HP)
def HP.sat (Z : PH) : HP → PH → Prop
  | .pure p, _ => p
  | .blk g o, h => h g = some o
  | .seal g o, _ => Z g = some o
  | .sep a b, h => ∃ h1 h2, Dj h1 h2 ∧ Le h1 h ∧ Le h2 h ∧ a.sat Z h1 ∧ b.sat Z h2
  | .ex f, h => ∃ x, (f x).sat Z h
theorem HP.mono {Z Z' : PH} (hz : Le Z Z') : ∀ (a : HP) {h h' : PH}, Le h h' → a.sat Z h → a.sat Z' h'
  | .pure _, _, _, _, s => s
  | .blk g o, _, _, hh, s => hh.out g o s
  | .seal g o, _, _, _, s => hz.out g o s
  | .sep a b, _, _, hh, ⟨h1, h2, d, l1, l2, s1, s2⟩ => ⟨h1, h2, d, l1.trans hh, l2.trans hh, HP.mono hz a (Le.refl _) s1, HP.mono hz b (Le.refl _) s2⟩
  | .ex f, _, _, hh, ⟨x, s⟩ => ⟨x, HP.mono hz (f x) hh s⟩
/-- All of a list, apart from each other. -/
def HP.all : List HP → HP
  | [] => .pure True
  | a :: l => .sep a (HP.all l)
/-- The world's memory as such a part. -/
def heapOf (w : World) : PH := fun g => w.heap[g]?
/-- What is known of a world; B: the world in which all began, whose blocks are sealed. -/
def St (B : World) (L : List HP) (w : World) : Prop :=
  w.os = B.os ∧ w.tape = B.tape ∧ (w.output = B.output ∧ B.drawn ≤ w.drawn) ∧ ∃ Z h, Dj Z h ∧ Le (heapOf B) Z ∧ Le Z (heapOf w) ∧ Le h (heapOf w) ∧ (HP.all L).sat Z h
theorem St.below {B w : World} {L : List HP} (h : St B L w) : Below B.heap.size B w := by
  obtain ⟨h1, h2, h3, Z, p, _, hB, hZ, _⟩ := h
  have hk : ∀ k, k < B.heap.size → w.heap[k]? = B.heap[k]? := fun k hk => by
    have e : heapOf B k = some B.heap[k] := Array.getElem?_eq_getElem hk
    exact (hZ.out k _ (hB.out k _ e)).trans e.symm
  refine ⟨h1, h2, h3.1, ?_, hk⟩
  rcases Nat.lt_or_ge w.heap.size B.heap.size with hlt | hge
  · have := hk w.heap.size hlt
    rw [Array.getElem?_eq_none (Nat.le_refl _), Array.getElem?_eq_getElem hlt] at this
    cases this
  · exact hge
theorem St.start (w : World) : St w [] w :=
  ⟨rfl, rfl, ⟨rfl, Nat.le_refl _⟩, heapOf w, PH.emp, Dj.emp _, Le.refl _, Le.refl _, Le.emp _, trivial⟩
/-- From what holds of the parts to what holds of the parts. -/
theorem St.imp {B w : World} {L L' : List HP} (h : St B L w) (k : ∀ Z p, (HP.all L).sat Z p → (HP.all L').sat Z p) : St B L' w := by
  obtain ⟨h1, h2, h3, Z, p, d, hB, hZ, hp, s⟩ := h
  exact ⟨h1, h2, h3, Z, p, d, hB, hZ, hp, k Z p s⟩
theorem HP.swap {Z : PH} {a b c : HP} {p : PH} (s : (HP.sep a (.sep b c)).sat Z p) : (HP.sep b (.sep a c)).sat Z p := by
  obtain ⟨h1, h2, d, l1, l2, s1, h3, h4, d', l3, l4, s3, s4⟩ := s
  have d13 : Dj h1 h3 := d.le (Le.refl _) l3
  have d14 : Dj h1 h4 := d.le (Le.refl _) l4
  exact ⟨h3, h1.un h4, (Dj.un d13 (d'.symm)).symm, l3.trans l2, Le.un l1 (l4.trans l2), s3, h1, h4, d14, Le.left _ _, Le.right d14, s1, s4⟩
theorem HP.sep_imp {Z : PH} {a b b' : HP} {p : PH} (k : ∀ q, b.sat Z q → b'.sat Z q) (s : (HP.sep a b).sat Z p) : (HP.sep a b').sat Z p := by
  obtain ⟨h1, h2, d, l1, l2, s1, s2⟩ := s
  exact ⟨h1, h2, d, l1, l2, s1, k _ s2⟩
/-! Lists with a place. -/
def nth {α : Type _} : List α → Nat → Option α
  | [], _ => none
  | a :: _, 0 => some a
  | _ :: l, i + 1 => nth l i
def del {α : Type _} : List α → Nat → List α
  | [], _ => []
  | _ :: l, 0 => l
  | a :: l, i + 1 => a :: del l i
def put {α : Type _} : List α → Nat → α → List α
  | [], _, _ => []
  | _ :: l, 0, x => x :: l
  | a :: l, i + 1, x => a :: put l i x
theorem HP.focus {Z : PH} {x : HP} : ∀ {L : List HP} {i : Nat} {p : PH}, nth L i = some x → (HP.all L).sat Z p → (HP.all (x :: del L i)).sat Z p
  | [], _, _, h, _ => by cases h
  | a :: l, 0, _, h, s => by cases h; exact s
  | a :: l, i + 1, p, h, s => HP.swap (HP.sep_imp (fun _ => HP.focus (L := l) (i := i) h) s)
theorem HP.unfocus {Z : PH} {x y : HP} : ∀ {L : List HP} {i : Nat} {p : PH}, nth L i = some x → (HP.all (y :: del L i)).sat Z p → (HP.all (put L i y)).sat Z p
  | [], _, _, h, _ => by cases h
  | a :: l, 0, _, h, s => s
  | a :: l, i + 1, p, h, s => HP.sep_imp (fun _ => HP.unfocus (L := l) (i := i) h) (HP.swap s)
theorem St.focus {B w : World} {L : List HP} (h : St B L w) (i : Nat) {x : HP} (hi : nth L i = some x) : St B (x :: del L i) w := h.imp fun _ _ => HP.focus hi
theorem St.unfocus {B w : World} {L : List HP} {i : Nat} {x y : HP} (hi : nth L i = some x) (h : St B (y :: del L i) w) : St B (put L i y) w := h.imp fun _ _ => HP.unfocus hi
/-- Some of the list, by their places (the first place counts in the whole list, the next one in what is left of it, and so on). -/
def take : List HP → List Nat → List HP
  | _, [] => []
  | L, i :: is => match nth L i with
    | some x => x :: take (del L i) is
    | none => []
def left : List HP → List Nat → List HP
  | L, [] => L
  | L, i :: is => match nth L i with
    | some _ => left (del L i) is
    | none => L
theorem HP.takes {Z : PH} : ∀ (I : List Nat) (L : List HP) {p : PH}, (HP.all L).sat Z p → (HP.all (take L I ++ left L I)).sat Z p
  | [], _, _, s => s
  | i :: is, L, p, s => by
    unfold take left
    cases h : nth L i with
    | none => exact s
    | some x => exact HP.sep_imp (fun _ => HP.takes is (del L i)) (HP.focus h s)
theorem St.takes {B w : World} {L : List HP} (h : St B L w) (I : List Nat) : St B (take L I ++ left L I) w := h.imp fun _ _ => HP.takes I L
theorem St.drop {B w : World} {a : HP} {L : List HP} (h : St B (a :: L) w) : St B L w := h.imp fun Z p ⟨_, _, _, _, l2, _, s⟩ => HP.mono (Le.refl _) _ l2 s
theorem St.pure {B w : World} {p : Prop} {L : List HP} (h : St B (.pure p :: L) w) : p ∧ St B L w := by
  refine ⟨?_, h.drop⟩
  obtain ⟨_, _, _, Z, q, _, _, _, _, _, _, _, _, _, s, _⟩ := h
  exact s
theorem HP.add_emp {Z : PH} {a b : HP} {p : PH} (ha : a.sat Z PH.emp) (s : b.sat Z p) : (HP.sep a b).sat Z p := ⟨PH.emp, p, (Dj.emp _).symm, Le.emp _, Le.refl _, ha, s⟩
theorem St.addPure {B w : World} {p : Prop} {L : List HP} (hp : p) (h : St B L w) : St B (.pure p :: L) w := h.imp fun _ _ s => HP.add_emp hp s
theorem St.sep {B w : World} {a b : HP} {L : List HP} (h : St B (.sep a b :: L) w) : St B (a :: b :: L) w := by
  refine h.imp fun Z p ⟨h1, h2, d, l1, l2, ⟨h3, h4, d', l3, l4, s3, s4⟩, s2⟩ => ?_
  have d2 : Dj h4 h2 := d.le l4 (Le.refl _)
  have d3 : Dj h3 h2 := d.le l3 (Le.refl _)
  exact ⟨h3, h4.un h2, (Dj.un (d'.symm) (d3.symm)).symm, l3.trans l1, Le.un (l4.trans l1) l2, s3, h4, h2, d2, Le.left _ _, Le.right d2, s4, s2⟩
theorem St.join {B w : World} {a b : HP} {L : List HP} (h : St B (a :: b :: L) w) : St B (.sep a b :: L) w := by
  refine h.imp fun Z p ⟨h1, h2, d, l1, l2, s1, h3, h4, d', l3, l4, s3, s4⟩ => ?_
  have d13 : Dj h1 h3 := d.le (Le.refl _) l3
  have d14 : Dj h1 h4 := d.le (Le.refl _) l4
  exact ⟨h1.un h3, h4, Dj.un d14 d', Le.un l1 (l3.trans l2), l4.trans l2, ⟨h1, h3, d13, Le.left _ _, Le.right d13, s1, s3⟩, s4⟩
theorem St.ex {B w : World} {α : Type} {f : α → HP} {L : List HP} (h : St B (.ex f :: L) w) : ∃ x, St B (f x :: L) w := by
  obtain ⟨h1, h2, h3, Z, p, d, hB, hZ, hp, q1, q2, dq, l1, l2, ⟨x, s⟩, s2⟩ := h
  exact ⟨x, h1, h2, h3, Z, p, d, hB, hZ, hp, q1, q2, dq, l1, l2, s, s2⟩
theorem St.give {B w : World} {α : Type} {f : α → HP} {L : List HP} (x : α) (h : St B (f x :: L) w) : St B (.ex f :: L) w :=
  h.imp fun _ _ ⟨q1, q2, dq, l1, l2, s, s2⟩ => ⟨q1, q2, dq, l1, l2, ⟨x, s⟩, s2⟩
/-- Of an assertion that owns nothing. -/
def HP.Pers (a : HP) : Prop := ∀ Z p, a.sat Z p → a.sat Z PH.emp
theorem HP.pers_pure (p : Prop) : (HP.pure p).Pers := fun _ _ s => s
theorem HP.pers_seal (g : Nat) (o : Obj) : (HP.seal g o).Pers := fun _ _ s => s
theorem HP.pers_sep {a b : HP} (ha : a.Pers) (hb : b.Pers) : (HP.sep a b).Pers := fun Z _ ⟨_, _, _, _, _, s1, s2⟩ => HP.add_emp (ha Z _ s1) (hb Z _ s2)
theorem HP.pers_ex {α : Type} {f : α → HP} (h : ∀ x, (f x).Pers) : (HP.ex f).Pers := fun Z p ⟨x, s⟩ => ⟨x, h x Z p s⟩
theorem St.dup {B w : World} {a : HP} {L : List HP} (ha : a.Pers) (h : St B (a :: L) w) : St B (a :: a :: L) w :=
  h.imp fun Z _ ⟨h1, h2, d, l1, l2, s1, s2⟩ => HP.add_emp (ha Z _ s1) ⟨h1, h2, d, l1, l2, s1, s2⟩
/-! Blocks. -/
theorem St.at {B w : World} {g : Nat} {o : Obj} {L : List HP} (h : St B (.blk g o :: L) w) : w.heap[g]? = some o := by
  obtain ⟨_, _, _, Z, p, _, _, _, hp, q1, q2, _, l1, _, s, _⟩ := h
  exact hp.out g o (l1.out g o s)
theorem St.sealed {B w : World} {g : Nat} {o : Obj} {L : List HP} (h : St B (.seal g o :: L) w) : w.heap[g]? = some o := by
  obtain ⟨_, _, _, Z, p, _, _, hZ, hp, q1, q2, _, l1, _, s, _⟩ := h
  exact hZ.out g o s
theorem St.base {B w : World} {g : Nat} {o : Obj} {L : List HP} (hg : B.heap[g]? = some o) (h : St B L w) : St B (.seal g o :: L) w := by
  obtain ⟨h1, h2, h3, Z, p, d, hB, hZ, hp, s⟩ := h
  exact ⟨h1, h2, h3, Z, p, d, hB, hZ, hp, HP.add_emp (hB.out g o hg) s⟩
theorem St.lt {B w : World} {L : List HP} {g : Nat} {o : Obj} (h : St B (.blk g o :: L) w) : g < w.heap.size := (Array.getElem?_eq_some_iff.1 h.at).1
theorem St.toSeal {B w : World} {g : Nat} {o : Obj} {L : List HP} (h : St B (.blk g o :: L) w) : St B (.seal g o :: L) w := by
  obtain ⟨h1, h2, h3, Z, p, d, hB, hZ, hp, q1, q2, dq, l1, l2, s1, s2⟩ := h
  have s1 : q1 g = some o := s1
  have o1 : Le (PH.one g o) q1 := Le.one s1
  have dz : Dj Z q2 := d.le (Le.refl _) l2
  have do2 : Dj (PH.one g o) q2 := dq.le o1 (Le.refl _)
  have dzo : Dj Z (PH.one g o) := d.le (Le.refl _) (o1.trans l1)
  refine ⟨h1, h2, h3, Z.un (PH.one g o), q2, Dj.un dz do2, hB.trans (Le.left _ _), Le.un hZ ((o1.trans l1).trans hp), l2.trans hp, ?_⟩
  exact HP.add_emp ((Le.right dzo).out g o (PH.one_self g o)) (HP.mono (Le.left _ _) _ (Le.refl _) s2)
/-- A world that differs in nothing that the assertions see. -/
theorem St.same {B w w' : World} {L : List HP} (h : St B L w) (hh : w'.heap = w.heap) (ho : w'.os = w.os) (ht : w'.tape = w.tape) (hu : w'.output = w.output) (hd : w.drawn ≤ w'.drawn := by first | exact Nat.le_refl _ | exact Nat.le_succ _) : St B L w' := by
  obtain ⟨h1, h2, h3, Z, p, d, hB, hZ, hp, s⟩ := h
  exact ⟨ho.trans h1, ht.trans h2, ⟨hu.trans h3.1, Nat.le_trans h3.2 hd⟩, Z, p, d, hB, by unfold heapOf; rw [hh]; exact hZ, by unfold heapOf; rw [hh]; exact hp, s⟩
theorem St.drew {B w : World} {L : List HP} (h : St B L w) : St B L w.drew := h.same rfl rfl rfl rfl
/-- A new block. -/
theorem St.new {B w : World} {L : List HP} (h : St B L w) (o : Obj) {w' : World} (hh : w'.heap = w.heap.push o) (ho : w'.os = w.os) (ht : w'.tape = w.tape) (hu : w'.output = w.output) (hd : w.drawn ≤ w'.drawn := by first | exact Nat.le_refl _ | exact Nat.le_succ _) : St B (.blk w.heap.size o :: L) w' := by
  obtain ⟨h1, h2, h3, Z, p, d, hB, hZ, hp, s⟩ := h
  have big : Le (heapOf w) (heapOf w') := Le.mk fun g x e => by
    have hlt : g < w.heap.size := (Array.getElem?_eq_some_iff.1 e).1
    show w'.heap[g]? = some x
    rw [hh, Array.getElem?_push, if_neg (by omega)]; exact e
  have fresh : ∀ (q : PH), Le q (heapOf w) → q w.heap.size = none := fun q hq => by
    cases e : q w.heap.size with
    | none => rfl
    | some x => have h1 : w.heap[w.heap.size]? = some x := hq.out _ _ e; rw [Array.getElem?_eq_none (Nat.le_refl _)] at h1; cases h1
  have dj : ∀ (q : PH), Le q (heapOf w) → Dj q (PH.one w.heap.size o) := fun q hq => Dj.mk fun g => by
    by_cases e : g = w.heap.size
    · left; rw [e]; exact fresh q hq
    · right; simp [PH.one, e]
  have new : Le (PH.one w.heap.size o) (heapOf w') := Le.one (by show w'.heap[w.heap.size]? = some o; rw [hh, Array.getElem?_push, if_pos rfl])
  refine ⟨ho.trans h1, ht.trans h2, ⟨hu.trans h3.1, Nat.le_trans h3.2 hd⟩, Z, p.un (PH.one w.heap.size o), (Dj.un d.symm (dj Z hZ).symm).symm, hB, hZ.trans big, Le.un (hp.trans big) new, ?_⟩
  exact ⟨PH.one w.heap.size o, p, (dj p hp).symm, Le.right (dj p hp), Le.left _ _, PH.one_self _ _, s⟩
/-- A block that is owned is written. -/
theorem St.write {B w : World} {g : Nat} {o o' : Obj} {L : List HP} (h : St B (.blk g o :: L) w) {w' : World} (hh : ∀ k, k ≠ g → w'.heap[k]? = w.heap[k]?) (hg : w'.heap[g]? = some o') (ho : w'.os = w.os) (ht : w'.tape = w.tape) (hu : w'.output = w.output) (hd : w.drawn ≤ w'.drawn := by first | exact Nat.le_refl _ | exact Nat.le_succ _) : St B (.blk g o' :: L) w' := by
  obtain ⟨h1, h2, h3, Z, p, d, hB, hZ, hp, q1, q2, dq, l1, l2, s1, s2⟩ := h
  have s1 : q1 g = some o := s1
  have o1 : Le (PH.one g o) q1 := Le.one s1
  have off : ∀ (q : PH), Dj q (PH.one g o) → Le q (heapOf w) → Le q (heapOf w') ∧ Dj q (PH.one g o') := fun q hd hq => by
    have hn : q g = none := by
      rcases hd.out g with e | e
      · exact e
      · rw [PH.one_self] at e; cases e
    refine ⟨Le.mk fun k x e => ?_, Dj.mk fun k => ?_⟩
    · have hk : k ≠ g := by rintro rfl; rw [hn] at e; cases e
      exact (hh k hk).trans (hq.out k x e)
    · by_cases e : k = g
      · left; rw [e]; exact hn
      · right; simp [PH.one, e]
  have hz := off Z (d.le (Le.refl _) (o1.trans l1)) hZ
  have h2' := off q2 (dq.le o1 (Le.refl _)).symm (l2.trans hp)
  have new : Le (PH.one g o') (heapOf w') := Le.one hg
  have dz2 : Dj Z q2 := d.le (Le.refl _) l2
  refine ⟨ho.trans h1, ht.trans h2, ⟨hu.trans h3.1, Nat.le_trans h3.2 hd⟩, Z, q2.un (PH.one g o'), (Dj.un dz2.symm hz.2.symm).symm, hB, hz.1, Le.un h2'.1 new, ?_⟩
  exact ⟨PH.one g o', q2, h2'.2.symm, Le.right h2'.2, Le.left _ _, PH.one_self _ _, s2⟩
end Go.Proofs.YtegcibphlpanfaaGreatDoor.SL
