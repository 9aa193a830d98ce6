import Derived.Below
import Derived.Tactics
import Derived.KernelRfl
import Derived.Laws.Rows
import Derived.WalkKit
import Derived.Deep.Draws
import Derived.WalkSpells
import Derived.Lib.SliceRun
/- Words: assertions on memory by separate blocks: what is owned, what is sealed (never written any more), and what a world is known to hold. -/
namespace Go.Proofs.YtidoidoelgfnaaaGreatDoor.SL
open Go.RowKit
set_option linter.unusedVariables false
/-- A part of memory. -/
abbrev PH := Nat → Option Obj
structure Le (a b : PH) : Prop where
  mk :: (out : ∀ g o, a g = some o → b g = some o)
structure Dj (a b : PH) : Prop where
  mk :: (out : ∀ g, a g = none ∨ b g = none)
def PH.emp : PH := fun _ => none
def PH.un (a b : PH) : PH := fun g => match a g with | some o => some o | none => b g
def PH.one (g : Nat) (o : Obj) : PH := fun k => if k = g then some o else none
theorem Le.refl (a : PH) : Le a a := ⟨fun _ _ h => h⟩
theorem Le.trans {a b c : PH} (h : Le a b) (k : Le b c) : Le a c := ⟨fun g o e => k.out g o (h.out g o e)⟩
theorem Le.emp (a : PH) : Le PH.emp a := ⟨fun _ _ h => by cases h⟩
theorem Dj.symm {a b : PH} (h : Dj a b) : Dj b a := ⟨fun g => (h.out g).symm⟩
theorem Dj.le {a b a' b' : PH} (h : Dj a b) (ha : Le a' a) (hb : Le b' b) : Dj a' b' := ⟨fun g => by
  rcases h.out g with e | e
  · left; cases h' : a' g with
    | none => rfl
    | some o => rw [ha.out g o h'] at e; cases e
  · right; cases h' : b' g with
    | none => rfl
    | some o => rw [hb.out g o h'] at e; cases e⟩
theorem Le.left (a b : PH) : Le a (a.un b) := ⟨fun g o h => by simp [PH.un, h]⟩
theorem Le.right {a b : PH} (h : Dj a b) : Le b (a.un b) := ⟨fun g o e => by
  rcases h.out g with h | h
  · simp [PH.un, h, e]
  · rw [h] at e; cases e⟩
theorem Le.un {a b c : PH} (ha : Le a c) (hb : Le b c) : Le (a.un b) c := ⟨fun g o e => by
  unfold PH.un at e
  cases h : a g with
  | none => rw [h] at e; exact hb.out g o e
  | some x => rw [h] at e; exact ha.out g o (h.trans e)⟩
theorem Dj.un {a b c : PH} (h : Dj a c) (k : Dj b c) : Dj (a.un b) c := ⟨fun g => by
  rcases h.out g with e | e
  · rcases k.out g with f | f
    · left; simp [PH.un, e, f]
    · right; exact f
  · right; exact e⟩
theorem Dj.emp (a : PH) : Dj a PH.emp := ⟨fun _ => .inr rfl⟩
theorem Le.one {g : Nat} {o : Obj} {h : PH} (e : h g = some o) : Le (PH.one g o) h := ⟨fun k x hk => by
  unfold PH.one at hk; split at hk
  · subst k; cases hk; exact e
  · cases hk⟩
theorem PH.one_self (g : Nat) (o : Obj) : PH.one g o g = some o := by simp [PH.one]
/-- Assertions. -/
inductive HP : Type 1 where
  | pure (p : Prop)
  | blk (g : Nat) (o : Obj)
  | seal (g : Nat) (o : Obj)
  | sep (a b : HP)
  | ex {α : Type} (f : α → HP)
def HP.sat (Z : PH) : HP → PH → Prop
  | .pure p, _ => p
  | .blk g o, h => h g = some o
  | .seal g o, _ => Z g = some o
  | .sep a b, h => ∃ h1 h2, Dj h1 h2 ∧ Le h1 h ∧ Le h2 h ∧ a.sat Z h1 ∧ b.sat Z h2
  | .ex f, h => ∃ x, (f x).sat Z h
theorem HP.mono {Z Z' : PH} (hz : Le Z Z') : ∀ (a : HP) {h h' : PH}, Le h h' → a.sat Z h → a.sat Z' h'
  | .pure _, _, _, _, s => s
  | .blk g o, _, _, hh, s => hh.out g o s
  | .seal g o, _, _, _, s => hz.out g o s
  | .sep a b, _, _, hh, ⟨h1, h2, d, l1, l2, s1, s2⟩ => ⟨h1, h2, d, l1.trans hh, l2.trans hh, HP.mono hz a (Le.refl _) s1, HP.mono hz b (Le.refl _) s2⟩
  | .ex f, _, _, hh, ⟨x, s⟩ => ⟨x, HP.mono hz (f x) hh s⟩
/-- All of a list, apart from each other. -/
def HP.all : List HP → HP
  | [] => .pure True
  | a :: l => .sep a (HP.all l)
/-- The world's memory as such a part. -/
def heapOf (w : World) : PH := fun g => w.heap[g]?
/-- What is known of a world; B: the world in which all began, whose blocks are sealed. -/
def St (B : World) (L : List HP) (w : World) : Prop :=
  w.os = B.os ∧ w.tape = B.tape ∧ (w.output = B.output ∧ B.drawn ≤ w.drawn) ∧ ∃ Z h, Dj Z h ∧ Le (heapOf B) Z ∧ Le Z (heapOf w) ∧ Le h (heapOf w) ∧ (HP.all L).sat Z h
theorem St.below {B w : World} {L : List HP} (h : St B L w) : Below B.heap.size B w := by
  obtain ⟨h1, h2, h3, Z, p, _, hB, hZ, _⟩ := h
  have hk : ∀ k, k < B.heap.size → w.heap[k]? = B.heap[k]? := fun k hk => by
    have e : heapOf B k = some B.heap[k] := Array.getElem?_eq_getElem hk
    exact (hZ.out k _ (hB.out k _ e)).trans e.symm
  refine ⟨h1, h2, h3.1, ?_, hk⟩
  rcases Nat.lt_or_ge w.heap.size B.heap.size with hlt | hge
  · have := hk w.heap.size hlt
    rw [Array.getElem?_eq_none (Nat.le_refl _), Array.getElem?_eq_getElem hlt] at this
    cases this
  · exact hge
theorem St.start (w : World) : St w [] w :=
  ⟨rfl, rfl, ⟨rfl, Nat.le_refl _⟩, heapOf w, PH.emp, Dj.emp _, Le.refl _, Le.refl _, Le.emp _, trivial⟩
/-- From what holds of the parts to what holds of the parts. -/
theorem St.imp {B w : World} {L L' : List HP} (h : St B L w) (k : ∀ Z p, (HP.all L).sat Z p → (HP.all L').sat Z p) : St B L' w := by
  obtain ⟨h1, h2, h3, Z, p, d, hB, hZ, hp, s⟩ := h
  exact ⟨h1, h2, h3, Z, p, d, hB, hZ, hp, k Z p s⟩
theorem HP.swap {Z : PH} {a b c : HP} {p : PH} (s : (HP.sep a (.sep b c)).sat Z p) : (HP.sep b (.sep a c)).sat Z p := by
  obtain ⟨h1, h2, d, l1, l2, s1, h3, h4, d', l3, l4, s3, s4⟩ := s
  have d13 : Dj h1 h3 := d.le (Le.refl _) l3
  have d14 : Dj h1 h4 := d.le (Le.refl _) l4
  exact ⟨h3, h1.un h4, (Dj.un d13 (d'.symm)).symm, l3.trans l2, Le.un l1 (l4.trans l2), s3, h1, h4, d14, Le.left _ _, Le.right d14, s1, s4⟩
theorem HP.sep_imp {Z : PH} {a b b' : HP} {p : PH} (k : ∀ q, b.sat Z q → b'.sat Z q) (s : (HP.sep a b).sat Z p) : (HP.sep a b').sat Z p := by
  obtain ⟨h1, h2, d, l1, l2, s1, s2⟩ := s
  exact ⟨h1, h2, d, l1, l2, s1, k _ s2⟩
/-! Lists with a place. -/
def nth {α : Type _} : List α → Nat → Option α
  | [], _ => none
  | a :: _, 0 => some a
  | _ :: l, i + 1 => nth l i
def del {α : Type _} : List α → Nat → List α
  | [], _ => []
  | _ :: l, 0 => l
  | a :: l, i + 1 => a :: del l i
def put {α : Type _} : List α → Nat → α → List α
  | [], _, _ => []
  | _ :: l, 0, x => x :: l
  | a :: l, i + 1, x => a :: put l i x
theorem HP.focus {Z : PH} {x : HP} : ∀ {L : List HP} {i : Nat} {p : PH}, nth L i = some x → (HP.all L).sat Z p → (HP.all (x :: del L i)).sat Z p
  | [], _, _, h, _ => by cases h
  | a :: l, 0, _, h, s => by cases h; exact s
  | a :: l, i + 1, p, h, s => HP.swap (HP.sep_imp (fun _ => HP.focus (L := l) (i := i) h) s)
theorem HP.unfocus {Z : PH} {x y : HP} : ∀ {L : List HP} {i : Nat} {p : PH}, nth L i = some x → (HP.all (y :: del L i)).sat Z p → (HP.all (put L i y)).sat Z p
  | [], _, _, h, _ => by cases h
  | a :: l, 0, _, h, s => s
  | a :: l, i + 1, p, h, s => HP.sep_imp (fun _ => HP.unfocus (L := l) (i := i) h) (HP.swap s)
theorem St.focus {B w : World} {L : List HP} (h : St B L w) (i : Nat) {x : HP} (hi : nth L i = some x) : St B (x :: del L i) w := h.imp fun _ _ => HP.focus hi
theorem St.unfocus {B w : World} {L : List HP} {i : Nat} {x y : HP} (hi : nth L i = some x) (h : St B (y :: del L i) w) : St B (put L i y) w := h.imp fun _ _ => HP.unfocus hi
/-- Some of the list, by their places (the first place counts in the whole list, the next one in what is left of it, and so on). -/
def take : List HP → List Nat → List HP
  | _, [] => []
  | L, i :: is => match nth L i with
    | some x => x :: take (del L i) is
    | none => []
def left : List HP → List Nat → List HP
  | L, [] => L
  | L, i :: is => match nth L i with
    | some _ => left (del L i) is
    | none => L
theorem HP.takes {Z : PH} : ∀ (I : List Nat) (L : List HP) {p : PH}, (HP.all L).sat Z p → (HP.all (take L I ++ left L I)).sat Z p
  | [], _, _, s => s
  | i :: is, L, p, s => by
    unfold take left
    cases h : nth L i with
    | none => exact s
    | some x => exact HP.sep_imp (fun _ => HP.takes is (del L i)) (HP.focus h s)
theorem St.takes {B w : World} {L : List HP} (h : St B L w) (I : List Nat) : St B (take L I ++ left L I) w := h.imp fun _ _ => HP.takes I L
theorem St.drop {B w : World} {a : HP} {L : List HP} (h : St B (a :: L) w) : St B L w := h.imp fun Z p ⟨_, _, _, _, l2, _, s⟩ => HP.mono (Le.refl _) _ l2 s
theorem St.pure {B w : World} {p : Prop} {L : List HP} (h : St B (.pure p :: L) w) : p ∧ St B L w := by
  refine ⟨?_, h.drop⟩
  obtain ⟨_, _, _, Z, q, _, _, _, _, _, _, _, _, _, s, _⟩ := h
  exact s
theorem HP.add_emp {Z : PH} {a b : HP} {p : PH} (ha : a.sat Z PH.emp) (s : b.sat Z p) : (HP.sep a b).sat Z p := ⟨PH.emp, p, (Dj.emp _).symm, Le.emp _, Le.refl _, ha, s⟩
theorem St.addPure {B w : World} {p : Prop} {L : List HP} (hp : p) (h : St B L w) : St B (.pure p :: L) w := h.imp fun _ _ s => HP.add_emp hp s
theorem St.sep {B w : World} {a b : HP} {L : List HP} (h : St B (.sep a b :: L) w) : St B (a :: b :: L) w := by
  refine h.imp fun Z p ⟨h1, h2, d, l1, l2, ⟨h3, h4, d', l3, l4, s3, s4⟩, s2⟩ => ?_
  have d2 : Dj h4 h2 := d.le l4 (Le.refl _)
  have d3 : Dj h3 h2 := d.le l3 (Le.refl _)
  exact ⟨h3, h4.un h2, (Dj.un (d'.symm) (d3.symm)).symm, l3.trans l1, Le.un (l4.trans l1) l2, s3, h4, h2, d2, Le.left _ _, Le.right d2, s4, s2⟩
theorem St.join {B w : World} {a b : HP} {L : List HP} (h : St B (a :: b :: L) w) : St B (.sep a b :: L) w := by
  refine h.imp fun Z p ⟨h1, h2, d, l1, l2, s1, h3, h4, d', l3, l4, s3, s4⟩ => ?_
  have d13 : Dj h1 h3 := d.le (Le.refl _) l3
  have d14 : Dj h1 h4 := d.le (Le.refl _) l4
  exact ⟨h1.un h3, h4, Dj.un d14 d', Le.un l1 (l3.trans l2), l4.trans l2, ⟨h1, h3, d13, Le.left _ _, Le.right d13, s1, s3⟩, s4⟩
theorem St.ex {B w : World} {α : Type} {f : α → HP} {L : List HP} (h : St B (.ex f :: L) w) : ∃ x, St B (f x :: L) w := by
  obtain ⟨h1, h2, h3, Z, p, d, hB, hZ, hp, q1, q2, dq, l1, l2, ⟨x, s⟩, s2⟩ := h
  exact ⟨x, h1, h2, h3, Z, p, d, hB, hZ, hp, q1, q2, dq, l1, l2, s, s2⟩
theorem St.give {B w : World} {α : Type} {f : α → HP} {L : List HP} (x : α) (h : St B (f x :: L) w) : St B (.ex f :: L) w :=
  h.imp fun _ _ ⟨q1, q2, dq, l1, l2, s, s2⟩ => ⟨q1, q2, dq, l1, l2, ⟨x, s⟩, s2⟩
/-- Of an assertion that owns nothing. -/
def HP.Pers (a : HP) : Prop := ∀ Z p, a.sat Z p → a.sat Z PH.emp
theorem HP.pers_pure (p : Prop) : (HP.pure p).Pers := fun _ _ s => s
theorem HP.pers_seal (g : Nat) (o : Obj) : (HP.seal g o).Pers := fun _ _ s => s
theorem HP.pers_sep {a b : HP} (ha : a.Pers) (hb : b.Pers) : (HP.sep a b).Pers := fun Z _ ⟨_, _, _, _, _, s1, s2⟩ => HP.add_emp (ha Z _ s1) (hb Z _ s2)
theorem HP.pers_ex {α : Type} {f : α → HP} (h : ∀ x, (f x).Pers) : (HP.ex f).Pers := fun Z p ⟨x, s⟩ => ⟨x, h x Z p s⟩
theorem St.dup {B w : World} {a : HP} {L : List HP} (ha : a.Pers) (h : St B (a :: L) w) : St B (a :: a :: L) w :=
  h.imp fun Z _ ⟨h1, h2, d, l1, l2, s1, s2⟩ => HP.add_emp (ha Z _ s1) ⟨h1, h2, d, l1, l2, s1, s2⟩
/-! Blocks. -/
theorem St.at {B w : World} {g : Nat} {o : Obj} {L : List HP} (h : St B (.blk g o :: L) w) : w.heap[g]? = some o := by
  obtain ⟨_, _, _, Z, p, _, _, _, hp, q1, q2, _, l1, _, s, _⟩ := h
  exact hp.out g o (l1.out g o s)
theorem St.sealed {B w : World} {g : Nat} {o : Obj} {L : List HP} (h : St B (.seal g o :: L) w) : w.heap[g]? = some o := by
  obtain ⟨_, _, _, Z, p, _, _, hZ, hp, q1, q2, _, l1, _, s, _⟩ := h
  exact hZ.out g o s
theorem St.base {B w : World} {g : Nat} {o : Obj} {L : List HP} (hg : B.heap[g]? = some o) (h : St B L w) : St B (.seal g o :: L) w := by
  obtain ⟨h1, h2, h3, Z, p, d, hB, hZ, hp, s⟩ := h
  exact ⟨h1, h2, h3, Z, p, d, hB, hZ, hp, HP.add_emp (hB.out g o hg) s⟩
theorem St.lt {B w : World} {L : List HP} {g : Nat} {o : Obj} (h : St B (.blk g o :: L) w) : g < w.heap.size := (Array.getElem?_eq_some_iff.1 h.at).1
theorem St.toSeal {B w : World} {g : Nat} {o : Obj} {L : List HP} (h : St B (.blk g o :: L) w) : St B (.seal g o :: L) w := by
  obtain ⟨h1, h2, h3, Z, p, d, hB, hZ, hp, q1, q2, dq, l1, l2, s1, s2⟩ := h
  have s1 : q1 g = some o := s1
  have o1 : Le (PH.one g o) q1 := Le.one s1
  have dz : Dj Z q2 := d.le (Le.refl _) l2
  have do2 : Dj (PH.one g o) q2 := dq.le o1 (Le.refl _)
  have dzo : Dj Z (PH.one g o) := d.le (Le.refl _) (o1.trans l1)
  refine ⟨h1, h2, h3, Z.un (PH.one g o), q2, Dj.un dz do2, hB.trans (Le.left _ _), Le.un hZ ((o1.trans l1).trans hp), l2.trans hp, ?_⟩
  exact HP.add_emp ((Le.right dzo).out g o (PH.one_self g o)) (HP.mono (Le.left _ _) _ (Le.refl _) s2)
/-- A world that differs in nothing that the assertions see. -/
theorem St.same {B w w' : World} {L : List HP} (h : St B L w) (hh : w'.heap = w.heap) (ho : w'.os = w.os) (ht : w'.tape = w.tape) (hu : w'.output = w.output) (hd : w.drawn ≤ w'.drawn := by first | exact Nat.le_refl _ | exact Nat.le_succ _) : St B L w' := by
  obtain ⟨h1, h2, h3, Z, p, d, hB, hZ, hp, s⟩ := h
  exact ⟨ho.trans h1, ht.trans h2, ⟨hu.trans h3.1, Nat.le_trans h3.2 hd⟩, Z, p, d, hB, by unfold heapOf; rw [hh]; exact hZ, by unfold heapOf; rw [hh]; exact hp, s⟩
theorem St.drew {B w : World} {L : List HP} (h : St B L w) : St B L w.drew := h.same rfl rfl rfl rfl
/-- A new block. -/
theorem St.new {B w : World} {L : List HP} (h : St B L w) (o : Obj) {w' : World} (hh : w'.heap = w.heap.push o) (ho : w'.os = w.os) (ht : w'.tape = w.tape) (hu : w'.output = w.output) (hd : w.drawn ≤ w'.drawn := by first | exact Nat.le_refl _ | exact Nat.le_succ _) : St B (.blk w.heap.size o :: L) w' := by
  obtain ⟨h1, h2, h3, Z, p, d, hB, hZ, hp, s⟩ := h
  have big : Le (heapOf w) (heapOf w') := Le.mk fun g x e => by
    have hlt : g < w.heap.size := (Array.getElem?_eq_some_iff.1 e).1
    show w'.heap[g]? = some x
    rw [hh, Array.getElem?_push, if_neg (by omega)]; exact e
  have fresh : ∀ (q : PH), Le q (heapOf w) → q w.heap.size = none := fun q hq => by
    cases e : q w.heap.size with
    | none => rfl
    | some x => have h1 : w.heap[w.heap.size]? = some x := hq.out _ _ e; rw [Array.getElem?_eq_none (Nat.le_refl _)] at h1; cases h1
  have dj : ∀ (q : PH), Le q (heapOf w) → Dj q (PH.one w.heap.size o) := fun q hq => Dj.mk fun g => by
    by_cases e : g = w.heap.size
    · left; rw [e]; exact fresh q hq
    · right; simp [PH.one, e]
  have new : Le (PH.one w.heap.size o) (heapOf w') := Le.one (by show w'.heap[w.heap.size]? = some o; rw [hh, Array.getElem?_push, if_pos rfl])
  refine ⟨ho.trans h1, ht.trans h2, ⟨hu.trans h3.1, Nat.le_trans h3.2 hd⟩, Z, p.un (PH.one w.heap.size o), (Dj.un d.symm (dj Z hZ).symm).symm, hB, hZ.trans big, Le.un (hp.trans big) new, ?_⟩
  exact ⟨PH.one w.heap.size o, p, (dj p hp).symm, Le.right (dj p hp), Le.left _ _, PH.one_self _ _, s⟩
/-- A block that is owned is written. -/
theorem St.write {B w : World} {g : Nat} {o o' : Obj} {L : List HP} (h : St B (.blk g o :: L) w) {w' : World} (hh : ∀ k, k ≠ g → w'.heap[k]? = w.heap[k]?) (hg : w'.heap[g]? = some o') (ho : w'.os = w.os) (ht : w'.tape = w.tape) (hu : w'.output = w.output) (hd : w.drawn ≤ w'.drawn := by first | exact Nat.le_refl _ | exact Nat.le_succ _) : St B (.blk g o' :: L) w' := by
  obtain ⟨h1, h2, h3, Z, p, d, hB, hZ, hp, q1, q2, dq, l1, l2, s1, s2⟩ := h
  have s1 : q1 g = some o := s1
  have o1 : Le (PH.one g o) q1 := Le.one s1
  have off : ∀ (q : PH), Dj q (PH.one g o) → Le q (heapOf w) → Le q (heapOf w') ∧ Dj q (PH.one g o') := fun q hd hq => by
    have hn : q g = none := by
      rcases hd.out g with e | e
      · exact e
      · rw [PH.one_self] at e; cases e
    refine ⟨Le.mk fun k x e => ?_, Dj.mk fun k => ?_⟩
    · have hk : k ≠ g := by rintro rfl; rw [hn] at e; cases e
      exact (hh k hk).trans (hq.out k x e)
    · by_cases e : k = g
      · left; rw [e]; exact hn
      · right; simp [PH.one, e]
  have hz := off Z (d.le (Le.refl _) (o1.trans l1)) hZ
  have h2' := off q2 (dq.le o1 (Le.refl _)).symm (l2.trans hp)
  have new : Le (PH.one g o') (heapOf w') := Le.one hg
  have dz2 : Dj Z q2 := d.le (Le.refl _) l2
  refine ⟨ho.trans h1, ht.trans h2, ⟨hu.trans h3.1, Nat.le_trans h3.2 hd⟩, Z, q2.un (PH.one g o'), (Dj.un dz2.symm hz.2.symm).symm, hB, hz.1, Le.un h2'.1 new, ?_⟩
  exact ⟨PH.one g o', q2, h2'.2.symm, Le.right h2'.2, Le.left _ _, PH.one_self _ _, s2⟩
end Go.Proofs.YtidoidoelgfnaaaGreatDoor.SL

/- The judgements of a walk: code, a row of operations, an exit, each over a table of temporaries and a world; rules for code, loops, calls. -/
namespace Go.Proofs.YtidoidoelgfnaaaGreatDoor.SL
open Go.RowKit
set_option linter.unusedVariables false
set_option linter.unusedSimpArgs false
abbrev Tm := List (Nat × Value)
def look : Tm → Nat → Option Value
  | [], _ => none
  | (k, v) :: T, i => match Nat.beq k i with
    | true => some v
    | false => look T i
def ev (T : Tm) : Operand → Option Value
  | .tmp t => look T t
  | .const v => some v
  | .global g => some (.pointer (some ⟨g, 0, none⟩))
  | .func f => some (.func (.func f) #[] #[])
def evs (T : Tm) : List Operand → Option (List Value)
  | [] => some []
  | x :: l => match ev T x, evs T l with
    | some v, some vs => some (v :: vs)
    | _, _ => none
/-- An act that has what the table says. -/
structure Fits (n : Nat) (D : List Deferred) (T : Tm) (a : Act) : Prop where
  size : a.tmps.size = n
  defs : a.defers = D
  out : ∀ i v, look T i = some v → a.tmps[i]? = some v
theorem Fits.ev {n : Nat} {D : List Deferred} {T : Tm} {a : Act} (h : Fits n D T a) {x : Operand} {v : Value} (e : ev T x = some v) : a.eval x = v := by
  cases x with
  | tmp t => have := h.out t v e; simp [Act.eval, this]
  | const u => exact Option.some.inj e
  | global g => exact Option.some.inj e
  | func f => exact Option.some.inj e
theorem Fits.evs {n : Nat} {D : List Deferred} {T : Tm} {a : Act} (h : Fits n D T a) : ∀ {l : List Operand} {vs : List Value}, evs T l = some vs → l.map a.eval = vs
  | [], _, e => by cases e; rfl
  | x :: l, vs, e => by
    unfold SL.evs at e
    cases h1 : SL.ev T x with
    | none => rw [h1] at e; cases e
    | some v =>
      cases h2 : SL.evs T l with
      | none => rw [h1, h2] at e; cases e
      | some us =>
        rw [h1, h2] at e
        cases e
        rw [List.map_cons, h.ev h1, h.evs h2]
theorem Fits.put {n : Nat} {D : List Deferred} {T : Tm} {a : Act} (h : Fits n D T a) (d : Nat) (v : Value) (hd : Nat.blt d n = true) : Fits n D ((d, v) :: T) (a.put (some d) v) := by
  have hlt : d < n := by simpa [Nat.blt_eq] using hd
  refine ⟨by simpa [Act.put] using h.size, h.defs, fun i u e => ?_⟩
  unfold look at e
  cases hb : Nat.beq d i with
  | true =>
    rw [hb] at e
    have hdi : d = i := Nat.eq_of_beq_eq_true hb
    subst hdi
    cases e
    simp [Act.put, h.size, hlt]
  | false =>
    rw [hb] at e
    have hne : d ≠ i := Nat.ne_of_beq_eq_false hb
    simp only [Act.put]
    rw [Array.getElem?_setIfInBounds_ne hne]
    exact h.out i u e
def Sub (T T' : Tm) : Prop := ∀ i v, look T' i = some v → look T i = some v
theorem Sub.nil (T : Tm) : Sub T [] := fun _ _ h => by cases h
theorem Sub.cons {T T' : Tm} {k : Nat} {v : Value} (h : look T k = some v) (hs : Sub T T') : Sub T ((k, v) :: T') := fun i u e => by
  unfold look at e
  cases hb : Nat.beq k i with
  | true => rw [hb] at e; cases e; rw [← Nat.eq_of_beq_eq_true hb]; exact h
  | false => rw [hb] at e; exact hs i u e
/-- The same where the value is known by another name. -/
theorem Sub.consE {T T' : Tm} {k : Nat} {u v : Value} (h : look T k = some u) (e : u = v) (hs : Sub T T') : Sub T ((k, v) :: T') := by
  subst e; exact .cons h hs
theorem Fits.sub {n : Nat} {D : List Deferred} {T T' : Tm} {a : Act} (h : Fits n D T a) (s : Sub T T') : Fits n D T' a := ⟨h.size, h.defs, fun i v e => h.out i v (s i v e)⟩
section
variable {P : Program} {n : Nat} {D : List Deferred} {Q : Exit → Act → World → Prop} {T : Tm} {w : World}
def WP (P : Program) (n : Nat) (D : List Deferred) (c : Code) (Q : Exit → Act → World → Prop) (T : Tm) (w : World) : Prop := ∀ a, Fits n D T a → c.wp P Q a w
def WO (P : Program) (n : Nat) (D : List Deferred) (ops : Array Oper) (Q : Exit → Act → World → Prop) (l : List Oper) (T : Tm) (w : World) : Prop := ∀ a, Fits n D T a → wpList P ops Q l a w
def NX (n : Nat) (D : List Deferred) (Q : Exit → Act → World → Prop) (e : Exit) (T : Tm) (w : World) : Prop := ∀ a, Fits n D T a → Q e a w
theorem WP.seq {x y : Code} (h : WP P n D x (Exit.then (y.wp P Q) Q) T w) : WP P n D (.seq x y) Q T w := fun a f => wp_seq (h a f)
theorem WP.region {id : Nat} {ops : Array Oper} {l : List Oper} (hl : ops.toList = l) (h : WO P n D ops Q l T w) : WP P n D (.region id ops false) Q T w := fun a f => wp_region_list (hl ▸ h a f)
theorem WO.nil {ops : Array Oper} (h : NX n D Q .normal T w) : WO P n D ops Q [] T w := fun a f => h a f
theorem NX.go {y : Code} (h : WP P n D y Q T w) : NX n D (Exit.then (y.wp P Q) Q) .normal T w := h
theorem NX.blk {id : Nat} (h : NX n D Q .normal T w) : NX n D (Exit.inBlock id Q) .normal T w := h
theorem NX.thenRet {K : Act → World → Prop} (h : NX n D Q .ret T w) : NX n D (Exit.then K Q) .ret T w := h
theorem NX.blkRet {id : Nat} (h : NX n D Q .ret T w) : NX n D (Exit.inBlock id Q) .ret T w := h
theorem NX.thenExit {K : Act → World → Prop} {id : Nat} (h : NX n D Q (.exit id) T w) : NX n D (Exit.then K Q) (.exit id) T w := h
theorem NX.blkExit {id : Nat} (h : NX n D Q .normal T w) : NX n D (Exit.inBlock id Q) (.exit id) T w := fun a f => by simp only [Exit.inBlock, if_true]; exact h a f
theorem NX.blkPass {id id' : Nat} (hne : Nat.beq id' id = false) (h : NX n D Q (.exit id') T w) : NX n D (Exit.inBlock id Q) (.exit id') T w := fun a f => by simp only [Exit.inBlock, Nat.ne_of_beq_eq_false hne, if_false]; exact h a f
theorem WP.skip (h : NX n D Q .normal T w) : WP P n D .skip Q T w := fun a f => wp_skip (h a f)
theorem WP.ret (h : NX n D Q .ret T w) : WP P n D .ret Q T w := fun a f => wp_ret (h a f)
theorem WP.exit {id : Nat} (h : NX n D Q (.exit id) T w) : WP P n D (.exit id) Q T w := fun a f => wp_exit (h a f)
theorem WP.block {id : Nat} {c : Code} (h : WP P n D c (Exit.inBlock id Q) T w) : WP P n D (.block id c) Q T w := fun a f => wp_block (h a f)
theorem WP.condB {c : Operand} {x y : Code} {t : Bool} (hc : ev T c = some (.bool t)) (h1 : t = true → WP P n D x Q T w) (h2 : t = false → WP P n D y Q T w) : WP P n D (.cond c x y) Q T w :=
  fun a f => wp_cond_split (f.ev hc) (fun e => h1 e a f) (fun e => h2 e a f)
theorem WP.condT {c : Operand} {x y : Code} {t : Bool} (hc : ev T c = some (.bool t)) (e : t = true) (h : WP P n D x Q T w) : WP P n D (.cond c x y) Q T w :=
  .condB hc (fun _ => h) (fun e' => by rw [e] at e'; cases e')
theorem WP.condF {c : Operand} {x y : Code} {t : Bool} (hc : ev T c = some (.bool t)) (e : t = false) (h : WP P n D y Q T w) : WP P n D (.cond c x y) Q T w :=
  .condB hc (fun e' => by rw [e] at e'; cases e') (fun _ => h)
theorem NX.sub {e : Exit} {T' : Tm} (s : Sub T T') (h : NX n D Q e T' w) : NX n D Q e T w := fun a f => h a (f.sub s)
/-- A loop's body, and behind it the loop again. -/
def LW (P : Program) (c : Code) (Q : Exit → Act → World → Prop) (a : Act) (w : World) : Prop :=
  ∀ (b : Frame) (k : List Item) (cs : List Frame), ∃ e a' w', Q e a' w' ∧ Arrives P (lone (b.at a (.code c :: .inLoop c :: k)) cs w) b k cs e a' w'
theorem LW.loop {c : Code} {a : Act} {w : World} (h : LW P c Q a w) : (Code.loop c).wp P Q a w := fun b k cs => by
  obtain ⟨e, a', w', hq, harr⟩ := h b k cs
  exact ⟨e, a', w', hq, .of_steps (.one step_loop) harr⟩
theorem LW.round {c : Code} {a : Act} {w : World} (h : c.wp P (Exit.then (LW P c Q) Q) a w) : LW P c Q a w := fun b k cs => by
  obtain ⟨e, a₁, w₁, hq, harr⟩ := h b (.inLoop c :: k) cs
  cases e with
  | normal =>
    obtain ⟨e₂, a₂, w₂, hq₂, harr₂⟩ := hq b k cs
    exact ⟨e₂, a₂, w₂, hq₂, .of_steps (Steps.trans harr (.one step_inLoop)) harr₂⟩
  | exit id => exact ⟨_, a₁, w₁, hq, .pass (x := .inLoop c) rfl (fun _ _ => .inl (by simp)) harr⟩
  | goto l => exact ⟨_, a₁, w₁, hq, .pass (x := .inLoop c) rfl (fun _ _ => .inl (by simp)) harr⟩
  | ret => exact ⟨_, a₁, w₁, hq, .pass (x := .inLoop c) rfl (fun _ _ => .inl (by simp)) harr⟩
  | panic ch => exact ⟨_, a₁, w₁, hq, .pass (x := .inLoop c) rfl (fun _ _ => .inl (by simp)) harr⟩
  | outgrown => exact ⟨_, a₁, w₁, hq, .pass (x := .inLoop c) rfl (fun _ _ => .inl (by simp)) harr⟩
/-- What a round must come to: the table and the world of a lower state. -/
def Again (n : Nat) (D : List Deferred) {α : Type} (H : α → Tm) (I : α → World → Prop) (μ : α → Nat) (x : α) (a : Act) (w : World) : Prop := ∃ y, μ y < μ x ∧ I y w ∧ Fits n D (H y) a
theorem WP.loop {α : Type} {c : Code} (H : α → Tm) (I : α → World → Prop) (μ : α → Nat) (x0 : α) (h0 : I x0 w) (s : Sub T (H x0))
    (round : ∀ x w, I x w → WP P n D c (Exit.then (Again n D H I μ x) Q) (H x) w) : WP P n D (.loop c) Q T w := fun a f => by
  have key : ∀ m x a w, μ x = m → I x w → Fits n D (H x) a → LW P c Q a w := by
    intro m
    induction m using Nat.strongRecOn with
    | _ m ih =>
      intro x a w hm hI hf
      refine LW.round (wp_mono (round x w hI a hf) fun e a' w' q => ?_)
      cases e with
      | normal => obtain ⟨y, hlt, hI', hf'⟩ := q; exact ih (μ y) (hm ▸ hlt) y a' w' rfl hI' hf'
      | _ => exact q
  exact LW.loop (key _ x0 a w rfl h0 (f.sub s))
theorem NX.again {α : Type} {H : α → Tm} {I : α → World → Prop} {μ : α → Nat} {x : α} (y : α) (hI : I y w) (hlt : μ y < μ x) (s : Sub T (H y)) : NX n D (Exit.then (Again n D H I μ x) Q) .normal T w :=
  fun a f => ⟨y, hlt, hI, f.sub s⟩
/-- What a function comes to: it returns. -/
def ret (Φ : Value → World → Prop) : Ending → World → Prop := fun e w => ∃ v, e = .returned v ∧ Φ v w
def Does (P : Program) (f : FuncId) (args : List Value) (w : World) (Φ : Value → World → Prop) : Prop := Calls P f args.toArray w (ret Φ)
theorem Does.mono {f : FuncId} {args : List Value} {Φ Ψ : Value → World → Prop} (h : Does P f args w Φ) (k : ∀ v w', Φ v w' → Ψ v w') : Does P f args w Ψ :=
  Calls.mono h fun _ _ ⟨v, e, p⟩ => ⟨v, e, k _ _ p⟩
def idx : Nat → List Value → Tm
  | _, [] => []
  | k, v :: l => (k, v) :: idx (k + 1) l
theorem look_idx : ∀ (l : List Value) (k i : Nat) (v : Value), look (idx k l) i = some v → k ≤ i ∧ l[i - k]? = some v
  | [], _, _, _, h => by cases h
  | u :: l, k, i, v, h => by
    unfold idx look at h
    cases hb : Nat.beq k i with
    | true =>
      rw [hb] at h; cases h
      have := Nat.eq_of_beq_eq_true hb
      subst this
      exact ⟨Nat.le_refl _, by simp⟩
    | false =>
      rw [hb] at h
      obtain ⟨h1, h2⟩ := look_idx l (k + 1) i v h
      refine ⟨by omega, ?_⟩
      have : i - k = (i - (k + 1)) + 1 := by omega
      rw [this, List.getElem?_cons_succ]; exact h2
theorem enter {f : FuncId} {fn : Func} {c : Code} {R : Ending → World → Prop} (hf : P.funcs[f]? = some fn) (hb : fn.body = some c) (hn : fn.ntmps = n) (args : List Value) (hlen : Nat.ble args.length n = true)
    (h : WP P n [] c (bodyPost P fn R) (idx 0 args) w) : Calls P f args.toArray w R := by
  refine calls_of_wp hf hb (h _ ⟨?_, rfl, fun i v e => ?_⟩)
  · have := Nat.le_of_ble_eq_true hlen
    simp only [Array.size_append, List.size_toArray, Array.size_replicate, hn]; omega
  · obtain ⟨_, h2⟩ := look_idx args 0 i v e
    rw [Nat.sub_zero] at h2
    have hlt := (List.getElem?_eq_some_iff.1 h2).1
    rw [Array.getElem?_append_left (by simpa using hlt)]
    simpa using h2
/-- The results, all in temporaries. -/
def outs (T : Tm) : List ResultVar → Option (List Value)
  | [] => some []
  | .tmp t :: l => match look T t, outs T l with
    | some v, some vs => some (v :: vs)
    | _, _ => none
  | .cell _ _ :: _ => none
def one (vs : List Value) : Value := match vs with
  | [v] => v
  | _ => .tuple vs.toArray
def resOf (tmps : Array Value) : ResultVar → Sem Value
  | .tmp t => pure (tmps.getD t undef)
  | .cell a t => do loadVar t (← asAddr (tmps.getD a undef))
theorem results_eq (fn : Func) (tmps : Array Value) : results fn tmps = (do let vs ← fn.results.mapM (resOf tmps); pure (if h : vs.size = 1 then vs[0] else .tuple vs)) := rfl
theorem outs_map {a : Act} (f : Fits n D T a) : ∀ {l : List ResultVar} {vs : List Value}, outs T l = some vs → (l.mapM (resOf a.tmps)).run P w = .ok vs w
  | [], vs, e => by cases e; rfl
  | .cell _ _ :: _, _, e => by cases e
  | .tmp t :: l, vs, e => by
    unfold outs at e
    cases h1 : look T t with
    | none => rw [h1] at e; cases e
    | some v =>
      cases h2 : outs T l with
      | none => rw [h1, h2] at e; cases e
      | some us =>
        rw [h1, h2] at e
        cases e
        have ih := outs_map f h2
        have hv : a.tmps.getD t undef = v := by simp [f.out t v h1]
        simp [List.mapM_cons, resOf, ih, hv]
theorem results_ok {fn : Func} {a : Act} (f : Fits n D T a) {vs : List Value} {l : List ResultVar} (hr : fn.results = l.toArray) (h : outs T l = some vs) : (results fn a.tmps).run P w = .ok (one vs) w := by
  have := outs_map (P := P) (w := w) f h
  rw [results_eq, hr, List.mapM_toArray]
  simp [this, one]
  split
  · rename_i h1
    obtain ⟨v, rfl⟩ := List.length_eq_one_iff.1 h1
    rfl
  · rename_i h1
    split
    · exact absurd rfl h1
    · rfl
theorem NX.done {fn : Func} {Φ : Value → World → Prop} {l : List ResultVar} {vs : List Value} (hr : fn.results = l.toArray) (ht : outs T l = some vs) (h : Φ (one vs) w) : NX n [] (bodyPost P fn (SL.ret Φ)) .ret T w :=
  fun a f => ⟨f.defs, _, results_ok f hr ht, _, rfl, h⟩
theorem NX.ended {fn : Func} {Φ : Value → World → Prop} {l : List ResultVar} {vs : List Value} (hr : fn.results = l.toArray) (ht : outs T l = some vs) (h : Φ (one vs) w) : NX n [] (bodyPost P fn (SL.ret Φ)) .normal T w :=
  fun a f => ⟨f.defs, _, results_ok f hr ht, _, rfl, h⟩
/-! Operations. -/
/-- In every act that the table fits, the operation yields v, and the world is w' behind it. -/
def Run (P : Program) (n : Nat) (D : List Deferred) (T : Tm) (w : World) (o : Oper) (v : Value) (w' : World) : Prop := ∀ a, Fits n D T a → (execOp a.eval o).run P w = .ok (.value v) w'
def RunS (P : Program) (n : Nat) (D : List Deferred) (T : Tm) (w : World) (o : Oper) (w' : World) : Prop := ∀ a, Fits n D T a → (execOp a.eval o).run P w = .ok .skip w'
variable {ops : Array Oper} {rest : List Oper}
theorem WO.val {o : Oper} {d : Nat} {v : Value} {w' : World} (hr : Run P n D T w o v w') (hg : o.guard = none) (hd : o.dst = some d) (hn : Nat.blt d n = true) (h : WO P n D ops Q rest ((d, v) :: T) w') : WO P n D ops Q (o :: rest) T w :=
  fun a f => wpList_plain hg fun K hK => by
    unfold Oper.wp
    rw [hr a f]
    exact hK _ _ (hd ▸ h _ (f.put d v hn))
/-- A value that nobody reads. -/
theorem WO.valN {o : Oper} {v : Value} {w' : World} (hr : Run P n D T w o v w') (hg : o.guard = none) (hd : o.dst = none) (h : WO P n D ops Q rest T w') : WO P n D ops Q (o :: rest) T w :=
  fun a f => wpList_plain hg fun K hK => by
    unfold Oper.wp
    rw [hr a f]
    exact hK _ _ (by rw [hd]; exact h _ f)
theorem WO.eff {o : Oper} {w' : World} (hr : RunS P n D T w o w') (hg : o.guard = none) (hd : o.dst = none) (h : WO P n D ops Q rest T w') : WO P n D ops Q (o :: rest) T w :=
  fun a f => wpList_plain hg fun K hK => by
    unfold Oper.wp
    rw [hr a f]
    exact hK _ _ (by rw [hd]; exact h _ f)
theorem yielded_ok {a : Act} (f : Fits n D T a) {j t : Nat} {b : Bool} (hj : (ops[j]?).bind (·.dst) = some t) (ht : look T t = some (.bool b)) : yielded ops a.tmps j = some b := by
  unfold yielded
  rw [hj]
  simp [f.out t _ ht]
theorem WO.on {d : Option Nat} {op : Op} {ty : TypeId} {pos : String} {aft : Array Edge} {j t : Nat} {b c : Bool} (hj : (ops[j]?).bind (·.dst) = some t) (ht : look T t = some (.bool c)) (e : c = b)
    (h : WO P n D ops Q (⟨d, op, ty, pos, aft, none⟩ :: rest) T w) : WO P n D ops Q (⟨d, op, ty, pos, aft, some (j, b)⟩ :: rest) T w := fun a f => by
  subst e
  have hy := yielded_ok f hj ht
  have h1 := h a f
  unfold wpList at h1 ⊢
  simp only [Region.wanted, hy, beq_self_eq_true, if_true] at h1 ⊢
  exact h1
theorem WO.off {d : Nat} {op : Op} {ty : TypeId} {pos : String} {aft : Array Edge} {j t : Nat} {b c : Bool} (hj : (ops[j]?).bind (·.dst) = some t) (ht : look T t = some (.bool c)) (e : c = !b) (hn : Nat.blt d n = true)
    (h : WO P n D ops Q rest ((d, undef) :: T) w) : WO P n D ops Q (⟨some d, op, ty, pos, aft, some (j, b)⟩ :: rest) T w := fun a f => by
  subst e
  have hy := yielded_ok f hj ht
  unfold wpList
  have hw : Region.wanted ⟨some d, op, ty, pos, aft, some (j, b)⟩ (yielded ops a.tmps) = false := by simp only [Region.wanted, hy]; cases b <;> rfl
  rw [if_neg (by simp [hw])]
  exact h _ (f.put d undef hn)
theorem yielded_un {a : Act} (f : Fits n D T a) {j t : Nat} (hj : (ops[j]?).bind (·.dst) = some t) (ht : look T t = some undef) : yielded ops a.tmps j = none := by
  unfold yielded
  rw [hj]
  simp [f.out t _ ht, undef]
theorem WO.offU {d : Nat} {op : Op} {ty : TypeId} {pos : String} {aft : Array Edge} {j t : Nat} {b : Bool} (hj : (ops[j]?).bind (·.dst) = some t) (ht : look T t = some undef) (hn : Nat.blt d n = true)
    (h : WO P n D ops Q rest ((d, undef) :: T) w) : WO P n D ops Q (⟨some d, op, ty, pos, aft, some (j, b)⟩ :: rest) T w := fun a f => by
  have hy := yielded_un f hj ht
  unfold wpList
  have hw : Region.wanted ⟨some d, op, ty, pos, aft, some (j, b)⟩ (yielded ops a.tmps) = false := by simp only [Region.wanted, hy]; rfl
  rw [if_neg (by simp [hw])]
  exact h _ (f.put d undef hn)
/-- A function that may be called. -/
structure Has (P : Program) (f : FuncId) : Prop where
  out : ∀ args w, (callFunc f args).run P w = .ok (.enter f args) w
theorem Has.mk' {f : FuncId} {fn : Func} (hf : P.funcs[f]? = some fn) (hname : (fn.name == "runtime.NumGoroutine") = false) (hb : fn.body.isSome = true) : Has P f := ⟨fun args w => by
  have h1 : fn.name ≠ "runtime.NumGoroutine" := by simpa using hname
  obtain ⟨c, hc⟩ := Option.isSome_iff_exists.1 hb
  simp [callFunc, hf, h1, hc]⟩
/-- A call of a function, by what it comes to. -/
theorem WO.call {d : Nat} {x : Operand} {as : Array Operand} {ts : Array TypeId} {ty : TypeId} {pos : String} {aft : Array Edge} {f : FuncId} {vs : List Value} {Φ : Value → World → Prop}
    (hx : ev T x = some (.func (.func f) #[] #[])) (ha : evs T as.toList = some vs) (hF : Has P f) (hn : Nat.blt d n = true) (hc : Does P f vs w Φ)
    (h : ∀ v w', Φ v w' → WO P n D ops Q rest ((d, v) :: T) w') : WO P n D ops Q (⟨some d, .call ⟨.value x, as, ts⟩, ty, pos, aft, none⟩ :: rest) T w :=
  fun a fi => wpList_plain rfl fun K hK => by
    have h1 := fi.ev hx
    have h2 : as.map a.eval = vs.toArray := by
      have := fi.evs ha
      rw [← this]; apply Array.ext'; simp
    have hrun : (execOp a.eval ⟨some d, .call ⟨.value x, as, ts⟩, ty, pos, aft, none⟩).run P w = .ok (.enter f vs.toArray) w := by
      simp [execOp, resolve, Deferred.ofValue, h1, h2, invoke, hF.out]
    unfold Oper.wp
    rw [hrun, Oper.upon_enter]
    refine Calls.mono hc fun e w'' hh => ?_
    obtain ⟨v, rfl, hp⟩ := hh
    exact hK _ _ (h v w'' hp _ (fi.put d v hn))
/-- A call of a function value: what it has taken along stands behind the arguments. -/
theorem WO.callV {d : Nat} {x : Operand} {as : Array Operand} {ts : Array TypeId} {ty : TypeId} {pos : String} {aft : Array Edge} {f : FuncId} {vs us cs : List Value} {Φ : Value → World → Prop}
    (hx : ev T x = some (.func (.func f) us.toArray cs.toArray)) (ha : evs T as.toList = some vs) (hF : Has P f) (hn : Nat.blt d n = true) (hc : Does P f (us ++ vs ++ cs) w Φ)
    (h : ∀ v w', Φ v w' → WO P n D ops Q rest ((d, v) :: T) w') : WO P n D ops Q (⟨some d, .call ⟨.value x, as, ts⟩, ty, pos, aft, none⟩ :: rest) T w :=
  fun a fi => wpList_plain rfl fun K hK => by
    have h1 := fi.ev hx
    have h2 : as.map a.eval = vs.toArray := by
      have := fi.evs ha
      rw [← this]; apply Array.ext'; simp
    have hrun : (execOp a.eval ⟨some d, .call ⟨.value x, as, ts⟩, ty, pos, aft, none⟩).run P w = .ok (.enter f (us ++ vs ++ cs).toArray) w := by
      simp [execOp, resolve, Deferred.ofValue, h1, h2, invoke, hF.out]
    unfold Oper.wp
    rw [hrun, Oper.upon_enter]
    refine Calls.mono hc fun e w'' hh => ?_
    obtain ⟨v, rfl, hp⟩ := hh
    exact hK _ _ (h v w'' hp _ (fi.put d v hn))
end
end Go.Proofs.YtidoidoelgfnaaaGreatDoor.SL

/- Rules for operations that only compute: numbers, strings, addresses, parts. -/
namespace Go.Proofs.YtidoidoelgfnaaaGreatDoor.SL
open Go.RowKit
set_option linter.unusedVariables false
set_option linter.unusedSimpArgs false
section
variable {P : Program} {n : Nat} {D : List Deferred} {T : Tm} {w : World} {dst : Option Nat} {ty : TypeId} {pos : String} {aft : Array Edge}
theorem run_move {x : Operand} {v : Value} (hx : ev T x = some v) : Run P n D T w ⟨dst, .move x, ty, pos, aft, none⟩ v w := fun a f => by simp [execOp, f.ev hx]
theorem run_assign {x : Operand} {v : Value} (hx : ev T x = some v) : Run P n D T w ⟨dst, .assign x, ty, pos, aft, none⟩ v w := fun a f => by simp [execOp, f.ev hx]
theorem run_pickT {c x y : Operand} {b : Bool} {v : Value} (hc : ev T c = some (.bool b)) (e : b = true) (hx : ev T x = some v) : Run P n D T w ⟨dst, .pick c x y, ty, pos, aft, none⟩ v w := fun a f => by
  subst e; simp [execOp, f.ev hc, f.ev hx, asBool]
theorem run_pickF {c x y : Operand} {b : Bool} {v : Value} (hc : ev T c = some (.bool b)) (e : b = false) (hy : ev T y = some v) : Run P n D T w ⟨dst, .pick c x y, ty, pos, aft, none⟩ v w := fun a f => by
  subst e; simp [execOp, f.ev hc, f.ev hy, asBool]
theorem run_extract {x : Operand} {vs : List Value} {k : Nat} {v : Value} (hx : ev T x = some (.tuple vs.toArray)) (hk : nth vs k = some v) : Run P n D T w ⟨dst, .extract x k, ty, pos, aft, none⟩ v w := fun a f => by
  have : ∀ (l : List Value) (i : Nat), nth l i = l[i]? := by
    intro l; induction l with
    | nil => intro i; rfl
    | cons a l ih => intro i; cases i with
      | zero => rfl
      | succ i => simp [nth, ih]
  rw [this] at hk
  simp [execOp, f.ev hx, Instr.extract, hk]
/-! numbers -/
section nums
variable {t u : TypeId} {x y : Operand} {k : IntKind} {a b r : Int}
theorem eqGuard_int (op : BinOp) : (eqGuard op t x y (.int k a) (.int k b)).run P w = .ok () w := by
  unfold eqGuard; split <;> simp
theorem run_add (hx : ev T x = some (.int k a)) (hy : ev T y = some (.int k b)) (hr : k.wrap (a + b) = r) : Run P n D T w ⟨dst, .binOp .add t x y u, ty, pos, aft, none⟩ (.int k r) w := fun c f => by
  simp [execOp, f.ev hx, f.ev hy, eqGuard_int, binOp, Op.intArith, hr]
theorem run_sub (hx : ev T x = some (.int k a)) (hy : ev T y = some (.int k b)) (hr : k.wrap (a - b) = r) : Run P n D T w ⟨dst, .binOp .sub t x y u, ty, pos, aft, none⟩ (.int k r) w := fun c f => by
  simp [execOp, f.ev hx, f.ev hy, eqGuard_int, binOp, Op.intArith, hr]
theorem run_quo (hx : ev T x = some (.int k a)) (hy : ev T y = some (.int k b)) (h0 : ¬ b = 0) (hr : k.wrap (a.tdiv b) = r) : Run P n D T w ⟨dst, .binOp .quo t x y u, ty, pos, aft, none⟩ (.int k r) w := fun c f => by
  simp [execOp, f.ev hx, f.ev hy, eqGuard_int, binOp, Op.intDiv, hr, h0]
theorem run_shr {k' : IntKind} (hx : ev T x = some (.int k a)) (hy : ev T y = some (.int k' b)) (h0 : 0 ≤ b) (hr : a.fdiv (2 ^ (min b.toNat k.bits)) = r) : Run P n D T w ⟨dst, .binOp .shr t x y u, ty, pos, aft, none⟩ (.int k r) w := fun c f => by
  have : ¬ b < 0 := by omega
  simp [execOp, f.ev hx, f.ev hy, eqGuard, binOp, Op.shift, hr, this]
theorem run_eql (hx : ev T x = some (.int k a)) (hy : ev T y = some (.int k b)) : Run P n D T w ⟨dst, .binOp .eql t x y u, ty, pos, aft, none⟩ (.bool (decide (a = b))) w := fun c f => by
  simp [execOp, f.ev hx, f.ev hy, eqGuard_int, binOp, Op.intCmp]; rfl
theorem run_neq (hx : ev T x = some (.int k a)) (hy : ev T y = some (.int k b)) : Run P n D T w ⟨dst, .binOp .neq t x y u, ty, pos, aft, none⟩ (.bool (decide (¬ a = b))) w := fun c f => by
  have : (a != b) = decide (¬ a = b) := by by_cases h : a = b <;> simp [h]
  simp [execOp, f.ev hx, f.ev hy, eqGuard_int, binOp, Op.intCmp, this]
theorem run_lss (hx : ev T x = some (.int k a)) (hy : ev T y = some (.int k b)) : Run P n D T w ⟨dst, .binOp .lss t x y u, ty, pos, aft, none⟩ (.bool (decide (a < b))) w := fun c f => by
  simp [execOp, f.ev hx, f.ev hy, eqGuard_int, binOp, Op.intCmp]
theorem run_leq (hx : ev T x = some (.int k a)) (hy : ev T y = some (.int k b)) : Run P n D T w ⟨dst, .binOp .leq t x y u, ty, pos, aft, none⟩ (.bool (decide (a ≤ b))) w := fun c f => by
  simp [execOp, f.ev hx, f.ev hy, eqGuard_int, binOp, Op.intCmp]
theorem run_gtr (hx : ev T x = some (.int k a)) (hy : ev T y = some (.int k b)) : Run P n D T w ⟨dst, .binOp .gtr t x y u, ty, pos, aft, none⟩ (.bool (decide (b < a))) w := fun c f => by
  simp [execOp, f.ev hx, f.ev hy, eqGuard_int, binOp, Op.intCmp]
theorem run_geq (hx : ev T x = some (.int k a)) (hy : ev T y = some (.int k b)) : Run P n D T w ⟨dst, .binOp .geq t x y u, ty, pos, aft, none⟩ (.bool (decide (b ≤ a))) w := fun c f => by
  simp [execOp, f.ev hx, f.ev hy, eqGuard_int, binOp, Op.intCmp]
theorem run_convI {k2 : IntKind} (hu : P.underlying u = some (.int k2)) (ht : (P.underlying t).isSome = true) (hx : ev T x = some (.int k a)) (hr : k2.wrap a = r) : Run P n D T w ⟨dst, .convert t u x, ty, pos, aft, none⟩ (.int k2 r) w := fun c f => by
  obtain ⟨d, hd⟩ := Option.isSome_iff_exists.1 ht
  simp [execOp, f.ev hx, convert, underlying, hu, hd, Conv.intToInt, hr]
theorem run_max (hx : evs T [x, y] = some [.int k a, .int k b]) {ts : Array TypeId} (hr : (if b > a then b else a) = r) : Run P n D T w ⟨dst, .call ⟨.builtin .max, #[x, y], ts⟩, ty, pos, aft, none⟩ (.int k r) w := fun c f => by
  have := f.evs hx
  simp at this
  simp [execOp, resolve, this.1, this.2, invoke, builtin, Builtin.max_, Builtin.max2, hr]
end nums
/-! bools -/
theorem run_notP {t : TypeId} {x : Operand} {p : Prop} [Decidable p] (hx : ev T x = some (.bool (decide p))) : Run P n D T w ⟨dst, .unOp .not t x, ty, pos, aft, none⟩ (.bool (decide (¬ p))) w := fun c f => by
  have : (!decide p) = decide (¬ p) := by by_cases h : p <;> simp [h]
  simp only [execOp, f.ev hx, Op.unary, this]; rfl
theorem run_not {t : TypeId} {x : Operand} {b r : Bool} (hx : ev T x = some (.bool b)) (hr : (!b) = r) : Run P n D T w ⟨dst, .unOp .not t x, ty, pos, aft, none⟩ (.bool r) w := fun c f => by
  subst hr; simp [execOp, f.ev hx, Op.unary]
/-! strings, as rows of bytes -/
abbrev bs (l : List UInt8) : ByteArray := ⟨⟨l⟩⟩
abbrev str (l : List UInt8) : Value := .string (bs l)
theorem bs_toList (l : List UInt8) : (bs l).toList = l := by rw [ByteArray.toList_eq]
theorem bs_size (l : List UInt8) : (bs l).size = l.length := rfl
theorem bs_of (s : ByteArray) : s = bs s.data.toList := rfl
theorem bs_append (a b : List UInt8) : bs a ++ bs b = bs (a ++ b) := by
  have : (bs a ++ bs b).data.toList = a ++ b := by rw [ByteArray.data_append]; simp
  rw [bs_of (bs a ++ bs b), this]
theorem bs_extract (l : List UInt8) (i j : Nat) : (bs l).extract i j = bs ((l.take j).drop i) := by
  have : ((bs l).extract i j).data.toList = (l.take j).drop i := by rw [ByteArray.data_extract]; simp [List.drop_take]
  rw [bs_of ((bs l).extract i j), this]
def strLt (a b : List UInt8) : Bool := Op.bytesLess a b
section strs
variable {t u : TypeId} {x y : Operand} {a b r : List UInt8}
theorem run_cat (hx : ev T x = some (str a)) (hy : ev T y = some (str b)) (hb : a.length + b.length ≤ 9223372036854775807) : Run P n D T w ⟨dst, .binOp .add t x y u, ty, pos, aft, none⟩ (str (a ++ b)) w := fun c f => by
  have : ¬ (IntKind.i64.max < (((bs a).size + (bs b).size : Nat) : Int)) := by
    rw [bs_size, bs_size]; simp only [IntKind.max, IntKind.signed, IntKind.bits]; omega
  simp only [execOp, f.ev hx, f.ev hy, Sem.run_bind, eqGuard]
  simp only [binOp, Op.stringOp, bs_append]
  simp [this]
  rw [bs_size, bs_size]; omega
theorem run_eqlS (hx : ev T x = some (str a)) (hy : ev T y = some (str b)) : Run P n D T w ⟨dst, .binOp .eql t x y u, ty, pos, aft, none⟩ (.bool (decide (a = b))) w := fun c f => by
  have : (a == b) = decide (a = b) := by by_cases h : a = b <;> simp [h]
  simp [execOp, f.ev hx, f.ev hy, eqGuard, binOp, Op.stringOp, ByteArray.toList_eq, this]
theorem run_neqS (hx : ev T x = some (str a)) (hy : ev T y = some (str b)) : Run P n D T w ⟨dst, .binOp .neq t x y u, ty, pos, aft, none⟩ (.bool (decide (¬ a = b))) w := fun c f => by
  have : (!(a == b)) = decide (¬ a = b) := by by_cases h : a = b <;> simp [h]
  simp only [execOp, f.ev hx, f.ev hy, eqGuard, binOp, Op.stringOp, ByteArray.toList_eq, this]; simp
theorem run_lssS (hx : ev T x = some (str a)) (hy : ev T y = some (str b)) : Run P n D T w ⟨dst, .binOp .lss t x y u, ty, pos, aft, none⟩ (.bool (strLt a b)) w := fun c f => by
  simp [execOp, f.ev hx, f.ev hy, eqGuard, binOp, Op.stringOp, ByteArray.toList_eq, strLt]
theorem run_gtrS (hx : ev T x = some (str a)) (hy : ev T y = some (str b)) : Run P n D T w ⟨dst, .binOp .gtr t x y u, ty, pos, aft, none⟩ (.bool (!(strLt a b || decide (a = b)))) w := fun c f => by
  have : (a == b) = decide (a = b) := by by_cases h : a = b <;> simp [h]
  simp only [execOp, f.ev hx, f.ev hy, eqGuard, binOp, Op.stringOp, ByteArray.toList_eq, strLt, this]; simp
theorem run_leqS (hx : ev T x = some (str a)) (hy : ev T y = some (str b)) : Run P n D T w ⟨dst, .binOp .leq t x y u, ty, pos, aft, none⟩ (.bool (strLt a b || decide (a = b))) w := fun c f => by
  have : (a == b) = decide (a = b) := by by_cases h : a = b <;> simp [h]
  simp only [execOp, f.ev hx, f.ev hy, eqGuard, binOp, Op.stringOp, ByteArray.toList_eq, strLt, this]; simp
theorem run_indexS {k : IntKind} {i : Int} {c : UInt8} (ht : P.underlying t = some .string) (hx : ev T x = some (str a)) (hy : ev T y = some (.int k i)) (h0 : 0 ≤ i) (hi : a[i.toNat]? = some c) : Run P n D T w ⟨dst, .index t x y, ty, pos, aft, none⟩ (.int .u8 c.toNat) w := fun q f => by
  have hlt := (List.getElem?_eq_some_iff.1 hi).1
  have he := (List.getElem?_eq_some_iff.1 hi).2
  have hs : 0 ≤ i ∧ i < (bs a).size := ⟨h0, by rw [bs_size]; omega⟩
  have hg : (bs a)[i.toNat]'(by rw [bs_size]; exact hlt) = c := he
  simp only [execOp, f.ev hx, f.ev hy, Sem.run_bind, run_index_string w t (bs a) k i ht, dif_pos hs, Result.andThen_ok, hg]
  rfl
theorem run_lenS {ts : Array TypeId} (hts : ts = #[t]) (ht : P.underlying t = some .string) (hx : ev T x = some (str a)) : Run P n D T w ⟨dst, .call ⟨.builtin .len, #[x], ts⟩, ty, pos, aft, none⟩ (.int .i64 a.length) w := fun c f => by
  subst hts
  simp [execOp, resolve, f.ev hx, invoke, builtin, Builtin.len_, run_underlying ht, goInt, bs_size]
/-- A piece of a string: from i up to j. -/
theorem run_sliceS {lo hi : Option Operand} {i j : Nat} (ht : P.underlying t = some .string) (hx : ev T x = some (str a))
    (hl : match lo with | none => i = 0 | some o => ∃ k, ev T o = some (.int k (i : Int))) (hh : match hi with | none => j = a.length | some o => ∃ k, ev T o = some (.int k (j : Int))) (hij : i ≤ j) (hj : j ≤ a.length) (hr : (a.take j).drop i = r) :
    Run P n D T w ⟨dst, .slice t x lo hi none, ty, pos, aft, none⟩ (str r) w := fun c f => by
  subst hr
  have e1 : ∀ (k : IntKind) (y : Nat) (m : Nat) (cd : BoundsCode), m ≤ y → (Instr.sliceBound (.int k (m : Int)) y cd).run P w = .ok m w := fun k y m cd h => by
    have : (0 : Int) ≤ m ∧ (m : Int) ≤ y := by omega
    simp [Instr.sliceBound, asIntOf, h]
  have hjs : j ≤ (bs a).size := hj
  cases lo with
  | none =>
    simp only at hl; subst hl
    cases hi with
    | none => simp only at hh; subst hh; simp [execOp, f.ev hx, Instr.sliceAt, run_underlying ht, Instr.slice, Instr.sliceBounds, bs_extract, bs_size]
    | some o => obtain ⟨k, hk⟩ := hh; simp [execOp, f.ev hx, f.ev hk, Instr.sliceAt, run_underlying ht, Instr.slice, Instr.sliceBounds, bs_extract, e1, hjs]
  | some p =>
    obtain ⟨kp, hp⟩ := hl
    cases hi with
    | none => simp only at hh; subst hh; simp [execOp, f.ev hx, f.ev hp, Instr.sliceAt, run_underlying ht, Instr.slice, Instr.sliceBounds, bs_extract, bs_size, e1, hij]
    | some o => obtain ⟨k, hk⟩ := hh; simp [execOp, f.ev hx, f.ev hk, f.ev hp, Instr.sliceAt, run_underlying ht, Instr.slice, Instr.sliceBounds, bs_extract, e1, hjs, hij]
end strs
/-! addresses -/
/-- A place j cells behind an address. -/
def adr (a : Option Addr) (j : Nat) : Addr := match a with
  | some p => ⟨p.block, p.off + j, none⟩
  | none => ⟨0, 0, none⟩
theorem run_nilCheck {x : Operand} {p : Addr} (hx : ev T x = some (.pointer (some p))) : Run P n D T w ⟨dst, .nilCheck x, ty, pos, aft, none⟩ (.pointer (some p)) w := fun c f => by simp [execOp, f.ev hx]
def fieldB (P : Program) (s : TypeId) (i : Nat) : Option Nat := match P.underlying s with
  | some (.struct fs) => match fs[i]? with
    | some f => match P.info? f.type with
      | some j => if j.size = 0 then none else some f.offset
      | none => none
    | none => none
  | _ => none
theorem run_fieldAddr {s : TypeId} {x : Operand} {i k : Nat} {p q : Addr} (hf : fieldB P s i = some k) (hx : ev T x = some (.pointer (some p))) (hq : p.add k = q) : Run P n D T w ⟨dst, .fieldAddr s x i, ty, pos, aft, none⟩ (.pointer (some q)) w := fun c f => by
  unfold fieldB at hf
  split at hf
  · rename_i fs hu
    split at hf
    · rename_i fd hfd
      split at hf
      · rename_i j hj
        split at hf
        · cases hf
        · rename_i hne
          cases hf
          simp only [execOp, f.ev hx, Instr.fieldAt, Sem.run_bind, run_underlying hu, Result.andThen_ok]
          simp only [hfd, Instr.sureAddr, fieldPlace, sizeOf, typeInfo, Sem.run_bind, Sem.run_pure, Result.andThen_ok]
          simp [hj, hne, hq]
      · cases hf
    · cases hf
  · cases hf
theorem run_indexAddr {t e : TypeId} {x y : Operand} {k : IntKind} {i : Int} {a : Option Addr} {m cap sz : Nat} {q : Addr} (ht : P.underlying t = some (.slice e)) (hs : (P.info? e).map (·.size) = some sz)
    (hx : ev T x = some (.slice a m cap)) (hy : ev T y = some (.int k i)) (h0 : 0 ≤ i) (hi : i < m) (ha : ∃ p, a = some p ∧ p.spot = none) (hq : adr a (i.toNat * sz) = q) : Run P n D T w ⟨dst, .indexAddr t x y, ty, pos, aft, none⟩ (.pointer (some q)) w := fun c f => by
  obtain ⟨p, rfl, hp⟩ := ha
  obtain ⟨j, hj, hjs⟩ := Option.map_eq_some_iff.1 hs
  have h : 0 ≤ i ∧ i < (m : Int) := ⟨h0, hi⟩
  have hadd : p.add (i.toNat * sz) = q := by
    subst hq
    unfold Addr.add adr
    split
    · rename_i hz; rw [hz]; obtain ⟨b, o, s⟩ := p; simp at hp; subst hp; rfl
    · rfl
  simp only [execOp, f.ev hx, f.ev hy, Instr.indexAt, asIntOf, Sem.run_bind, run_underlying ht, Result.andThen_ok, Sem.run_pure]
  simp [h, sizeOf, typeInfo, hj, hjs, hadd]
theorem run_len {t e : TypeId} {x : Operand} {a : Option Addr} {m cap : Nat} {ts : Array TypeId} (hts : ts = #[t]) (ht : P.underlying t = some (.slice e)) (hx : ev T x = some (.slice a m cap)) : Run P n D T w ⟨dst, .call ⟨.builtin .len, #[x], ts⟩, ty, pos, aft, none⟩ (.int .i64 m) w := fun c f => by
  subst hts
  simp [execOp, resolve, f.ev hx, invoke, builtin, Builtin.len_, run_underlying ht, goInt]
/-- A piece of a slice. -/
theorem run_sliceL {t e : TypeId} {x : Operand} {lo hi : Option Operand} {i j m cap sz : Nat} {a : Option Addr} (ht : P.underlying t = some (.slice e)) (hs : (P.info? e).map (·.size) = some sz) (hx : ev T x = some (.slice a m cap))
    (hl : match lo with | none => i = 0 | some o => ∃ k, ev T o = some (.int k (i : Int))) (hh : match hi with | none => j = m | some o => ∃ k, ev T o = some (.int k (j : Int))) (hij : i ≤ j) (hj : j ≤ cap) :
    Run P n D T w ⟨dst, .slice t x lo hi none, ty, pos, aft, none⟩ (.slice (if cap = i then a else a.map (·.add (i * sz))) (j - i) (cap - i)) w := fun c f => by
  obtain ⟨q, hq, hqs⟩ := Option.map_eq_some_iff.1 hs
  have e1 : ∀ (k : IntKind) (y : Nat) (m : Nat) (cd : BoundsCode), m ≤ y → (Instr.sliceBound (.int k (m : Int)) y cd).run P w = .ok m w := fun k y m cd h => by
    have : (0 : Int) ≤ m ∧ (m : Int) ≤ y := by omega
    simp [Instr.sliceBound, asIntOf, h]
  have hz : (sizeOf e).run P w = .ok sz w := by simp [sizeOf, typeInfo, hq, hqs]
  cases lo with
  | none =>
    simp only at hl; subst hl
    cases hi with
    | none => simp only at hh; subst hh; simp [execOp, f.ev hx, Instr.sliceAt, run_underlying ht, Instr.slice, Instr.sliceBounds, hz]
    | some o => obtain ⟨k, hk⟩ := hh; simp [execOp, f.ev hx, f.ev hk, Instr.sliceAt, run_underlying ht, Instr.slice, Instr.sliceBounds, e1, hj, hz]
  | some p =>
    obtain ⟨kp, hp⟩ := hl
    cases hi with
    | none => simp only at hh; subst hh; simp [execOp, f.ev hx, f.ev hp, Instr.sliceAt, run_underlying ht, Instr.slice, Instr.sliceBounds, e1, hij, hz]
    | some o => obtain ⟨k, hk⟩ := hh; simp [execOp, f.ev hx, f.ev hk, f.ev hp, Instr.sliceAt, run_underlying ht, Instr.slice, Instr.sliceBounds, e1, hj, hij, hz]
/-! comparisons with nil -/
theorem run_eqlNilP {t u e : TypeId} {x y : Operand} {p : Option Addr} (ht : P.underlying t = some (.pointer e)) (hx : ev T x = some (.pointer p)) (hy : ev T y = some (.pointer none)) : Run P n D T w ⟨dst, .binOp .eql t x y u, ty, pos, aft, none⟩ (.bool p.isNone) w := fun c f => by
  have : P.underlying t = some (.pointer (P.pointee t)) := by rw [ht]; simp [Program.pointee, ht]
  simp only [execOp, f.ev hx, f.ev hy, Sem.run_bind, eqGuard]
  simp [run_eql_pointer_nil w t p this]
theorem run_neqNilP {t u e : TypeId} {x y : Operand} {p : Option Addr} (ht : P.underlying t = some (.pointer e)) (hx : ev T x = some (.pointer p)) (hy : ev T y = some (.pointer none)) : Run P n D T w ⟨dst, .binOp .neq t x y u, ty, pos, aft, none⟩ (.bool (!p.isNone)) w := fun c f => by
  have : P.underlying t = some (.pointer (P.pointee t)) := by rw [ht]; simp [Program.pointee, ht]
  simp only [execOp, f.ev hx, f.ev hy, Sem.run_bind, eqGuard]
  simp [run_neq_pointer_nil w t p this]
theorem run_eqlNilL {t u e : TypeId} {x y : Operand} {a : Option Addr} {m cp : Nat} (ht : P.underlying t = some (.slice e)) (hx : ev T x = some (.slice a m cp)) (hy : ev T y = some (.slice none 0 0)) : Run P n D T w ⟨dst, .binOp .eql t x y u, ty, pos, aft, none⟩ (.bool a.isNone) w := fun c f => by
  simp only [execOp, f.ev hx, f.ev hy, Sem.run_bind, eqGuard]
  simp [Lib.run_eql_slice_nil w t e a m cp 0 0 ht]
/-! what is made out of parts, by one closed equation -/
def evp (T : Tm) : List (Nat × Operand) → Option (List (Nat × Value))
  | [] => some []
  | (i, x) :: l => match ev T x, evp T l with
    | some v, some vs => some ((i, v) :: vs)
    | _, _ => none
theorem Fits.evp {a : Act} (h : Fits n D T a) : ∀ {l : List (Nat × Operand)} {vs : List (Nat × Value)}, evp T l = some vs → l.map (fun p => (p.1, a.eval p.2)) = vs
  | [], _, e => by cases e; rfl
  | (i, x) :: l, vs, e => by
    unfold SL.evp at e
    cases h1 : SL.ev T x with
    | none => rw [h1] at e; cases e
    | some v =>
      cases h2 : SL.evp T l with
      | none => rw [h1, h2] at e; cases e
      | some us =>
        rw [h1, h2] at e
        cases e
        rw [List.map_cons, h.ev h1, h.evp h2]
theorem run_build {t : TypeId} {ps : Array (Nat × Operand)} {vs : List (Nat × Value)} {v : Value} (hp : evp T ps.toList = some vs) (hb : ∀ w, (Instr.build t vs.toArray).run P w = .ok v w) : Run P n D T w ⟨dst, .build t ps, ty, pos, aft, none⟩ v w := fun c f => by
  have h2 : ps.map (fun p => (p.1, c.eval p.2)) = vs.toArray := by rw [← f.evp hp]; apply Array.ext'; simp
  have h3 : (ps.map fun (i, x) => (i, c.eval x)) = vs.toArray := h2
  simp [execOp, h3, hb]
theorem run_makeFunc {fn : Go.Fn} {a b : Array Operand} {us vs : List Value} (ha : evs T a.toList = some us) (hb : evs T b.toList = some vs) : Run P n D T w ⟨dst, .makeFunc fn a b, ty, pos, aft, none⟩ (.func fn us.toArray vs.toArray) w := fun c f => by
  have h1 : a.map c.eval = us.toArray := by rw [← f.evs ha]; apply Array.ext'; simp
  have h2 : b.map c.eval = vs.toArray := by rw [← f.evs hb]; apply Array.ext'; simp
  simp [execOp, Instr.makeFunc, h1, h2]
theorem run_makeIface {t : TypeId} {x : Operand} {v : Value} (ht : ∃ d, P.underlying t = some d ∧ ∀ ms, d ≠ .interface ms) (hx : ev T x = some v) : Run P n D T w ⟨dst, .makeInterface t x, ty, pos, aft, none⟩ (.iface t v) w := fun c f => by
  obtain ⟨d, hd, hn⟩ := ht
  simp only [execOp, f.ev hx, Instr.makeInterface, Sem.run_bind, run_underlying hd, Result.andThen_ok]
  cases d <;> first | rfl | (exact absurd rfl (hn _))
end
end Go.Proofs.YtidoidoelgfnaaaGreatDoor.SL

/- Rules for operations on memory: cells that are owned, slices that are owned or sealed. -/
namespace Go.Proofs.YtidoidoelgfnaaaGreatDoor.SL
open Go.RowKit
set_option linter.unusedVariables false
set_option linter.unusedSimpArgs false
/-- No cell of the row may not be written. -/
def Free (fr : Nat × Nat) (m : Nat) : Prop := ∀ j, j < m → (decide (fr.1 ≤ j) && decide (j < fr.2)) = false
theorem free_none (m : Nat) : Free (0, 0) m := fun j _ => by simp
/-- An owned block with these cells. -/
def cel (g : Nat) (l : List Value) (t : TypeId) : HP := .ex fun fr : Nat × Nat => .sep (.pure (Free fr l.length)) (.blk g (.cells l.toArray t fr))
/-- A sealed block with these cells. -/
def scel (g : Nat) (l : List Value) (t : TypeId) : HP := .ex fun fr : Nat × Nat => .seal g (.cells l.toArray t fr)
variable {B w : World} {L : List HP}
theorem St.cel_open {g : Nat} {l : List Value} {t : TypeId} (h : St B (cel g l t :: L) w) : ∃ fr, Free fr l.length ∧ St B (.blk g (.cells l.toArray t fr) :: L) w := by
  obtain ⟨fr, h1⟩ := h.ex
  obtain ⟨h2, h3⟩ := h1.sep.pure
  exact ⟨fr, h2, h3⟩
theorem St.cel_shut {g : Nat} {l : List Value} {t : TypeId} {fr : Nat × Nat} (hf : Free fr l.length) (h : St B (.blk g (.cells l.toArray t fr) :: L) w) : St B (cel g l t :: L) w :=
  (St.join (St.addPure hf h)).give fr
theorem St.cel_seal {g : Nat} {l : List Value} {t : TypeId} (h : St B (cel g l t :: L) w) : St B (scel g l t :: L) w := by
  obtain ⟨fr, _, h1⟩ := h.cel_open
  exact h1.toSeal.give fr
theorem cell_row {w : World} {g : Nat} {l : List Value} {t : TypeId} {fr : Nat × Nat} (h : w.heap[g]? = some (.cells l.toArray t fr)) (j : Nat) : w.cell? ⟨g, j, none⟩ = l[j]? := by
  rw [cell_of_row w g j l.toArray t fr h]; simp
theorem St.cel_at {g : Nat} {l : List Value} {t : TypeId} (h : St B L w) (i : Nat) (hi : nth L i = some (cel g l t)) (j : Nat) : w.cell? ⟨g, j, none⟩ = l[j]? := by
  obtain ⟨fr, _, h1⟩ := (h.focus i hi).cel_open
  exact cell_row h1.at j
section
variable {P : Program} {n : Nat} {D : List Deferred} {T : Tm} {dst : Option Nat} {ty : TypeId} {pos : String} {aft : Array Edge}
/-- Is the type's value one of many cells? -/
def aggB (P : Program) (t : TypeId) : Option Bool := match P.underlying t with
  | some (.struct _) => some true
  | some (.array _ _) => some true
  | some _ => some false
  | none => none
theorem run_isAgg {t : TypeId} {b : Bool} (h : aggB P t = some b) (w : World) : (isAgg t).run P w = .ok b w := by
  unfold aggB at h
  cases hu : P.underlying t with
  | none => rw [hu] at h; cases h
  | some d =>
    simp only [isAgg, Sem.run_bind, run_underlying hu, Result.andThen_ok]
    rw [hu] at h
    cases d <;> cases h <;> rfl
def sizeB (P : Program) (t : TypeId) : Option Nat := (P.info? t).map (·.size)
theorem run_sizeOf {t : TypeId} {k : Nat} (h : sizeB P t = some k) (w : World) : (sizeOf t).run P w = .ok k w := by
  obtain ⟨j, hj, hk⟩ := Option.map_eq_some_iff.1 h
  simp [sizeOf, typeInfo, hj, hk]
theorem run_load {t : TypeId} {x : Operand} {p : Addr} {v : Value} (ha : aggB P t = some false) (hx : ev T x = some (.pointer (some p))) (hc : w.cell? p = some v) : Run P n D T w ⟨dst, .load t x, ty, pos, aft, none⟩ v w := fun c f => by
  simp [execOp, f.ev hx, Instr.loadAt, Instr.sureAddr, loadVar, run_isAgg ha, load, Sem.run, hc]
theorem run_loadCellsFrom {a : Addr} {vs : List Value} (h : ∀ j, j < vs.length → w.cell? (a.add j) = vs[j]?) : ∀ (m i : Nat) (acc : Array Value), i + m = vs.length → (loadCellsFrom a i m acc).run P w = .ok (acc ++ (vs.drop i).toArray) w
  | 0, i, acc, e => by
    have : vs.drop i = [] := List.drop_eq_nil_of_le (by omega)
    simp [loadCellsFrom, this]
  | m + 1, i, acc, e => by
    have hi : i < vs.length := by omega
    have hc : w.cell? (a.add i) = some vs[i] := by rw [h i hi, List.getElem?_eq_getElem hi]
    have hd : vs.drop i = vs[i] :: vs.drop (i + 1) := List.drop_eq_getElem_cons hi
    unfold loadCellsFrom
    simp only [Sem.run_bind, load, Sem.run, hc, Result.andThen_ok]
    rw [run_loadCellsFrom h m (i + 1) _ (by omega), hd]
    simp
theorem run_loadCells {a : Addr} {vs : List Value} {m : Nat} (hm : vs.length = m) (h : ∀ j, j < vs.length → w.cell? (a.add j) = vs[j]?) : (loadCells a m).run P w = .ok vs.toArray w := by
  unfold loadCells
  rw [run_loadCellsFrom h m 0 #[] (by omega)]
  simp
theorem run_loadAgg {t : TypeId} {x : Operand} {p : Addr} {k : Nat} {vs : List Value} (ha : aggB P t = some true) (hs : sizeB P t = some k) (hx : ev T x = some (.pointer (some p))) (hk : vs.length = k) (hc : ∀ j, j < vs.length → w.cell? (p.add j) = vs[j]?) : Run P n D T w ⟨dst, .load t x, ty, pos, aft, none⟩ (.agg vs.toArray) w := fun c f => by
  simp [execOp, f.ev hx, Instr.loadAt, Instr.sureAddr, loadVar, run_isAgg ha, run_sizeOf hs, run_loadCells hk hc]
theorem add_adr {g o j : Nat} : (⟨g, o, none⟩ : Addr).add j = ⟨g, o + j, none⟩ := by unfold Addr.add; split <;> simp_all
theorem adr_add (a : Option Addr) (h : a.isSome = true) (i j : Nat) : (adr a i).add j = adr a (i + j) := by
  cases a with
  | none => cases h
  | some p => simp only [adr, add_adr, Nat.add_assoc]
/-! What a store does. -/
/-- A row with some cells laid anew. -/
def splice (l : List Value) (o : Nat) (vs : List Value) : List Value := l.take o ++ vs ++ l.drop (o + vs.length)
theorem splice_length {l : List Value} {o : Nat} {vs : List Value} (h : o + vs.length ≤ l.length) : (splice l o vs).length = l.length := by simp [splice]; omega
theorem splice_cons {l : List Value} {o : Nat} {v : Value} {vs : List Value} (h : o + (v :: vs).length ≤ l.length) : splice (l.set o v) (o + 1) vs = splice l o (v :: vs) := by
  unfold splice
  have h' : o < l.length := by simp at h; omega
  have e1 : (l.set o v).take (o + 1) = l.take o ++ [v] := by
    rw [List.take_set, List.take_succ_eq_append_getElem h', List.set_append_right _ _ (by rw [List.length_take]; omega)]
    simp [Nat.min_eq_left (Nat.le_of_lt h')]
  have e2 : (l.set o v).drop (o + 1 + vs.length) = l.drop (o + (v :: vs).length) := by
    rw [List.drop_set, if_pos (by omega)]
    congr 1
    simp; omega
  rw [e1, e2]; simp
def noAgg : Value → Bool
  | .agg _ => false
  | .tuple _ => false
  | _ => true
theorem run_store1 {p : Addr} {v u : Value} {w : World} (hn : noAgg v = true) (hc : w.cell? p = some u) (hf : w.frozen? p = false) : (store p v).run P w = .ok () (w.setCell p v) := by
  cases v <;> first | (cases hn; done) | simp [store, Sem.run, hc, hf]
theorem setCell_row {w : World} {g o : Nat} {l : List Value} {t : TypeId} {fr : Nat × Nat} {v : Value} (h : w.heap[g]? = some (.cells l.toArray t fr)) : (w.setCell ⟨g, o, none⟩ v).heap[g]? = some (.cells (l.set o v).toArray t fr) := by
  simp [World.setCell, Array.getElem?_modify, h]
theorem setCell_far {w : World} {g o k : Nat} {v : Value} (hk : k ≠ g) : (w.setCell ⟨g, o, none⟩ v).heap[k]? = w.heap[k]? := by
  simp only [World.setCell, Array.getElem?_modify]
  rw [if_neg (by simpa using fun e => hk e.symm)]
theorem St.store1 {g o : Nat} {l : List Value} {t : TypeId} {v : Value} (h : St B (cel g l t :: L) w) (ho : o < l.length) : St B (cel g (l.set o v) t :: L) (w.setCell ⟨g, o, none⟩ v) := by
  obtain ⟨fr, hf, h1⟩ := h.cel_open
  exact St.cel_shut (by simpa using hf) (h1.write (fun k hk => setCell_far hk) (setCell_row h1.at) rfl rfl rfl)
theorem run_storeCells {g : Nat} {t : TypeId} : ∀ (vs : List Value) {w : World} {l : List Value} {o i : Nat}, (vs.all noAgg = true) → o + i + vs.length ≤ l.length → St B (cel g l t :: L) w →
    ∃ w', (storeCells ⟨g, o, none⟩ vs i).run P w = .ok () w' ∧ St B (cel g (splice l (o + i) vs) t :: L) w'
  | [], w, l, o, i, _, _, h => ⟨w, by simp [storeCells], by simpa [splice] using h⟩
  | v :: vs, w, l, o, i, hn, hl, h => by
    simp only [List.all_cons, Bool.and_eq_true] at hn
    have ho : o + i < l.length := by simp at hl; omega
    obtain ⟨fr, hf, h1⟩ := h.cel_open
    have hc : w.cell? ⟨g, o + i, none⟩ = some l[o + i] := by rw [cell_row h1.at, List.getElem?_eq_getElem ho]
    have hfz : w.frozen? ⟨g, o + i, none⟩ = false := by simp only [World.frozen?, h1.at]; exact hf _ ho
    obtain ⟨w', e, h'⟩ := run_storeCells vs (o := o) (i := i + 1) hn.2 (by simp at hl ⊢; omega) (h.store1 (v := v) ho)
    refine ⟨w', ?_, ?_⟩
    · unfold storeCells
      rw [Sem.run_bind, add_adr, run_store1 hn.1 hc hfz, Result.andThen_ok]
      exact e
    · rw [← splice_cons (by simp at hl ⊢; omega)]; exact h'
theorem run_storeVar {g o k : Nat} {t u : TypeId} {v : Value} {vs l : List Value} (hs : sizeB P u = some k) (hv : v.cells.toList = vs) (hk : vs.length = k) (hn : vs.all noAgg = true) (ho : o + k ≤ l.length) (h : St B (cel g l t :: L) w) :
    ∃ w', (storeVar u ⟨g, o, none⟩ v).run P w = .ok () w' ∧ St B (cel g (splice l o vs) t :: L) w' := by
  obtain ⟨w', e, h'⟩ := run_storeCells (P := P) vs (o := o) (i := 0) hn (by omega) h
  refine ⟨w', ?_, h'⟩
  have hsz : v.cells.size = k := by rw [← hk, ← hv]; simp
  simp [storeVar, run_sizeOf hs, hsz, hv, e]
variable {ops : Array Oper} {rest : List Oper} {Q : Exit → Act → World → Prop}
/-- A store into a block of one's own. -/
theorem WO.store {u : TypeId} {x y : Operand} {g o k : Nat} {t : TypeId} {v : Value} {vs l l' : List Value} (i : Nat) (hS : St B L w) (hi : nth L i = some (cel g l t)) (hs : sizeB P u = some k)
    (hx : ev T x = some (.pointer (some ⟨g, o, none⟩))) (hy : ev T y = some v) (hv : v.cells.toList = vs) (hk : vs.length = k) (hn : vs.all noAgg = true) (ho : o + k ≤ l.length) (hl : splice l o vs = l')
    (h : ∀ w', St B (put L i (cel g l' t)) w' → WO P n D ops Q rest T w') : WO P n D ops Q (⟨none, .store u x y, ty, pos, aft, none⟩ :: rest) T w := fun a f => by
  obtain ⟨w', e, h'⟩ := run_storeVar (P := P) hs hv hk hn ho (hS.focus i hi)
  subst hl
  exact WO.eff (w' := w') (fun c fc => by simp [execOp, fc.ev hx, fc.ev hy, Instr.storeAt, Instr.sureAddr, e]) rfl rfl (h w' (St.unfocus hi h')) a f
/-! New blocks. -/
theorem St.newCel (h : St B L w) (l : List Value) (t : TypeId) : St B (cel w.heap.size l t :: L) (w.alloc (.cells l.toArray t (0, 0))) :=
  St.cel_shut (free_none _) (h.new (.cells l.toArray t (0, 0)) rfl rfl rfl rfl)
def zeroB (P : Program) (t : TypeId) : Option Value := (P.info? t).bind (·.zero)
theorem run_zero {t : TypeId} {v : Value} (h : zeroB P t = some v) (w : World) : (zeroValue t).run P w = .ok v w := by
  obtain ⟨j, hj, hk⟩ := Option.bind_eq_some_iff.1 h
  simp [zeroValue, typeInfo, hj, hk]
theorem run_newVar (t : TypeId) (v : Value) (w : World) : (newVar t v).run P w = .ok ⟨w.heap.size, 0, none⟩ (w.alloc (.cells v.cells t (0, 0))) := by
  rfl
theorem WO.alloc {e d : Nat} {z : Value} {l : List Value} (hS : St B L w) (hz : zeroB P e = some z) (hl : z.cells = l.toArray) (hn : Nat.blt d n = true)
    (h : ∀ g w', B.heap.size ≤ g → St B (cel g l e :: L) w' → WO P n D ops Q rest ((d, .pointer (some ⟨g, 0, none⟩)) :: T) w') : WO P n D ops Q (⟨some d, .alloc e, ty, pos, aft, none⟩ :: rest) T w :=
  WO.val (v := .pointer (some ⟨w.heap.size, 0, none⟩)) (w' := w.alloc (.cells l.toArray e (0, 0))) (fun c fc => by simp [execOp, Instr.alloc, run_zero hz, run_newVar, hl]) rfl rfl hn (h _ _ hS.below.size (hS.newCel l e))
theorem WO.box {e d : Nat} {x : Operand} {v : Value} {l : List Value} (hS : St B L w) (hx : ev T x = some v) (hl : v.cells = l.toArray) (hn : Nat.blt d n = true)
    (h : ∀ g w', B.heap.size ≤ g → St B (cel g l e :: L) w' → WO P n D ops Q rest ((d, .pointer (some ⟨g, 0, none⟩)) :: T) w') : WO P n D ops Q (⟨some d, .box e x, ty, pos, aft, none⟩ :: rest) T w :=
  WO.val (v := .pointer (some ⟨w.heap.size, 0, none⟩)) (w' := w.alloc (.cells l.toArray e (0, 0))) (fun c fc => by simp [execOp, Instr.box, fc.ev hx, run_newVar, hl]) rfl rfl hn (h _ _ hS.below.size (hS.newCel l e))
/-- A slice out of parts: its block may be written, or be sealed. -/
theorem WO.buildSlice {t e d m : Nat} {ps : Array (Nat × Operand)} {vs : List (Nat × Value)} {l : List Value} (hS : St B L w) (ht : P.underlying t = some (.slice e)) (hp : evp T ps.toList = some vs)
    (hb : ∀ w, (Instr.buildSlice t m vs.toArray).run P w = .ok (.slice (some ⟨w.heap.size, 0, none⟩) m m) (w.alloc (.cells l.toArray e (0, 0)))) (hn : Nat.blt d n = true)
    (h : ∀ g w', B.heap.size ≤ g → St B (cel g l e :: L) w' → WO P n D ops Q rest ((d, .slice (some ⟨g, 0, none⟩) m m) :: T) w') : WO P n D ops Q (⟨some d, .buildSlice t m ps, ty, pos, aft, none⟩ :: rest) T w :=
  WO.val (v := .slice (some ⟨w.heap.size, 0, none⟩) m m) (w' := w.alloc (.cells l.toArray e (0, 0))) (fun c fc => by
    have h2 : ps.map (fun p => (p.1, c.eval p.2)) = vs.toArray := by rw [← fc.evp hp]; apply Array.ext'; simp
    have h3 : (ps.map fun (i, x) => (i, c.eval x)) = vs.toArray := h2
    simp [execOp, h3, hb]) rfl rfl hn (h _ _ hS.below.size (hS.newCel l e))
end
end Go.Proofs.YtidoidoelgfnaaaGreatDoor.SL

/- Slices that are owned: reading, writing, appending, making; bytes and strings; copy. -/
namespace Go.Proofs.YtidoidoelgfnaaaGreatDoor.SL
open Go.RowKit
set_option linter.unusedVariables false
set_option linter.unusedSimpArgs false
/-- An owned slice: n elements of k cells each, l all their cells; cap more room; x what lies ahead and behind in the array. -/
def own (a : Option Addr) (n cap : Nat) (t : TypeId) (k : Nat) (l : List Value) : HP := match a with
  | none => .pure (n = 0 ∧ cap = 0 ∧ l = [])
  | some p => .ex fun x : List Value × List Value => .sep (.pure (p.spot = none ∧ p.off = x.1.length ∧ l.length = n * k ∧ n ≤ cap ∧ l.length + x.2.length = cap * k)) (cel p.block (x.1 ++ (l ++ x.2)) t)
/-- A sealed slice. -/
def ro (a : Option Addr) (n : Nat) (t : TypeId) (k : Nat) (l : List Value) : HP := match a with
  | none => .pure (n = 0 ∧ l = [])
  | some p => .ex fun x : List Value × List Value => .sep (.pure (p.spot = none ∧ p.off = x.1.length ∧ l.length = n * k)) (scel p.block (x.1 ++ (l ++ x.2)) t)
variable {B w : World} {L : List HP}
theorem St.own_seal {a : Option Addr} {n cap k : Nat} {t : TypeId} {l : List Value} (h : St B (own a n cap t k l :: L) w) : St B (ro a n t k l :: L) w := by
  cases a with
  | none => obtain ⟨⟨h1, _, h2⟩, h3⟩ := h.pure; exact h3.addPure ⟨h1, h2⟩
  | some p =>
    obtain ⟨x, hx⟩ := h.ex
    obtain ⟨h1, h2⟩ := hx.sep.pure
    exact (St.join (St.addPure ⟨h1.1, h1.2.1, h1.2.2.1⟩ h2.cel_seal)).give x
/-- What one knows of a slice that may be read. -/
def Rd (w : World) (a : Option Addr) (n k : Nat) (l : List Value) : Prop := l.length = n * k ∧ (0 < n → ∃ p, a = some p ∧ p.spot = none) ∧ ∀ j, j < n * k → w.cell? (adr a j) = l[j]?
theorem St.own_rd {a : Option Addr} {n cap k : Nat} {t : TypeId} {l : List Value} (h : St B (own a n cap t k l :: L) w) : Rd w a n k l ∧ n ≤ cap := by
  cases a with
  | none =>
    obtain ⟨⟨rfl, rfl, rfl⟩, _⟩ := h.pure
    exact ⟨⟨by simp, fun h => by omega, fun j hj => by omega⟩, Nat.le_refl _⟩
  | some p =>
    obtain ⟨x, hx⟩ := h.ex
    obtain ⟨⟨h1, h2, h3, h4, h5⟩, h6⟩ := hx.sep.pure
    refine ⟨⟨h3, fun _ => ⟨p, rfl, h1⟩, fun j hj => ?_⟩, h4⟩
    obtain ⟨fr, _, h7⟩ := h6.cel_open
    show w.cell? ⟨p.block, p.off + j, none⟩ = _
    rw [cell_row h7.at, h2, List.getElem?_append_right (by omega), List.getElem?_append_left (by omega)]
    congr 1; omega
theorem St.own_rd_i {a : Option Addr} {n cap k : Nat} {t : TypeId} {l : List Value} (h : St B L w) (i : Nat) (hi : nth L i = some (own a n cap t k l)) : Rd w a n k l := (h.focus i hi).own_rd.1
theorem St.own_le_i {a : Option Addr} {n cap k : Nat} {t : TypeId} {l : List Value} (h : St B L w) (i : Nat) (hi : nth L i = some (own a n cap t k l)) : n ≤ cap := (h.focus i hi).own_rd.2
theorem Rd.cell {a : Option Addr} {n k : Nat} {l : List Value} (h : Rd w a n k l) {j : Nat} {v : Value} (hv : l[j]? = some v) : w.cell? (adr a j) = some v := by
  rw [h.2.2 j (by rw [← h.1]; exact (List.getElem?_eq_some_iff.1 hv).1), hv]
theorem Rd.cells {a : Option Addr} {n k : Nat} {l : List Value} (h : Rd w a n k l) {o m : Nat} (ho : o + m ≤ l.length) {vs : List Value} (hv : (l.drop o).take m = vs) : vs.length = m ∧ ∀ j, j < vs.length → w.cell? ((adr a o).add j) = vs[j]? := by
  subst hv
  have hl : ((l.drop o).take m).length = m := by rw [List.length_take, List.length_drop]; omega
  refine ⟨hl, fun j hj => ?_⟩
  have hj' : o + j < n * k := by rw [← h.1]; omega
  have hn : 0 < n := by rcases Nat.eq_zero_or_pos n with e | e; · subst e; simp at hj'
                        · exact e
  obtain ⟨p, rfl, _⟩ := h.2.1 hn
  rw [adr_add (some p) rfl, h.2.2 (o + j) hj', List.getElem?_take_of_lt (by omega), List.getElem?_drop]
theorem St.own_nil (t : TypeId) (k : Nat) (h : St B L w) : St B (own none 0 0 t k [] :: L) w := h.addPure ⟨rfl, rfl, rfl⟩
theorem St.own_of_cel {g m k : Nat} {l : List Value} {t : TypeId} (h : St B (cel g l t :: L) w) (hl : l.length = m * k) : St B (own (some ⟨g, 0, none⟩) m m t k l :: L) w := by
  refine (St.join (St.addPure ⟨rfl, rfl, hl, Nat.le_refl _, by simp [hl]⟩ ?_)).give ([], [])
  simpa using h
section
variable {P : Program} {n : Nat} {D : List Deferred} {T : Tm} {dst : Option Nat} {ty : TypeId} {pos : String} {aft : Array Edge} {ops : Array Oper} {rest : List Oper} {Q : Exit → Act → World → Prop}
/-- A store into an element. -/
theorem WO.storeOwn {u : TypeId} {x y : Operand} {a : Option Addr} {m cap o k sz : Nat} {t : TypeId} {v : Value} {vs l l' : List Value} (i : Nat) (hS : St B L w) (hi : nth L i = some (own a m cap t k l)) (hs : sizeB P u = some sz)
    (hx : ev T x = some (.pointer (some (adr a o)))) (hy : ev T y = some v) (hv : v.cells.toList = vs) (hk : vs.length = sz) (hn : vs.all noAgg = true) (hz : 0 < sz) (ho : o + sz ≤ l.length) (hl : splice l o vs = l')
    (h : ∀ w', St B (put L i (own a m cap t k l')) w' → WO P n D ops Q rest T w') : WO P n D ops Q (⟨none, .store u x y, ty, pos, aft, none⟩ :: rest) T w := fun c f => by
  have hF := hS.focus i hi
  cases a with
  | none => obtain ⟨⟨_, _, rfl⟩, _⟩ := hF.pure; simp at ho; omega
  | some p =>
    obtain ⟨q, hq⟩ := hF.ex
    obtain ⟨⟨h1, h2, h3, h4, h5⟩, h6⟩ := hq.sep.pure
    obtain ⟨w', e, h'⟩ := run_storeVar (P := P) (o := p.off + o) hs hv hk hn (by simp; omega) h6
    subst hl
    have hsp : splice (q.1 ++ (l ++ q.2)) (p.off + o) vs = q.1 ++ (splice l o vs ++ q.2) := by
      unfold splice
      rw [h2, List.take_append, List.take_of_length_le (by omega), List.drop_append, List.drop_eq_nil_of_le (by omega)]
      have e1 : q.1.length + o - q.1.length = o := by omega
      have e2 : q.1.length + o + vs.length - q.1.length = o + vs.length := by omega
      rw [e1, e2, List.take_append_of_le_length (by omega), List.drop_append_of_le_length (by omega)]
      simp
    rw [hsp] at h'
    have h'' : St B (own (some p) m cap t k (splice l o vs) :: del L i) w' := by
      refine (St.join (St.addPure ⟨h1, h2, ?_, h4, ?_⟩ h')).give q
      · rw [splice_length (by omega)]; exact h3
      · rw [splice_length (by omega)]; exact h5
    have e2 : (storeVar u (adr (some p) o) v).run P w = .ok () w' := e
    exact WO.eff (w' := w') (fun b fb => by simp [execOp, fb.ev hx, fb.ev hy, Instr.storeAt, Instr.sureAddr, e2]) rfl rfl (h w' (St.unfocus hi h'')) c f
/-- What an append takes. -/
structure Src (P : Program) (w : World) (x : Value) (m k : Nat) (news : List Value) : Prop where
  len : (Builtin.lenOf x).run P w = .ok m w
  cells : ∀ w', w'.heap = w.heap → (Builtin.firstCells k m x).run P w' = .ok news.toArray w'
  size : news.length = m * k
theorem Rd.same {w' : World} (e : w'.heap = w.heap) {a : Option Addr} {n k : Nat} {l : List Value} (h : Rd w a n k l) : Rd w' a n k l :=
  ⟨h.1, h.2.1, fun j hj => by rw [← h.2.2 j hj]; simp [World.cell?, e]⟩
theorem Rd.src {a : Option Addr} {m cap k : Nat} {l : List Value} (h : Rd w a m k l) : Src P w (.slice a m cap) m k l := by
  refine ⟨by simp [Builtin.lenOf], fun w' e => ?_, h.1⟩
  have h' := h.same e
  cases a with
  | none =>
    have hl : l = [] := by
      rcases Nat.eq_zero_or_pos m with e | e
      · subst e; simpa using h.1
      · obtain ⟨p, hp, _⟩ := h.2.1 e; cases hp
    subst hl
    simp [Builtin.firstCells]
  | some p =>
    have := h'.cells (o := 0) (m := l.length) (by omega) (vs := l) (by simp)
    simp only [Builtin.firstCells]
    refine run_loadCells h.1 fun j hj => ?_
    have hn : 0 < m := by rcases Nat.eq_zero_or_pos m with e | e; · subst e; rw [h.1] at hj; simp at hj
                          · exact e
    obtain ⟨p', hp, hs⟩ := h.2.1 hn
    cases hp
    have h2 := this.2 j hj
    rw [adr_add (some p) rfl] at h2
    rw [← h2]
    obtain ⟨b, o, s⟩ := p
    simp only at hs; subst hs
    rw [add_adr]; simp [adr]
theorem str_src (s : List UInt8) : Src P w (str s) s.length 1 (s.map fun b => Value.int .u8 b.toNat) := by
  refine ⟨by simp [Builtin.lenOf, bs_size], fun w' _ => ?_, by simp⟩
  have : (bs s).extract 0 s.length = bs s := by rw [bs_extract]; simp
  simp [Builtin.firstCells, this]
theorem run_append {t u e : TypeId} {du : TypeDesc} {a : Option Addr} {m cap r k bytes : Nat} {x : Value} {z : Value} {l news : List Value} (i : Nat) (ht : P.underlying t = some (.slice e)) (hu : P.underlying u = some du) (hdu : ∀ q, du ≠ .int q)
    (hs : sizeB P e = some k) (hk : 0 < k) (hby : (P.info? e).map (·.bytes) = some bytes) (hz : zeroB P e = some z) (hzs : z.cells.size = k) (hx : Src P w x r k news) (hn : news.all noAgg = true) (hb : (m + r) * bytes ≤ 140737488355328) (hm : m + r ≤ 9223372036854775807)
    (hS : St B L w) (hi : nth L i = some (own a m cap e k l)) :
    ∃ a' cap' w', (Builtin.append_ #[t, u] ty #[.slice a m cap, x]).run P w = .ok (.slice a' (m + r) cap') w' ∧ St B (put L i (own a' (m + r) cap' e k (l ++ news))) w' := by
  have hF := hS.focus i hi
  obtain ⟨⟨hl, hp, _⟩, hle⟩ := hF.own_rd
  have hz0 : (du matches .int _) = false := by cases du <;> first | rfl | exact absurd rfl (hdu _)
  obtain ⟨ie, hie, hie2⟩ := Option.map_eq_some_iff.1 hby
  have hsz : ie.size = k := by simpa [sizeB, hie] using hs
  have hfit : m + r ≤ cap ∨ cap < m + r := by omega
  rcases hfit with hfit | hfit
  · -- there is room
    cases a with
    | none =>
      obtain ⟨⟨rfl, rfl, rfl⟩, h0⟩ := hF.pure
      have hr : r = 0 := by omega
      subst hr
      have hnw : news = [] := by simpa using hx.size
      subst hnw
      refine ⟨none, 0, w, ?_, St.unfocus hi (St.own_nil _ _ h0)⟩
      have hc := hx.cells w rfl
      simp [Builtin.append_, run_underlying ht, run_underlying hu, hz0, run_sizeOf hs, hx.len, hc]
    | some p =>
      obtain ⟨q, hq⟩ := hF.ex
      obtain ⟨⟨h1, h2, h3, h4, h5⟩, h6⟩ := hq.sep.pure
      have hsum : m * k + r * k ≤ cap * k := by rw [← Nat.add_mul]; exact Nat.mul_le_mul_right _ hfit
      obtain ⟨w', e', h'⟩ := run_storeCells (P := P) news (o := p.off + m * k) (i := 0) hn (by simp [hx.size]; omega) h6
      have hsp : splice (q.1 ++ (l ++ q.2)) (p.off + m * k + 0) news = q.1 ++ ((l ++ news) ++ q.2.drop news.length) := by
        unfold splice
        have hlm : p.off + m * k + 0 = (q.1 ++ l).length := by simp; omega
        rw [← List.append_assoc q.1 l q.2, hlm, List.take_left, List.drop_append]
        simp
      rw [hsp] at h'
      refine ⟨some p, cap, w', ?_, St.unfocus hi ((St.join (St.addPure ⟨h1, h2, ?_, hfit, ?_⟩ h')).give (q.1, q.2.drop news.length))⟩
      · have hc := hx.cells w rfl
        have hadd : p.add (m * k) = ⟨p.block, p.off + m * k, none⟩ := by obtain ⟨b, o, s⟩ := p; simp only at h1; subst h1; exact add_adr
        simp [Builtin.append_, run_underlying ht, run_underlying hu, hz0, run_sizeOf hs, hx.len, hc, hfit, hadd, e']
      · simp [hl, hx.size, Nat.add_mul]
      · simp [hl, hx.size]; omega
  · -- a new array
    have hrd : Rd w a m k l := hF.own_rd.1
    have hns : ¬ (m + r ≤ cap) := by omega
    have hg := growslice_fits (bytes := bytes) hfit hb
    have hge := grownCap_ge w (m + r) cap e
    have hold := (hrd.src (P := P) (cap := cap)).cells w.drew rfl
    have hnew := hx.cells w.drew rfl
    have hbig : ¬ (9223372036854775807 < ((m : Int) + (r : Int))) := by omega
    have hg2 : ¬ (281474976710656 < Builtin.nextslicecap (m + r) cap * ie.bytes) := by rw [hie2]; omega
    obtain ⟨iz, hiz, hiz2⟩ := Option.bind_eq_some_iff.1 hz
    rw [hie] at hiz; cases hiz
    have hcells : ((l.toArray ++ news.toArray) ++ Builtin.zeroCells z.cells (grownCap w (m + r) cap e - (m + r))) = ((l ++ news) ++ (Builtin.zeroCells z.cells (grownCap w (m + r) cap e - (m + r))).toList).toArray := by apply Array.ext'; simp
    refine ⟨some ⟨w.heap.size, 0, none⟩, grownCap w (m + r) cap e, w.drew.alloc (.cells ((l.toArray ++ news.toArray) ++ Builtin.zeroCells z.cells (grownCap w (m + r) cap e - (m + r))) e (0, 0)), ?_, St.unfocus hi ?_⟩
    · have hold' : (Builtin.firstCells ie.size m (.slice a m cap)).run P w.drew = .ok l.toArray w.drew := hsz ▸ hold
      have hnew' : (Builtin.firstCells ie.size r x).run P w.drew = .ok news.toArray w.drew := hsz ▸ hnew
      simp [Builtin.append_, run_underlying ht, run_underlying hu, hz0, sizeOf, typeInfo, zeroValue, hie, hiz2, hx.len, hns, hbig, hg2, Question.forced, hold', hnew', newRow, grownCap]
      congr 2
      apply Array.ext'
      simp [List.append_assoc]
    · rw [hcells]
      have hd : St B (del L i) w.drew := hF.drop.drew
      have := hd.newCel ((l ++ news) ++ (Builtin.zeroCells z.cells (grownCap w (m + r) cap e - (m + r))).toList) e
      refine (St.join (St.addPure ⟨rfl, rfl, ?_, hge, ?_⟩ (by simpa using this))).give ([], (Builtin.zeroCells z.cells (grownCap w (m + r) cap e - (m + r))).toList)
      · simp [hl, hx.size, Nat.add_mul]
      · simp [hl, hx.size, size_zeroCells, hzs]
        rw [← Nat.add_mul, ← Nat.add_mul]; congr 1; omega
theorem WO.append {t u e d : TypeId} {du : TypeDesc} {a : Option Addr} {m cap r k bytes : Nat} {s x : Operand} {xv : Value} {z : Value} {l news : List Value} {ts : Array TypeId} (i : Nat) (hts : ts = #[t, u]) (ht : P.underlying t = some (.slice e)) (hu : P.underlying u = some du) (hdu : ∀ q, du ≠ .int q)
    (hs : sizeB P e = some k) (hk : 0 < k) (hby : (P.info? e).map (·.bytes) = some bytes) (hz : zeroB P e = some z) (hzs : z.cells.size = k) (he : ev T s = some (.slice a m cap)) (hex : ev T x = some xv) (hn : Nat.blt d n = true)
    (hS : St B L w) (hi : nth L i = some (own a m cap e k l)) (hx : Src P w xv r k news) (hnn : news.all noAgg = true) (hb : (m + r) * bytes ≤ 140737488355328) (hm : m + r ≤ 9223372036854775807)
    (h : ∀ a' cap' w', St B (put L i (own a' (m + r) cap' e k (l ++ news))) w' → WO P n D ops Q rest ((d, .slice a' (m + r) cap') :: T) w') : WO P n D ops Q (⟨some d, .call ⟨.builtin .append, #[s, x], ts⟩, ty, pos, aft, none⟩ :: rest) T w := fun c f => by
  subst hts
  obtain ⟨a', cap', w', hr, h'⟩ := run_append (P := P) (ty := ty) i ht hu hdu hs hk hby hz hzs hx hnn hb hm hS hi
  exact WO.val (v := .slice a' (m + r) cap') (w' := w') (fun b fb => by simp [execOp, resolve, invoke, builtin, fb.ev he, fb.ev hex, hr]) rfl rfl hn (h a' cap' w' h') c f
/-! bytes and strings -/
theorem run_bytesToStr {t u e : TypeId} {x : Operand} {a : Option Addr} {m cap : Nat} {s : List UInt8} (ht : P.underlying t = some (.slice e)) (he : P.underlying e = some (.int .u8)) (hu : P.underlying u = some .string) (hx : ev T x = some (.slice a m cap)) (hr : Rd w a m 1 (s.map fun b => Value.int .u8 b.toNat)) :
    Run P n D T w ⟨dst, .convert t u x, ty, pos, aft, none⟩ (str s) w := fun c f => by
  have hm : s.length = m := by simpa using hr.1
  have key : (convert t u (.slice a m cap)).run P w = .ok (str s) w := by
    cases a with
    | none =>
      have : m = 0 := by
        rcases Nat.eq_zero_or_pos m with e | e
        · exact e
        · obtain ⟨p, hp, _⟩ := hr.2.1 e; cases hp
      have hs : s = [] := List.eq_nil_of_length_eq_zero (by omega)
      subst hs
      simp [convert, run_underlying ht, run_underlying hu, run_underlying he, Conv.bytesToString]
      rfl
    | some p =>
      obtain ⟨b, o, sp⟩ := p
      have hc : ∀ j, j < (s.map fun b => (b.toNat : Int)).length → w.cell? ⟨b, o + j, none⟩ = some (.int .u8 ((s.map fun b => (b.toNat : Int)).getD j 0)) := fun j hj => by
        have hj' : j < s.length := by simpa using hj
        have := hr.cell (j := j) (v := .int .u8 s[j].toNat) (by simp [hj'])
        rw [show w.cell? ⟨b, o + j, none⟩ = _ from this]
        simp [hj']
      by_cases hm0 : m = 0
      · subst hm0
        have hs : s = [] := List.eq_nil_of_length_eq_zero (by omega)
        subst hs
        simp [convert, run_underlying ht, run_underlying hu, run_underlying he, Conv.bytesToString, loadCells, loadCellsFrom]
        rfl
      · have hsp : sp = none := by obtain ⟨p', hp, h2⟩ := hr.2.1 (by omega); cases hp; exact h2
        subst hsp
        rw [run_convert_bytes_arg (P := P) w t e ht he b o m cap (s.map fun b => (b.toNat : Int)) (by simp [hm]) (fun j hj => hc j (by simpa [hm] using hj)) u hu]
        congr 2
        unfold strOfNums bs
        congr 1
        rw [List.map_map]
        have : ((fun n : Int => UInt8.ofNat n.toNat) ∘ fun b : UInt8 => (b.toNat : Int)) = id := by funext b; simp
        rw [this]; simp
  simp [execOp, f.ev hx, key]
end
end Go.Proofs.YtidoidoelgfnaaaGreatDoor.SL
