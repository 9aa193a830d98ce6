/- How a Net lies in memory: its block, its row of parcels, each parcel's bytes; what its methods may change. -/
import Derived.Test.YtcdbnbdeinhokaaXb
import Derived.Laws.AppendOwn
import Derived.Laws.OwnMore
import Derived.Laws.BytesArg
import Derived.Lib.ConvBytes
import Derived.WalkSmall
set_option linter.unusedVariables false
set_option linter.unusedSimpArgs false
namespace Go.Proofs.Ytcdbnbdeinhokaa.Nb
open Go.RowKit
open Go.Proofs.Ytcdbnbdeinhokaa.Xb
/-- A parcel as it lies there: for whom, the slice of its bytes, spoilt?, and the bytes. -/
structure PV where
  to : Int
  bv : Value
  sp : Bool
  s : ByteArray
def cellsP (p : PV) : List Value := [.int .i64 p.to, p.bv, .bool p.sp]
def cellsL (L : List PV) : List Value := L.flatMap cellsP
theorem cellsL_cons (p : PV) (L : List PV) : cellsL (p :: L) = cellsP p ++ cellsL L := rfl
theorem cellsL_append (L M : List PV) : cellsL (L ++ M) = cellsL L ++ cellsL M := by simp [cellsL]
theorem cellsL_length (L : List PV) : (cellsL L).length = L.length * 3 := by
  induction L with
  | nil => rfl
  | cons p L ih => rw [cellsL_cons, List.length_append, ih]; simp [cellsP]; omega
theorem cellsL_get {L : List PV} {i : Nat} {p : PV} (h : L[i]? = some p) (j : Nat) (hj : j < 3) : (cellsL L)[i * 3 + j]? = (cellsP p)[j]? := by
  induction L generalizing i with
  | nil => simp at h
  | cons q L ih =>
    cases i with
    | zero =>
      simp at h; subst h
      rw [cellsL_cons, List.getElem?_append_left (by simp [cellsP]; omega)]; simp
    | succ i =>
      simp at h
      rw [cellsL_cons, List.getElem?_append_right (by simp [cellsP]; omega)]
      have := ih h
      rw [← this]; congr 1; simp [cellsP]; omega
theorem cellsL_take (L : List PV) (n : Nat) : (cellsL L).take (n * 3) = cellsL (L.take n) := by
  induction L generalizing n with
  | nil => simp [cellsL]
  | cons p L ih =>
    cases n with
    | zero => simp [cellsL]
    | succ n =>
      rw [cellsL_cons, List.take_succ_cons, cellsL_cons, ← ih, List.take_append]
      have e : (cellsP p).length = 3 := rfl
      rw [List.take_of_length_le (by rw [e]; omega), e]
      congr 2; omega
theorem cellsL_set (L : List PV) (i : Nat) (p : PV) (hi : i < L.length) : cellsL (L.set i p) = (((cellsL L).set (i * 3) (.int .i64 p.to)).set (i * 3 + 1) p.bv).set (i * 3 + 2) (.bool p.sp) := by
  induction L generalizing i with
  | nil => simp at hi
  | cons q L ih =>
    cases i with
    | zero => simp [cellsL_cons, cellsP]
    | succ i =>
      rw [List.set_cons_succ, cellsL_cons, cellsL_cons, ih i (by simpa using hi)]
      have e : (cellsP q).length = 3 := rfl
      have e3 : ∀ (k : Nat) (r : List Value) (u : Value), (cellsP q ++ r).set (3 + k) u = cellsP q ++ r.set k u := fun k r u => by
        rw [List.set_append_right _ _ (by rw [e]; omega), e, Nat.add_sub_cancel_left]
      rw [show (i + 1) * 3 = 3 + i * 3 by omega, e3, show 3 + i * 3 + 1 = 3 + (i * 3 + 1) by omega, e3, show 3 + i * 3 + 2 = 3 + (i * 3 + 2) by omega, e3]
/-- A slice of bytes that reads as s. -/
def ByteV (w : World) (v : Value) (s : ByteArray) : Prop := ∃ (gb cap : Nat) (cs : Array Value) (fr : Nat × Nat), v = .slice (some ⟨gb, 0, none⟩) s.size cap ∧ w.heap[gb]? = some (Obj.cells cs 5 fr) ∧ ∀ i, i < s.size → cs[i]? = some (.int .u8 ((s.data.toList.map fun b => (b.toNat : Int)).getD i 0))
/-- Blocks of a Net and of its parcels alone may have changed (they lie from base on). -/
structure NChg (base : Nat) (w w' : World) : Prop where
  os : w'.os = w.os
  tape : w'.tape = w.tape
  output : w'.output = w.output
  size : w.heap.size ≤ w'.heap.size
  low : ∀ k, k < base → k < w.heap.size → w'.heap[k]? = w.heap[k]?
  other : ∀ (k : Nat) (cs : Array Value) (t : TypeId) (fr : Nat × Nat), w.heap[k]? = some (Obj.cells cs t fr) → t ≠ 49 → t ≠ 51 → w'.heap[k]? = w.heap[k]?
theorem NChg.refl (base : Nat) (w : World) : NChg base w w := ⟨rfl, rfl, rfl, Nat.le_refl _, fun _ _ _ => rfl, fun _ _ _ _ _ _ _ => rfl⟩
theorem NChg.trans {base : Nat} {a b c : World} (h : NChg base a b) (k : NChg base b c) : NChg base a c :=
  ⟨k.os.trans h.os, k.tape.trans h.tape, k.output.trans h.output, Nat.le_trans h.size k.size,
   fun i hi hs => (k.low i hi (Nat.lt_of_lt_of_le hs h.size)).trans (h.low i hi hs),
   fun i cs t fr he h1 h2 => (k.other i cs t fr ((h.other i cs t fr he h1 h2).trans he) h1 h2).trans (h.other i cs t fr he h1 h2)⟩
theorem lt_of_heap {w : World} {k : Nat} {o : Obj} (h : w.heap[k]? = some o) : k < w.heap.size := (Array.getElem?_eq_some_iff.1 h).1
theorem NChg.of_below {base : Nat} {a b : World} (h : Below a.heap.size a b) : NChg base a b :=
  ⟨h.os, h.tape, h.output, h.size, fun k _ hs => h.block k hs, fun k cs t fr he _ _ => h.block k (lt_of_heap he)⟩
theorem NChg.drew {base : Nat} {a b : World} (h : NChg base a b) : NChg base a b.drew := ⟨h.os, h.tape, h.output, h.size, h.low, h.other⟩
theorem NChg.drewN {base : Nat} {a b : World} (h : NChg base a b) (n : Nat) : NChg base a (b.drewN n) := ⟨h.os, h.tape, h.output, h.size, h.low, h.other⟩
theorem NChg.alloc {base : Nat} {a b : World} (h : NChg base a b) (o : Obj) : NChg base a (b.alloc o) := h.trans (NChg.of_below ((Below.refl _ _).alloc (Nat.le_refl _) o))
/-- A store into a block of these two types. -/
theorem NChg.set {base : Nat} {a : World} {g : Nat} {cs : Array Value} {t : TypeId} {fr : Nat × Nat} (h : a.heap[g]? = some (.cells cs t fr)) (ht : t = 49 ∨ t = 51) (hg : base ≤ g) (i : Nat) (v : Value) : NChg base a (a.setCell ⟨g, i, none⟩ v) := by
  refine ⟨rfl, rfl, rfl, by simp [World.setCell], fun k hk hs => Below.heap_setCell a _ v k (by show k ≠ g; omega), fun k cs' t' fr' he h1 h2 => Below.heap_setCell a _ v k ?_⟩
  show k ≠ g
  rintro rfl
  rw [h] at he
  injection he with he
  injection he with _ he2
  subst he2
  rcases ht with rfl | rfl
  · exact h1 rfl
  · exact h2 rfl
theorem NChg.grown {base : Nat} {a b : World} {row : Option Nat} (h : a.grownBy b row) (hr : ∀ k, row = some k → base ≤ k ∧ ∃ (cs : Array Value) (fr : Nat × Nat), a.heap[k]? = some (Obj.cells cs 51 fr)) : NChg base a b := by
  refine ⟨h.os, h.tape, h.output, h.size, fun k hk hs => h.block k hs (fun e => by have := (hr k e.symm).1; omega), fun k cs t fr he h1 h2 => h.block k (lt_of_heap he) (fun e => ?_)⟩
  obtain ⟨_, cs', fr', h3⟩ := hr k e.symm
  rw [h3] at he
  injection he with he
  injection he with _ he2
  exact h2 he2.symm
theorem NChg.below {w a b : World} (h : Below w.heap.size w a) (k : NChg w.heap.size a b) : Below w.heap.size w b :=
  ⟨k.os.trans h.os, k.tape.trans h.tape, k.output.trans h.output, Nat.le_trans h.size k.size, fun i hi => (k.low i hi (Nat.lt_of_lt_of_le hi h.size)).trans (h.block i hi)⟩
theorem NChg.blk {base : Nat} {a b : World} (k : NChg base a b) {g : Nat} {cs : Array Value} {t : TypeId} (h : Blk a g cs t) (h1 : t ≠ 49) (h2 : t ≠ 51) : Blk b g cs t := (k.other g cs t (0, 0) h h1 h2).trans h
theorem ByteV.chg {base : Nat} {a b : World} (k : NChg base a b) {v : Value} {s : ByteArray} (h : ByteV a v s) : ByteV b v s := by
  obtain ⟨gb, cap, cs, fr, e, hh, hc⟩ := h
  exact ⟨gb, cap, cs, fr, e, (k.other gb cs 5 fr hh (by decide) (by decide)).trans hh, hc⟩
/-- A Net at g. -/
structure NetOk (base : Nat) (w : World) (g : Nat) (v : Value) (L : List PV) (gone : Int) : Prop where
  blk : Blk w g #[v, .int .i64 gone] 49
  low : base ≤ g
  row : w.ownsRow base 51 3 v L.length (cellsL L)
  bytes : ∀ p ∈ L, ByteV w p.bv p.s
theorem NetOk.below {base : Nat} {w w1 : World} {g : Nat} {v : Value} {L : List PV} {gone : Int} (h : NetOk base w g v L gone) (hb : Below w.heap.size w w1) : NetOk base w1 g v L gone := by
  refine ⟨h.blk.below hb, h.low, ?_, fun p hp => (h.bytes p hp).chg (NChg.of_below (base := base) hb)⟩
  obtain ⟨h1, h2⟩ := h.row
  refine ⟨h1, ?_⟩
  rcases h2 with h2 | ⟨gr, cap, cur, rfl, hg, hh, r⟩
  · exact .inl h2
  · exact .inr ⟨gr, cap, cur, rfl, hg, (hb.block gr (lt_of_heap hh)).trans hh, r⟩
/-- The row's shape. -/
theorem NetOk.form {base : Nat} {w : World} {g : Nat} {v : Value} {L : List PV} {gone : Int} (h : NetOk base w g v L gone) :
    (L = [] ∧ v = .slice none 0 0) ∨ ∃ gr cap cur, v = .slice (some ⟨gr, 0, none⟩) L.length cap ∧ base ≤ gr ∧ Blk w gr cur 51 ∧ L.length ≤ cap ∧ cap ≤ maxLen ∧ cur.size = cap * 3 ∧ cur.toList.take (L.length * 3) = cellsL L := by
  obtain ⟨h1, h2⟩ := h.row
  rcases h2 with ⟨rfl, h0⟩ | ⟨gr, cap, cur, rfl, hg, hh, hl, hm, hs, ht⟩
  · exact .inl ⟨List.length_eq_zero_iff.1 h0, rfl⟩
  · exact .inr ⟨gr, cap, cur, rfl, hg, hh, hl, hm, hs, ht⟩
end Go.Proofs.Ytcdbnbdeinhokaa.Nb
