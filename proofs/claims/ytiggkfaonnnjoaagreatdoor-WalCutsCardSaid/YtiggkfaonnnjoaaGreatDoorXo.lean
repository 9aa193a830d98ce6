/- Arguments opened: slices of structs and of other elements, element by element. -/
import Derived.WalkKit
import Derived.ProofKit
import Derived.OpenShut
import Derived.Deep.Slices
import Derived.DataReads
import Derived.ChangeArms
namespace Go.Proofs.YtiggkfaonnnjoaaGreatDoor.Xo
open Go.Deep
variable {P : Program} {H : Type} {enc : TypeId × Value → H} {w : World} {base : Nat} {spare : Nat → Bool} {held : Bool}
/-- What a slice's elements read as, cell by cell. -/
theorem rows_of {t e : TypeId} {a : Option Addr} {len cap : Nat} {fuel : Nat} {x : DataW H × List MemPlace} (ht : P.underlying t = some (.slice e)) (hn : 0 < P.cellsOf e)
    (h : DataW.trod enc P w base spare held fuel t [.slice a len cap] = some x) :
    ∀ i, i < len → ∃ b off cs n y, a = some ⟨b, off, none⟩ ∧ cs.length = P.cellsOf e ∧ (∀ j, j < P.cellsOf e → w.cell? ⟨b, off + (i * P.cellsOf e + j), none⟩ = cs[j]?) ∧ DataW.trod enc P w base spare held n e cs = some y := by
  intro i hi
  rcases open_slice ht h with ⟨hc, _⟩ | ⟨ad, l, c, m, n, D, Pl, hcs, hb, hl, hm, hmm, rfl, hx⟩
  · simp at hc; omega
  · simp only [List.cons.injEq, Value.slice.injEq, and_true] at hcs
    obtain ⟨rfl, rfl, rfl⟩ := hcs
    have him : i < m := by rw [hmm]; split <;> omega
    obtain ⟨cs0, g1, _⟩ := hx 0 (by omega)
    obtain ⟨cs, h1, h2⟩ := hx i him
    obtain ⟨_, hlen0, hcell0⟩ := World.cells?_some g1
    obtain ⟨_, hlen, hcell⟩ := World.cells?_some h1
    obtain ⟨b, off, spot⟩ := ad
    have h0 := hcell0 0 hn
    obtain ⟨v, hv⟩ : ∃ v, cs0[0]? = some v := ⟨_, List.getElem?_eq_getElem (by omega)⟩
    rw [hv, add_add] at h0
    have hspot : spot = none := by simpa [Addr.add] using World.cell?_spot h0
    subst hspot
    refine ⟨b, off, cs, n, _, rfl, hlen, fun j hj => ?_, h2⟩
    have hj' := hcell j hj
    rw [add_add, Go.WideShapes.add_plain] at hj'
    exact hj'
/-- A struct's field of one cell that is an integer. -/
theorem int_field {e : TypeId} {fs : Array Field} {cs : List Value} {fuel : Nat} {y : DataW H × List MemPlace} (he : P.underlying e = some (.struct fs)) (h : DataW.trod enc P w base spare held fuel e cs = some y)
    (i : Nat) (f : Field) (hf : fs[i]? = some f) {k : IntKind} (hk : P.underlying f.type = some (.int k)) : ∃ v, cs[f.offset]? = some (.int k v) ∧ (Lit.int k v).wf = true := by
  obtain ⟨xs, n, _, _, _, hl, hx⟩ := DataW.trod_struct he h
  have g := hx i f hf
  have hi : i < xs.length := by rw [hl]; exact (Array.getElem?_eq_some_iff.1 hf).1
  rw [List.getElem?_eq_getElem hi] at g
  obtain ⟨v, hv, _, hw⟩ := DataW.trod_int hk g
  refine ⟨v, ?_, hw⟩
  have : (cs.drop f.offset)[0]? = some (.int k v) := by
    cases hd : cs.drop f.offset with
    | nil => rw [hd] at hv; simp at hv
    | cons z r =>
      rw [hd] at hv
      cases hc : P.cellsOf f.type with
      | zero => rw [hc] at hv; simp at hv
      | succ q => rw [hc, List.take_succ_cons] at hv; simp at hv; simp [hv.1]
  rw [List.getElem?_drop] at this
  simpa using this
end Go.Proofs.YtiggkfaonnnjoaaGreatDoor.Xo
