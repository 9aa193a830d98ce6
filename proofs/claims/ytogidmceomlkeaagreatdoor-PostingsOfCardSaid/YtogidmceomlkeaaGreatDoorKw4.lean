/- The rows that have a pair: the plain laws. -/
import Derived.Test.YtogidmceomlkeaaGreatDoorKw3
namespace Go.Proofs.YtogidmceomlkeaaGreatDoor.SL
open Go.RowKit Go.Proofs.YtogidmceomlkeaaGreatDoor
open Go.Proofs.YtogidmceomlkeaaGreatDoorW.PrintLast (rtab opsOf)
set_option linter.unusedVariables false
set_option linter.unusedSimpArgs false

theorem bl_irrefl : ∀ a : List UInt8, strLt a a = false
  | [] => rfl
  | x :: a => by
    have := bl_irrefl a
    simp only [strLt, Op.bytesLess] at this ⊢
    simp [this]
theorem bl_trans : ∀ {a b c : List UInt8}, strLt a b = true → strLt b c = true → strLt a c = true
  | _, [], _, h, _ => by cases ‹List UInt8› <;> simp [strLt, Op.bytesLess] at h
  | _, _ :: _, [], _, h => by simp [strLt, Op.bytesLess] at h
  | [], y :: b, z :: c, _, _ => rfl
  | x :: a, y :: b, z :: c, h, k => by
    have ih := @bl_trans a b c
    simp only [strLt, Op.bytesLess, Bool.or_eq_true, decide_eq_true_eq, Bool.and_eq_true, beq_iff_eq] at h k ih ⊢
    rcases h with h | ⟨rfl, h⟩
    · rcases k with k | ⟨rfl, k⟩
      · exact .inl (UInt8.lt_trans h k)
      · exact .inl h
    · rcases k with k | ⟨rfl, k⟩
      · exact .inl k
      · exact .inr ⟨rfl, ih h k⟩
theorem bl_total : ∀ {a b : List UInt8}, strLt a b = false → a ≠ b → strLt b a = true
  | [], [], _, h => absurd rfl h
  | [], y :: b, h, _ => by simp [strLt, Op.bytesLess] at h
  | x :: a, [], _, _ => rfl
  | x :: a, y :: b, h, k => by
    have ih := @bl_total a b
    simp only [strLt, Op.bytesLess, Bool.or_eq_false_iff, Bool.or_eq_true, decide_eq_false_iff_not, decide_eq_true_eq, Bool.and_eq_false_iff, Bool.and_eq_true, beq_iff_eq, beq_eq_false_iff_ne] at h ih ⊢
    by_cases e : x = y
    · subst e
      right
      refine ⟨rfl, ih ?_ (fun e => k (by rw [e]))⟩
      rcases h.2 with h' | h'
      · exact absurd rfl h'
      · exact h'
    · left
      have h1 := h.1
      have : x.toNat ≠ y.toNat := fun q => e (UInt8.toNat_inj.1 q)
      rw [UInt8.lt_iff_toNat_lt] at h1 ⊢
      omega
/-- Names rise. -/
def Rise (l : List Pr) : Prop := ∀ k x y, l[k]? = some x → l[k + 1]? = some y → (strLt y.n x.n || decide (y.n = x.n)) = false
theorem rise_head {x : Pr} : ∀ {l : List Pr} {y : Pr}, Rise (x :: l) → y ∈ l → strLt x.n y.n = true
  | [], y, _, h => by cases h
  | z :: l, y, hr, h => by
    have h0 := hr 0 x z rfl rfl
    rw [Bool.or_eq_false_iff] at h0
    have hxz : strLt x.n z.n = true := bl_total h0.1 (by simpa using h0.2)
    rcases List.mem_cons.1 h with e | e
    · subst e; exact hxz
    · have hz : Rise (z :: l) := fun k a b ha hb => hr (k + 1) a b (by simpa using ha) (by simpa using hb)
      exact bl_trans hxz (rise_head hz e)
theorem getV_of {p : Pr} : ∀ {l : List Pr}, Rise l → p ∈ l → getV p.n l = p.v
  | [], _, h => by cases h
  | x :: l, hr, h => by
    have hl : Rise l := fun k a b ha hb => hr (k + 1) a b (by simpa using ha) (by simpa using hb)
    simp only [getV]
    by_cases e : x.n = p.n
    · rw [if_pos e]
      rcases List.mem_cons.1 h with q | q
      · rw [q]
      · have := rise_head hr q
        rw [e, bl_irrefl] at this; cases this
    · rw [if_neg e]
      rcases List.mem_cons.1 h with q | q
      · rw [q] at e; exact absurd rfl e
      · exact getV_of hl q
theorem of_getV {p : Pr} (hv : p.v ≠ []) : ∀ {l : List Pr}, getV p.n l = p.v → p ∈ l
  | [], h => absurd h.symm hv
  | x :: l, h => by
    simp only [getV] at h
    by_cases e : x.n = p.n
    · rw [if_pos e] at h
      have : x = p := by cases x; cases p; simp at e h; simp [e, h]
      rw [this]; exact List.mem_cons_self ..
    · rw [if_neg e] at h
      exact List.mem_cons_of_mem _ (of_getV hv h)
def mOf (p : Pr) : List Mt := [⟨1, p.n, p.v⟩]
theorem isF_of {p : Pr} {r : List Pr} : isF (mOf p) r = (decide (mchk (mOf p) = 0) && decide (getV p.n r = p.v)) := by
  simp [isF, mOf, hold]
theorem idxGo_cong {f g : List Pr → Bool} : ∀ {l : List (List Pr)} {j : Nat}, (∀ r ∈ l, f r = g r) → idxGo f j l = idxGo g j l
  | [], _, _ => rfl
  | r :: l, j, h => by
    simp only [idxGo]
    rw [h r (List.mem_cons_self ..), idxGo_cong (fun q hq => h q (List.mem_cons_of_mem _ hq))]
theorem find_one (p : Pr) : (findF [[p]] (mOf p)).length = if mchk (mOf p) = 0 then 1 else 0 := by
  simp only [findF, idxGo, isF_of, getV, if_true, decide_true, Bool.and_true, decide_eq_true_eq]
  split <;> rfl
theorem find_none {p : Pr} (h : ¬ mchk (mOf p) = 0) : ∀ (l : List (List Pr)) (j : Nat), idxGo (fun r => isF (mOf p) r) j l = []
  | [], _ => rfl
  | r :: l, j => by
    have ih := find_none h l (j + 1)
    simp only [idxGo, isF_of, decide_eq_false h, Bool.false_and] at ih ⊢
    simp [ih]
theorem of_find {p : Pr} {rows : List (List Pr)} (h : mchk (mOf p) = 0) (hv : p.v ≠ []) (hr : ∀ r ∈ rows, Rise r) : ofF rows p = findF rows (mOf p) := by
  unfold ofF findF
  refine idxGo_cong fun r hm => ?_
  rw [isF_of, decide_eq_true h, Bool.true_and]
  exact decide_eq_decide.2 ⟨fun q => getV_of (hr r hm) q, fun q => of_getV hv q⟩
end Go.Proofs.YtogidmceomlkeaaGreatDoor.SL
