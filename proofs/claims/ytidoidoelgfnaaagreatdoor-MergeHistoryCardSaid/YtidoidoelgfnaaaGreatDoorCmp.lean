/- The order of labels. -/
import Derived.Test.YtidoidoelgfnaaaGreatDoorKmM
import Derived.Shelf.SlSortCmp.Insertion
namespace Go.Proofs.YtidoidoelgfnaaaGreatDoor.SL
open Go.RowKit Go.Shelf
set_option linter.unusedVariables false
theorem sl_irr : ∀ a : List UInt8, strLt a a = false
  | [] => rfl
  | x :: a => by
    have := sl_irr a
    simp only [strLt, Op.bytesLess] at this ⊢
    simp [this]
theorem sl_tr : ∀ {a b c : List UInt8}, strLt a b = true → strLt b c = true → strLt a c = true
  | _, [], _, h, _ => by cases ‹List UInt8› <;> simp [strLt, Op.bytesLess] at h
  | _, _ :: _, [], _, h => by simp [strLt, Op.bytesLess] at h
  | [], y :: b, z :: c, _, _ => rfl
  | x :: a, y :: b, z :: c, h, k => by
    have ih := @sl_tr a b c
    simp only [strLt, Op.bytesLess, Bool.or_eq_true, decide_eq_true_eq, Bool.and_eq_true, beq_iff_eq] at h k ih ⊢
    rcases h with h | ⟨rfl, h⟩
    · rcases k with k | ⟨rfl, k⟩
      · exact .inl (UInt8.lt_trans h k)
      · exact .inl h
    · rcases k with k | ⟨rfl, k⟩
      · exact .inl k
      · exact .inr ⟨rfl, ih h k⟩
theorem sl_tot : ∀ {a b : List UInt8}, strLt a b = false → a ≠ b → strLt b a = true
  | [], [], _, h => absurd rfl h
  | [], y :: b, h, _ => by simp [strLt, Op.bytesLess] at h
  | x :: a, [], _, _ => rfl
  | x :: a, y :: b, h, k => by
    have ih := @sl_tot a b
    simp only [strLt, Op.bytesLess, Bool.or_eq_false_iff, Bool.or_eq_true, decide_eq_false_iff_not, decide_eq_true_eq, Bool.and_eq_false_iff, Bool.and_eq_true, beq_iff_eq, beq_eq_false_iff_ne] at h ih ⊢
    by_cases e : x = y
    · subst e
      right
      refine ⟨rfl, ih ?_ (fun e => k (by rw [e]))⟩
      rcases h.2 with h' | h'
      · exact absurd rfl h'
      · exact h'
    · left
      have h1 := h.1
      have : x.toNat ≠ y.toNat := fun q => e (UInt8.toNat_inj.1 q)
      rw [UInt8.lt_iff_toNat_lt] at h1 ⊢
      omega
/-- Pairs, labels. -/
def ltP (p q : Pr) : Bool := strLt p.n q.n || (decide (p.n = q.n) && strLt p.v q.v)
theorem ltP_irr (p : Pr) : ltP p p = false := by simp [ltP, sl_irr]
theorem ltP_tr {p q r : Pr} (h : ltP p q = true) (k : ltP q r = true) : ltP p r = true := by
  simp only [ltP, Bool.or_eq_true, Bool.and_eq_true, decide_eq_true_eq] at h k ⊢
  rcases h with h | ⟨e, h⟩
  · rcases k with k | ⟨e', k⟩
    · exact .inl (sl_tr h k)
    · exact .inl (by rw [← e']; exact h)
  · rcases k with k | ⟨e', k⟩
    · exact .inl (by rw [e]; exact k)
    · exact .inr ⟨e.trans e', sl_tr h k⟩
theorem ltP_tot {p q : Pr} (h : ltP p q = false) (hne : p ≠ q) : ltP q p = true := by
  simp only [ltP, Bool.or_eq_false_iff, Bool.and_eq_false_iff, decide_eq_false_iff_not, Bool.or_eq_true, Bool.and_eq_true, decide_eq_true_eq] at h ⊢
  by_cases e : p.n = q.n
  · right
    refine ⟨e.symm, sl_tot (h.2.resolve_left (fun k => k e)) fun k => hne ?_⟩
    obtain ⟨a, b⟩ := p; obtain ⟨c, d⟩ := q
    simp only at e k; rw [e, k]
  · exact .inl (sl_tot h.1 e)
theorem ltP_asym {p q : Pr} (h : ltP p q = true) : ltP q p = false := by
  cases k : ltP q p with
  | false => rfl
  | true => exact absurd (ltP_tr h k) (by rw [ltP_irr]; decide)
def cmpF : List Pr → List Pr → Int
  | [], [] => 0
  | [], _ :: _ => -1
  | _ :: _, [] => 1
  | p :: a, q :: b => if ltP p q = true then -1 else if p = q then cmpF a b else 1
theorem cmp_self : ∀ a : List Pr, cmpF a a = 0
  | [] => rfl
  | p :: a => by rw [cmpF, if_neg (by rw [ltP_irr]; decide), if_pos rfl, cmp_self a]
theorem cmp_zero : ∀ {a b : List Pr}, cmpF a b = 0 → a = b
  | [], [], _ => rfl
  | [], _ :: _, h => by simp [cmpF] at h
  | _ :: _, [], h => by simp [cmpF] at h
  | p :: a, q :: b, h => by
    rw [cmpF] at h
    split at h
    · omega
    · split at h
      · rename_i e; rw [e, cmp_zero h]
      · omega
theorem cmp_anti : ∀ a b : List Pr, cmpF b a = - cmpF a b
  | [], [] => rfl
  | [], _ :: _ => rfl
  | _ :: _, [] => rfl
  | p :: a, q :: b => by
    rw [cmpF, cmpF]
    by_cases e : p = q
    · subst e; simp [ltP_irr, cmp_anti a b]
    · cases h : ltP p q with
      | true => rw [if_neg (by rw [ltP_asym h]; decide), if_neg (Ne.symm e), if_pos rfl]; rfl
      | false => rw [if_pos (ltP_tot h e), if_neg (by decide), if_neg e]
theorem cmp_tr : ∀ {a b c : List Pr}, cmpF a b < 0 → cmpF b c < 0 → cmpF a c < 0
  | [], [], _, h, _ => by simp [cmpF] at h
  | [], _ :: _, [], _, h => by simp [cmpF] at h
  | [], _ :: _, _ :: _, _, _ => by simp [cmpF]
  | _ :: _, [], _, h, _ => by simp [cmpF] at h
  | _ :: _, _ :: _, [], _, h => by simp [cmpF] at h
  | p :: a, q :: b, r :: c, h, k => by
    rw [cmpF] at h k ⊢
    by_cases h1 : ltP p q = true
    · by_cases k1 : ltP q r = true
      · rw [if_pos (ltP_tr h1 k1)]; decide
      · rw [if_neg k1] at k
        split at k
        · rename_i e; subst e; rw [if_pos h1]; decide
        · omega
    · rw [if_neg h1] at h
      split at h
      · rename_i e; subst e
        by_cases k1 : ltP p r = true
        · rw [if_pos k1]; decide
        · rw [if_neg k1] at k ⊢
          split at k
          · rename_i e; rw [if_pos e]; exact cmp_tr h k
          · omega
      · omega
theorem cmp_swo : Go.Sort.SWO (ltOf cmpF) where
  irrefl x := by simp [ltOf, cmp_self]
  trans x y z h1 h2 := by simp only [ltOf, decide_eq_true_eq] at *; exact cmp_tr h1 h2
  ntrans x y z h1 h2 := by
    simp only [ltOf, decide_eq_false_iff_not] at *
    intro h
    by_cases k : cmpF y x < 0
    · exact h2 (cmp_tr k h)
    · have e := cmp_anti y x
      have : cmpF x y = 0 := by omega
      rw [cmp_zero this] at h; exact h2 h
end Go.Proofs.YtidoidoelgfnaaaGreatDoor.SL
