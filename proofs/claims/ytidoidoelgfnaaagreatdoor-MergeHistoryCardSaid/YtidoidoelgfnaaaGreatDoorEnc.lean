/- Labels' bytes: unlike labels have unlike bytes. -/
import Derived.Test.YtidoidoelgfnaaaGreatDoorKdM
import Derived.Test.YtidoidoelgfnaaaGreatDoorKmM
namespace Go.Proofs.YtidoidoelgfnaaaGreatDoor.SL
open Go.RowKit
set_option linter.unusedVariables false
def pairB (p : Pr) : List UInt8 := textB p.n ++ textB p.v
def encB (l : List Pr) : List UInt8 := numB l.length ++ l.flatMap pairB
/-- A series' key. -/
def keyB (l : List Pr) : List UInt8 := if chk l = true then encB l else []
theorem beE_back : ∀ (n : Nat), beN (beB n) = n := by
  intro n
  induction n using Nat.strongRecOn with
  | ind n ih =>
    rcases Nat.eq_zero_or_pos n with h | h
    · subst h; rw [beB_zero]; rfl
    · rw [beB_pos h, beN_snoc, ih (n / 256) (by omega), UInt8.toNat_ofNat']
      omega
theorem numB_pre {n m : Nat} {a b : List UInt8} (hn : n < 18446744073709551616) (hm : m < 18446744073709551616) (h : numB n ++ a = numB m ++ b) : n = m ∧ a = b := by
  have l1 := numB_len hn
  have l2 := numB_len hm
  unfold numB at h l1 l2
  simp only [List.cons_append, List.cons.injEq, List.length_cons] at h l1 l2
  obtain ⟨h1, h2⟩ := h
  have e : (beB n).length = (beB m).length := by
    have := congrArg UInt8.toNat h1
    rw [UInt8.toNat_ofNat', UInt8.toNat_ofNat'] at this
    omega
  have := List.append_inj h2 e
  exact ⟨by rw [← beE_back n, this.1, beE_back], this.2⟩
theorem textB_pre {s t a b : List UInt8} (hs : s.length < 18446744073709551616) (ht : t.length < 18446744073709551616) (h : textB s ++ a = textB t ++ b) : s = t ∧ a = b := by
  unfold textB at h
  rw [List.append_assoc, List.append_assoc] at h
  have h1 := numB_pre hs ht h
  exact List.append_inj h1.2 h1.1
theorem pairs_pre : ∀ {l m : List Pr}, l.length = m.length → (∀ p ∈ l, p.n.length < 18446744073709551616 ∧ p.v.length < 18446744073709551616) → (∀ p ∈ m, p.n.length < 18446744073709551616 ∧ p.v.length < 18446744073709551616) → l.flatMap pairB = m.flatMap pairB → l = m
  | [], [], _, _, _, _ => rfl
  | [], _ :: _, h, _, _, _ => by simp at h
  | _ :: _, [], h, _, _, _ => by simp at h
  | p :: l, q :: m, h, hl, hm, e => by
    simp only [List.flatMap_cons, pairB, List.append_assoc] at e
    have hp := hl p (by simp)
    have hq := hm q (by simp)
    obtain ⟨e1, e2⟩ := textB_pre hp.1 hq.1 e
    obtain ⟨e3, e4⟩ := textB_pre hp.2 hq.2 e2
    have ih := pairs_pre (l := l) (m := m) (by simpa using h) (fun p h => hl p (by simp [h])) (fun p h => hm p (by simp [h])) e4
    obtain ⟨a, b⟩ := p; obtain ⟨c, d⟩ := q
    simp only at e1 e3; rw [e1, e3, ih]
theorem chkGo_sz : ∀ {l : List Pr} {last : List UInt8}, chkGo last l = true → ∀ p ∈ l, p.n.length ≤ 32 ∧ p.v.length ≤ 64
  | [], _, _, p, hp => by cases hp
  | q :: l, last, h, p, hp => by
    simp only [chkGo, Bool.and_eq_true] at h
    rcases List.mem_cons.1 hp with e | hp
    · subst e; exact ⟨(of_decide_eq_true h.1.1.1).2.1, (of_decide_eq_true h.1.1.2).2.1⟩
    · exact chkGo_sz h.2 p hp
theorem chk_sz {l : List Pr} (h : chk l = true) : l.length ≤ 8 ∧ 1 ≤ l.length ∧ ∀ p ∈ l, p.n.length ≤ 32 ∧ p.v.length ≤ 64 := by
  simp only [chk, Bool.and_eq_true, decide_eq_true_eq] at h
  exact ⟨h.1.2, h.1.1, chkGo_sz h.2⟩
theorem key_inj {l m : List Pr} (hl : chk l = true) (hm : chk m = true) (h : keyB l = keyB m) : l = m := by
  unfold keyB at h
  rw [if_pos hl, if_pos hm] at h
  have sl := chk_sz hl
  have sm := chk_sz hm
  obtain ⟨e1, e2⟩ := numB_pre (by omega) (by omega) h
  exact pairs_pre e1 (fun p hp => by have := sl.2.2 p hp; omega) (fun p hp => by have := sm.2.2 p hp; omega) e2
end Go.Proofs.YtidoidoelgfnaaaGreatDoor.SL
