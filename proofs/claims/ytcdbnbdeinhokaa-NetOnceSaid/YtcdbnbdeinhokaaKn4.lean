/- A net and its reference: each act, for every place. -/
import Derived.Test.YtcdbnbdeinhokaaKn3
namespace Go.Proofs.Ytcdbnbdeinhokaa.SL
open Go.RowKit Go.Proofs.Ytcdbnbdeinhokaa
open Go.Proofs.YtcdbnbdeinhokaaW.PrintLast (rtab opsOf)
set_option linter.unusedVariables false
set_option linter.unusedSimpArgs false

theorem none_get {V : List PV} {i : Int} (h : i < 0 ∨ (V.length : Int) ≤ i) : i < 0 ∨ V[i.toNat]? = none := by
  rcases Int.lt_or_le i 0 with e | e
  · exact .inl e
  · right; exact List.getElem?_eq_none (by omega)
theorem atF_none {V : List PV} {i : Int} (h : i < 0 ∨ (V.length : Int) ≤ i) : atF V i = (0, [], 2) := by
  unfold atF; rcases none_get h with e | e
  · rw [if_pos e]
  · rw [e]; split <;> rfl
theorem atF_some {V : List PV} {i : Nat} {p : PV} (h : V[i]? = some p) : atF V (i : Int) = (p.who, p.s, 0) := by
  unfold atF; rw [if_neg (by omega), Int.toNat_natCast, h]
theorem takeF_none {V : List PV} {i : Int} (h : i < 0 ∨ (V.length : Int) ≤ i) : takeF V i = V := by
  unfold takeF; rcases none_get h with e | e
  · rw [if_pos e]
  · rw [e]; split <;> rfl
theorem doubleF_none {V : List PV} {i : Int} (h : i < 0 ∨ (V.length : Int) ≤ i) : doubleF V i = (2, V) := by
  unfold doubleF; rcases none_get h with e | e
  · rw [if_pos e]
  · rw [e]; split <;> rfl
theorem doubleF_some {V : List PV} {i : Nat} {p : PV} (h : V[i]? = some p) : doubleF V (i : Int) = (if V.length = 64 then 4 else 0, if V.length = 64 then V else V ++ [p]) := by
  unfold doubleF; rw [if_neg (by omega), Int.toNat_natCast, h]; simp only []; split <;> rfl
theorem spoilF_none {V : List PV} {i at_ : Int} {b : UInt8} (h : i < 0 ∨ (V.length : Int) ≤ i) : spoilF V i at_ b = (2, V) := by
  unfold spoilF; rcases none_get h with e | e
  · rw [if_pos e]
  · rw [e]; split <;> rfl

theorem at_spec {B w : World} {L : List HP} {g : Nat} {V : List PV} {gone : Int} (hS : St B (netP g V gone :: L) w) (i : Int) : Does Try.prog 15 [.pointer (some ⟨g, 0, none⟩), .int .i64 i] w (fun v w1 => v = .tuple #[.int .i64 (atF V i).1, str (atF V i).2.1, .int .i64 (atF V i).2.2] ∧ St B (netP g V gone :: L) w1) := by
  by_cases h : i < 0 ∨ (V.length : Int) ≤ i
  · rw [atF_none h]; exact at_none hS i h
  · obtain ⟨m, rfl⟩ : ∃ m : Nat, i = m := ⟨i.toNat, by omega⟩
    obtain ⟨p, hp⟩ := get_some (show m < V.length by omega)
    rw [atF_some hp]; exact at_some hS m p hp
theorem take_spec {B w : World} {L : List HP} {g : Nat} {V : List PV} {gone : Int} (hS : St B (netP g V gone :: L) w) (i : Int) : Does Try.prog 10 [.pointer (some ⟨g, 0, none⟩), .int .i64 i] w (fun v w1 => v = .tuple #[.int .i64 (atF V i).1, str (atF V i).2.1, .int .i64 (atF V i).2.2] ∧ St B (netP g (takeF V i) gone :: L) w1) := by
  by_cases h : i < 0 ∨ (V.length : Int) ≤ i
  · rw [atF_none h, takeF_none h]; exact take_none hS i h
  · obtain ⟨m, rfl⟩ : ∃ m : Nat, i = m := ⟨i.toNat, by omega⟩
    obtain ⟨p, hp⟩ := get_some (show m < V.length by omega)
    rw [atF_some hp]; exact take_some hS m p hp
theorem double_spec {B w : World} {L : List HP} {g : Nat} {V : List PV} {gone : Int} (hS : St B (netP g V gone :: L) w) (i : Int) : Does Try.prog 13 [.pointer (some ⟨g, 0, none⟩), .int .i64 i] w (fun v w1 => v = .int .i64 (doubleF V i).1 ∧ St B (netP g (doubleF V i).2 gone :: L) w1) := by
  by_cases h : i < 0 ∨ (V.length : Int) ≤ i
  · rw [doubleF_none h]; exact double_none hS i h
  · obtain ⟨m, rfl⟩ : ∃ m : Nat, i = m := ⟨i.toNat, by omega⟩
    obtain ⟨p, hp⟩ := get_some (show m < V.length by omega)
    rw [doubleF_some hp]; exact double_some hS m p hp
theorem spoil_spec {B w : World} {L : List HP} {g : Nat} {V : List PV} {gone : Int} (hS : St B (netP g V gone :: L) w) (i : Int) (at_ : Int) (b : UInt8) (hps : ∀ p ∈ V, p.s.length ≤ 140737488355328) : Does Try.prog 14 [.pointer (some ⟨g, 0, none⟩), .int .i64 i, .int .i64 at_, .int .u8 (b.toNat : Int)] w (fun v w1 => v = .int .i64 (spoilF V i at_ b).1 ∧ St B (netP g (spoilF V i at_ b).2 gone :: L) w1) := by
  by_cases h : i < 0 ∨ (V.length : Int) ≤ i
  · rw [spoilF_none h]; exact spoil_none hS i h at_ b
  · obtain ⟨m, rfl⟩ : ∃ m : Nat, i = m := ⟨i.toNat, by omega⟩
    obtain ⟨p, hp⟩ := get_some (show m < V.length by omega)
    exact spoil_some hS m p hp at_ b (hps p (List.mem_of_getElem? hp))

theorem rat_spec {B w : World} {L : List HP} {g : Nat} {V : List PV} {gone : Int} (hS : St B (refP g V gone :: L) w) (i : Int) : Does Try.prog 20 [.pointer (some ⟨g, 0, none⟩), .int .i64 i] w (fun v w1 => v = .tuple #[.int .i64 (atF V i).1, str (atF V i).2.1, .int .i64 (atF V i).2.2] ∧ St B (refP g V gone :: L) w1) := by
  by_cases h : i < 0 ∨ (V.length : Int) ≤ i
  · rw [atF_none h]; exact rat_none hS i h
  · obtain ⟨m, rfl⟩ : ∃ m : Nat, i = m := ⟨i.toNat, by omega⟩
    obtain ⟨p, hp⟩ := get_some (show m < V.length by omega)
    rw [atF_some hp]; exact rat_some hS m p hp
theorem rtake_spec {B w : World} {L : List HP} {g : Nat} {V : List PV} {gone : Int} (hS : St B (refP g V gone :: L) w) (i : Int) : Does Try.prog 17 [.pointer (some ⟨g, 0, none⟩), .int .i64 i] w (fun v w1 => v = .tuple #[.int .i64 (atF V i).1, str (atF V i).2.1, .int .i64 (atF V i).2.2] ∧ St B (refP g (takeF V i) gone :: L) w1) := by
  by_cases h : i < 0 ∨ (V.length : Int) ≤ i
  · rw [atF_none h, takeF_none h]; exact rtake_none hS i h
  · obtain ⟨m, rfl⟩ : ∃ m : Nat, i = m := ⟨i.toNat, by omega⟩
    obtain ⟨p, hp⟩ := get_some (show m < V.length by omega)
    rw [atF_some hp]; exact rtake_some hS m p hp
theorem rdouble_spec {B w : World} {L : List HP} {g : Nat} {V : List PV} {gone : Int} (hS : St B (refP g V gone :: L) w) (i : Int) : Does Try.prog 18 [.pointer (some ⟨g, 0, none⟩), .int .i64 i] w (fun v w1 => v = .int .i64 (doubleF V i).1 ∧ St B (refP g (doubleF V i).2 gone :: L) w1) := by
  by_cases h : i < 0 ∨ (V.length : Int) ≤ i
  · rw [doubleF_none h]; exact rdouble_none hS i h
  · obtain ⟨m, rfl⟩ : ∃ m : Nat, i = m := ⟨i.toNat, by omega⟩
    obtain ⟨p, hp⟩ := get_some (show m < V.length by omega)
    rw [doubleF_some hp]; exact rdouble_some hS m p hp
theorem rspoil_spec {B w : World} {L : List HP} {g : Nat} {V : List PV} {gone : Int} (hS : St B (refP g V gone :: L) w) (i : Int) (at_ : Int) (b : UInt8) : Does Try.prog 19 [.pointer (some ⟨g, 0, none⟩), .int .i64 i, .int .i64 at_, .int .u8 (b.toNat : Int)] w (fun v w1 => v = .int .i64 (spoilF V i at_ b).1 ∧ St B (refP g (spoilF V i at_ b).2 gone :: L) w1) := by
  by_cases h : i < 0 ∨ (V.length : Int) ≤ i
  · rw [spoilF_none h]; exact rspoil_none hS i h at_ b
  · obtain ⟨m, rfl⟩ : ∃ m : Nat, i = m := ⟨i.toNat, by omega⟩
    obtain ⟨p, hp⟩ := get_some (show m < V.length by omega)
    exact rspoil_some hS m p hp at_ b
end Go.Proofs.Ytcdbnbdeinhokaa.SL
