/- Contracts of the methods of Ship. -/
import Derived.Test.YthkiofmfegeknaaSx1
namespace Go.Proofs.Ythkiofmfegeknaa.Sx
open Go.RowKit
open Go.Proofs.Ythkiofmfegeknaa.Xb
set_option linter.unusedSimpArgs false
set_option linter.unusedVariables false
theorem put64 {g : Nat} {t : TypeId} {cs : Array Value} {w : World} (hb : Blk w g cs t) (i : Nat) (x y : Int) (e : cs[i]? = some (.int .i64 x)) :
    Calls Try.prog 22 #[.pointer (some ⟨g, i, none⟩), .int .i64 y] w fun e w' => e = .returned (.tuple #[]) ∧ Blk w' g (cs.setIfInBounds i (.int .i64 y)) t ∧ Chg g w w' := by
  refine (store64 g i x y w (hb.cell i e) (hb.frozen i)).mono ?_
  rintro e w' ⟨rfl, rfl⟩
  exact ⟨rfl, hb.put i _ rfl, (Chg.refl _ _).set i _⟩
theorem putB {g : Nat} {t : TypeId} {cs : Array Value} {w : World} (hb : Blk w g cs t) (i : Nat) (x : Int) (e : cs[i]? = some (.int .u32 x)) :
    Calls Try.prog 25 #[.pointer (some ⟨g, i, none⟩), .bool true] w fun e w' => e = .returned (.tuple #[]) ∧ Blk w' g (cs.setIfInBounds i (.int .u32 1)) t ∧ Chg g w w' := by
  refine (storeB g i x w (hb.cell i e) (hb.frozen i)).mono ?_
  rintro e w' ⟨rfl, rfl⟩
  exact ⟨rfl, hb.drew.put i _ rfl, (Chg.refl _ _).drew.set i _⟩
set_option maxHeartbeats 400000 in
theorem raise_up {g : Nat} {t : TypeId} {cs : Array Value} {w : World} (hb : Blk w g cs t) (i : Nat) (x k : Int) (e : cs[i]? = some (.int .i64 x)) (hk : x < k) :
    Calls Try.prog 27 #[.pointer (some ⟨g, i, none⟩), .int .i64 k] w fun e w' => e = .returned (.tuple #[]) ∧ Blk w' g (cs.setIfInBounds i (.int .i64 k)) t ∧ Chg g w w' := by
  have hc := hb.cell i e
  have E := Lib.hid e; clear e
  have HB := Asd.mk hb; clear hb
  go_enter Try.func27, Try.ntmps27
  go_wp2_with fail
  refine (load64 _ _ _ _ hc).mono ?_; rintro e w1 ⟨rfl, rfl⟩
  go_wp2_with fail
  refine (put64 HB.out i x k E.out).mono ?_; rintro e w1 ⟨rfl, hb1, hc1⟩
  have HB1 := Asd.mk hb1; have HC1 := Asd.mk hc1; clear hb1 hc1
  go_wp2
  go_end0
  exact ⟨rfl, HB1.out, HC1.out⟩
set_option maxHeartbeats 400000 in
theorem raise_not {g : Nat} {t : TypeId} {cs : Array Value} {w : World} (hb : Blk w g cs t) (i : Nat) (x k : Int) (e : cs[i]? = some (.int .i64 x)) (hk : k ≤ x) :
    Calls Try.prog 27 #[.pointer (some ⟨g, i, none⟩), .int .i64 k] w fun e w' => e = .returned (.tuple #[]) ∧ Blk w' g (cs.setIfInBounds i (.int .i64 x)) t ∧ Chg g w w' := by
  have hc := hb.cell i e
  have E := Lib.hid e; clear e
  have HB := Asd.mk hb; clear hb
  go_enter Try.func27, Try.ntmps27
  go_wp2_with fail
  refine (load64 _ _ _ _ hc).mono ?_; rintro e w1 ⟨rfl, rfl⟩
  go_wp2_with fail
  refine (put64 HB.out i x x E.out).mono ?_; rintro e w1 ⟨rfl, hb1, hc1⟩
  have HB1 := Asd.mk hb1; have HC1 := Asd.mk hc1; clear hb1 hc1
  go_wp2
  go_end0
  exact ⟨rfl, HB1.out, HC1.out⟩
abbrev Out (g : Nat) (w : World) (cs : Array Value) (e : Ending) (w' : World) : Prop := e = .returned (.tuple #[]) ∧ Blk w' g cs 52 ∧ Chg g w w'
theorem ship_eq {s s' : Bool × Int × Int} (h : s = s') {g : Nat} {w w' : World} (k : Blk w' g (ship s'.1 s'.2.1 s'.2.2) 52) : Blk w' g (shipS s) 52 := h ▸ k
set_option maxHeartbeats 400000 in
theorem hello_no (g : Nat) (h : Bool) (a n k : Int) (w : World) (hb : Blk w g (ship h a n) 52) (hk : k < 0 ∨ k > 99999999) :
    Calls Try.prog 11 #[.pointer (some ⟨g, 0, none⟩), .int .i64 k] w (Turn g w (h, a, n)) := by
  have HB := Asd.mk hb; clear hb
  rcases hk with hk | hk
  all_goals
    go_enter Try.func11, Try.ntmps11
    go_wp2
    go_end0
    exact ⟨rfl, HB.out, Chg.refl _ _⟩
set_option maxHeartbeats 400000 in
theorem hello_yes (g : Nat) (h : Bool) (a n k : Int) (w : World) (hb : Blk w g (ship h a n) 52) (hk1 : 0 ≤ k) (hk2 : k ≤ 99999999) :
    Calls Try.prog 11 #[.pointer (some ⟨g, 0, none⟩), .int .i64 k] w (Turn g w (true, k, k + 1)) := by
  have HB := Asd.mk hb; clear hb
  go_enter Try.func11, Try.ntmps11
  go_wp2_with fail
  refine (putB HB.out 0 _ rfl).mono ?_; rintro e w1 ⟨rfl, hb1, hc1⟩
  have HB1 := Asd.mk hb1; have HC1 := Asd.mk hc1; clear hb1 hc1
  go_wp2_with fail
  refine (put64 HB1.out 1 a _ rfl).mono ?_; rintro e w2 ⟨rfl, hb2, hc2⟩
  have HB2 := Asd.mk hb2; have HC2 := Asd.mk hc2; clear hb2 hc2
  go_wp2_with fail
  refine (put64 HB2.out 2 n _ rfl).mono ?_; rintro e w3 ⟨rfl, hb3, hc3⟩
  have HB3 := Asd.mk hb3; have HC3 := Asd.mk hc3; clear hb3 hc3
  go_wp2
  go_end0
  exact ⟨rfl, HB3.out, (HC1.out.trans HC2.out).trans HC3.out⟩
theorem hello_any (g : Nat) (s : Bool × Int × Int) (k : Int) (w : World) (hb : Blk w g (shipS s) 52) :
    Calls Try.prog 11 #[.pointer (some ⟨g, 0, none⟩), .int .i64 k] w (Turn g w (helloS k s)) := by
  unfold helloS
  split
  · next h => exact hello_no g _ _ _ k w hb h
  · next h => rw [show wrap64 (k + 1) = k + 1 by unfold wrap64; omega]; exact hello_yes g _ _ _ k w hb (by omega) (by omega)
set_option maxHeartbeats 400000 in
theorem ack_no (g : Nat) (h : Bool) (a n k : Int) (w : World) (hb : Blk w g (ship h a n) 52) (hk : h = false ∨ k ≤ a ∨ k > 99999999) :
    Calls Try.prog 13 #[.pointer (some ⟨g, 0, none⟩), .int .i64 k] w (Turn g w (h, a, n)) := by
  have HB := Asd.mk hb; clear hb
  have c0 : w.cell? ⟨g, 0, none⟩ = some (.int .u32 (hB h)) := HB.out.cell 0 rfl
  cases h
  · have c0' : w.cell? ⟨g, 0, none⟩ = some (.int .u32 0) := c0
    clear c0 hk
    go_enter Try.func13, Try.ntmps13
    go_wp2_with fail
    refine (loadB _ _ _ _ c0').mono ?_; rintro e w1 ⟨rfl, rfl⟩
    go_wp2
    go_end0
    exact ⟨rfl, HB.out, Chg.refl _ _⟩
  · have c0' : w.cell? ⟨g, 0, none⟩ = some (.int .u32 1) := c0
    have hk' : k ≤ a ∨ k > 99999999 := by rcases hk with hk | hk; cases hk; exact hk
    clear c0 hk
    by_cases h1 : a < k
    · have h2 : 99999999 < k := by omega
      clear hk'
      go_enter Try.func13, Try.ntmps13
      go_wp2_with fail
      refine (loadB _ _ _ _ c0').mono ?_; rintro e w1 ⟨rfl, rfl⟩
      go_wp2_with fail
      refine (acked_any g true a n _ HB.out).mono ?_; rintro e w1 ⟨rfl, rfl⟩
      go_wp2
      go_end0
      exact ⟨rfl, HB.out, Chg.refl _ _⟩
    · clear hk'
      have h1' : k ≤ a := by omega
      go_enter Try.func13, Try.ntmps13
      go_wp2_with fail
      refine (loadB _ _ _ _ c0').mono ?_; rintro e w1 ⟨rfl, rfl⟩
      go_wp2_with fail
      refine (acked_any g true a n _ HB.out).mono ?_; rintro e w1 ⟨rfl, rfl⟩
      go_wp2
      go_end0
      exact ⟨rfl, HB.out, Chg.refl _ _⟩
set_option maxHeartbeats 400000 in
theorem ack_yes (g : Nat) (a n k : Int) (w : World) (hb : Blk w g (ship true a n) 52) (h1 : a < k) (h2 : k ≤ 99999999) (h3 : -9223372036854775808 ≤ a) :
    Calls Try.prog 13 #[.pointer (some ⟨g, 0, none⟩), .int .i64 k] w (Turn g w (true, k, if n < k + 1 then k + 1 else n)) := by
  have HB := Asd.mk hb; clear hb
  have c0' : w.cell? ⟨g, 0, none⟩ = some (.int .u32 1) := HB.out.cell 0 rfl
  by_cases hm : n < k + 1
  all_goals
    rw [show (if n < k + 1 then k + 1 else n) = _ from by first | rw [if_pos hm] | rw [if_neg hm]]
    go_enter Try.func13, Try.ntmps13
    go_wp2_with fail
    refine (loadB _ _ _ _ c0').mono ?_; rintro e w1 ⟨rfl, rfl⟩
    go_wp2_with fail
    refine (acked_any g true a n _ HB.out).mono ?_; rintro e w1 ⟨rfl, rfl⟩
    go_wp2_with fail
    refine (raise_up HB.out 1 a k rfl h1).mono ?_; rintro e w1 ⟨rfl, hb1, hc1⟩
    have HB1 := Asd.mk hb1; have HC1 := Asd.mk hc1; clear hb1 hc1
    go_wp2_with fail
    first
      | (refine (raise_up HB1.out 2 n (k + 1) rfl (by omega)).mono ?_; rintro e w2 ⟨rfl, hb2, hc2⟩
         have HB2 := Asd.mk hb2; have HC2 := Asd.mk hc2; clear hb2 hc2
         go_wp2
         go_end0
         exact ⟨rfl, HB2.out, HC1.out.trans HC2.out⟩)
      | (refine (raise_not HB1.out 2 n (k + 1) rfl (by omega)).mono ?_; rintro e w2 ⟨rfl, hb2, hc2⟩
         have HB2 := Asd.mk hb2; have HC2 := Asd.mk hc2; clear hb2 hc2
         go_wp2
         go_end0
         exact ⟨rfl, HB2.out, HC1.out.trans HC2.out⟩)
end Go.Proofs.Ythkiofmfegeknaa.Sx
