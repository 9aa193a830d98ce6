/- Contracts of the methods of Ship: what is sent next. -/
import Derived.Test.YthkiofmfegeknaaSx2
import Derived.Deep.QuietTactic
import Derived.BigQuiet
namespace Go.Proofs.Ythkiofmfegeknaa.Sx
open Go.RowKit
open Go.Proofs.Ythkiofmfegeknaa.Xb
set_option linter.unusedSimpArgs false
set_option linter.unusedVariables false
set_option maxHeartbeats 400000 in
theorem sent_no (g : Nat) (h : Bool) (a n fr k : Int) (w : World) (hb : Blk w g (ship h a n) 52) (hk : k < 1 ∨ 4 < k) :
    Calls Try.prog 12 #[.pointer (some ⟨g, 0, none⟩), .int .i64 fr, .int .i64 k] w (Turn g w (h, a, n)) := by
  have HB := Asd.mk hb; clear hb
  rcases hk with hk | hk
  all_goals
    go_enter Try.func12, Try.ntmps12
    go_wp2
    go_end0
    exact ⟨rfl, HB.out, Chg.refl _ _⟩
theorem casHit {g : Nat} {t : TypeId} {cs : Array Value} {w : World} (hb : Blk w g cs t) (i : Nat) (x y : Int) (e : cs[i]? = some (.int .i64 x)) :
    Calls Try.prog 26 #[.pointer (some ⟨g, i, none⟩), .int .i64 x, .int .i64 y] w fun e w' => e = .returned (.bool true) ∧ Blk w' g (cs.setIfInBounds i (.int .i64 y)) t ∧ Chg g w w' := by
  refine (cas_hit g i x y w (hb.cell i e) (hb.frozen i)).mono ?_
  rintro e w' ⟨rfl, rfl⟩
  exact ⟨rfl, hb.put i _ rfl, (Chg.refl _ _).set i _⟩
set_option maxHeartbeats 400000 in
theorem sent_hit (g : Nat) (h : Bool) (a n k : Int) (w : World) (hb : Blk w g (ship h a n) 52) (h1 : 1 ≤ k) (h2 : k ≤ 4) :
    Calls Try.prog 12 #[.pointer (some ⟨g, 0, none⟩), .int .i64 n, .int .i64 k] w (Turn g w (h, a, wrap64 (n + k))) := by
  have HB := Asd.mk hb; clear hb
  go_enter Try.func12, Try.ntmps12
  go_wp2_with fail
  refine (casHit HB.out 2 n _ rfl).mono ?_; rintro e w1 ⟨rfl, hb1, hc1⟩
  have HB1 := Asd.mk hb1; have HC1 := Asd.mk hc1; clear hb1 hc1
  go_wp2
  go_end0
  exact ⟨rfl, HB1.out, HC1.out⟩
set_option maxHeartbeats 400000 in
theorem sent_miss (g : Nat) (h : Bool) (a n fr k : Int) (w : World) (hb : Blk w g (ship h a n) 52) (h1 : 1 ≤ k) (h2 : k ≤ 4) (hne : ¬ n = fr) :
    Calls Try.prog 12 #[.pointer (some ⟨g, 0, none⟩), .int .i64 fr, .int .i64 k] w (Turn g w (h, a, n)) := by
  have HB := Asd.mk hb; clear hb
  have HN := Asd.mk hne; clear hne
  go_enter Try.func12, Try.ntmps12
  go_wp2_with fail
  refine (cas_miss g 2 n fr _ _ (HB.out.cell 2 rfl) (HB.out.frozen 2) HN.out).mono ?_; rintro e w1 ⟨rfl, rfl⟩
  go_wp2
  go_end0
  exact ⟨rfl, HB.out, Chg.refl _ _⟩
theorem sent_any (g : Nat) (s : Bool × Int × Int) (fr k : Int) (w : World) (hb : Blk w g (shipS s) 52) :
    Calls Try.prog 12 #[.pointer (some ⟨g, 0, none⟩), .int .i64 fr, .int .i64 k] w (Turn g w (sentS fr k s)) := by
  unfold sentS
  split
  · next h => obtain ⟨h1, h2, rfl⟩ := h; exact sent_hit g _ _ _ k w hb h1 h2
  · next h =>
    by_cases h3 : k < 1 ∨ 4 < k
    · exact sent_no g _ _ _ fr k w hb h3
    · exact sent_miss g _ _ _ fr k w hb (by omega) (by omega) (fun e => h ⟨by omega, by omega, e⟩)
theorem ack_any (g : Nat) (s : Bool × Int × Int) (k : Int) (w : World) (hb : Blk w g (shipS s) 52) (h3 : -9223372036854775808 ≤ s.2.1) :
    Calls Try.prog 13 #[.pointer (some ⟨g, 0, none⟩), .int .i64 k] w (Turn g w (ackS k s)) := by
  obtain ⟨h, a, n⟩ := s
  unfold ackS
  split
  · next c =>
    obtain ⟨c0, c1, c2⟩ := c
    have c1' : a < k := c1
    have h3' : -9223372036854775808 ≤ a := h3
    have c0' : h = true := c0
    subst c0'
    have hw : wrap64 (k + 1) = k + 1 := by unfold wrap64; omega
    simp only [hw]
    exact ack_yes g a n k w hb c1 c2 h3'
  · next c =>
    simp only at c
    refine ack_no g h a n k w hb ?_
    cases h
    · exact .inl rfl
    · right
      by_cases h1 : k ≤ a
      · exact .inl h1
      · exact .inr (Int.not_le.1 (fun x => c ⟨rfl, Int.not_le.1 h1, x⟩))
set_option maxHeartbeats 400000 in
theorem again_no (g : Nat) (a n : Int) (w : World) (hb : Blk w g (ship false a n) 52) :
    Calls Try.prog 15 #[.pointer (some ⟨g, 0, none⟩)] w (Turn g w (false, a, n)) := by
  have HB := Asd.mk hb; clear hb
  have c0 : w.cell? ⟨g, 0, none⟩ = some (.int .u32 0) := HB.out.cell 0 rfl
  go_enter Try.func15, Try.ntmps15
  go_wp2_with fail
  refine (loadB _ _ _ _ c0).mono ?_; rintro e w1 ⟨rfl, rfl⟩
  go_wp2
  go_end0
  exact ⟨rfl, HB.out, Chg.refl _ _⟩
set_option maxHeartbeats 400000 in
theorem again_yes (g : Nat) (a n : Int) (w : World) (hb : Blk w g (ship true a n) 52) :
    Calls Try.prog 15 #[.pointer (some ⟨g, 0, none⟩)] w (Turn g w (true, a, wrap64 (a + 1))) := by
  have HB := Asd.mk hb; clear hb
  have c0 : w.cell? ⟨g, 0, none⟩ = some (.int .u32 1) := HB.out.cell 0 rfl
  go_enter Try.func15, Try.ntmps15
  go_wp2_with fail
  refine (loadB _ _ _ _ c0).mono ?_; rintro e w1 ⟨rfl, rfl⟩
  go_wp2_with fail
  go_region_with (first | (go_at_call 23; refine (load64 g 1 a _ (HB.out.drew.cell 1 rfl)).mono ?_; rintro e w1 ⟨rfl, rfl⟩) | (go_at_call 22; refine (put64 HB.out.drew 2 n _ rfl).mono ?_; rintro e w2 ⟨rfl, hb2, hc2⟩))
  go_wp2
  go_end0
  exact ⟨rfl, by rw [Go.Proofs.YthkiofmfegeknaaW.PrintLast.i64_w] at hb2; exact hb2, (Chg.refl _ _).drew.trans hc2⟩
theorem again_any (g : Nat) (s : Bool × Int × Int) (w : World) (hb : Blk w g (shipS s) 52) :
    Calls Try.prog 15 #[.pointer (some ⟨g, 0, none⟩)] w (Turn g w (againS s)) := by
  obtain ⟨h, a, n⟩ := s
  cases h
  · exact again_no g a n w hb
  · exact again_yes g a n w hb
/-- What is sent next. -/
def planS (fi la : Int) (s : Bool × Int × Int) : Int × Int × Bool := if s.1 = false ∨ la < s.2.2 then (0, 0, false) else if s.2.2 < fi then (0, 0, true) else (s.2.2, if 4 < wrap64 (wrap64 (la - s.2.2) + 1) then 4 else wrap64 (wrap64 (la - s.2.2) + 1), false)
def planV (p : Int × Int × Bool) : Value := .tuple #[.int .i64 p.1, .int .i64 p.2.1, .bool p.2.2]
set_option maxHeartbeats 400000 in
theorem plan_any (g : Nat) (h : Bool) (a n fi la : Int) (w : World) (hb : Blk w g (ship h a n) 52) :
    Calls Try.prog 9 #[.pointer (some ⟨g, 0, none⟩), .int .i64 fi, .int .i64 la] w fun e w' => e = .returned (planV (planS fi la (h, a, n))) ∧ w = w' := by
  have HB := Asd.mk hb; clear hb
  have c0 : w.cell? ⟨g, 0, none⟩ = some (.int .u32 (hB h)) := HB.out.cell 0 rfl
  have c2 := HB.out.cell 2 rfl
  cases h
  · have hp : Hid (planS fi la (false, a, n) = (0, 0, false)) := Lib.hid (by unfold planS; rw [if_pos (.inl rfl)])
    have c0' : w.cell? ⟨g, 0, none⟩ = some (.int .u32 0) := c0
    clear c0
    go_enter Try.func9, Try.ntmps9
    go_wp2_with fail
    refine (load64 _ _ _ _ c2).mono ?_; rintro e w1 ⟨rfl, rfl⟩
    go_wp2_with fail
    refine (loadB _ _ _ _ c0').mono ?_; rintro e w1 ⟨rfl, rfl⟩
    go_wp2
    go_ret3
    rw [hp.out]; exact ⟨rfl, rfl⟩
  · have c0' : w.cell? ⟨g, 0, none⟩ = some (.int .u32 1) := c0
    clear c0
    by_cases h1 : la < n
    · have hp : Hid (planS fi la (true, a, n) = (0, 0, false)) := Lib.hid (by unfold planS; rw [if_pos (.inr h1)])
      go_enter Try.func9, Try.ntmps9
      go_wp2_with fail
      refine (load64 _ _ _ _ c2).mono ?_; rintro e w1 ⟨rfl, rfl⟩
      go_wp2_with fail
      refine (loadB _ _ _ _ c0').mono ?_; rintro e w1 ⟨rfl, rfl⟩
      go_wp2
      go_ret3
      rw [hp.out]; exact ⟨rfl, rfl⟩
    · by_cases h2 : n < fi
      · have hp : Hid (planS fi la (true, a, n) = (0, 0, true)) := Lib.hid (by unfold planS; rw [if_neg (by simp; omega), if_pos h2])
        go_enter Try.func9, Try.ntmps9
        go_wp2_with fail
        refine (load64 _ _ _ _ c2).mono ?_; rintro e w1 ⟨rfl, rfl⟩
        go_wp2_with fail
        refine (loadB _ _ _ _ c0').mono ?_; rintro e w1 ⟨rfl, rfl⟩
        go_wp2
        go_ret3
        rw [hp.out]; exact ⟨rfl, rfl⟩
      · have hp : Hid (planS fi la (true, a, n) = (n, if 4 < wrap64 (wrap64 (la - n) + 1) then 4 else wrap64 (wrap64 (la - n) + 1), false)) := Lib.hid (by unfold planS; rw [if_neg (by simp; omega), if_neg h2])
        go_enter Try.func9, Try.ntmps9
        go_wp2_with fail
        refine (load64 _ _ _ _ c2).mono ?_; rintro e w1 ⟨rfl, rfl⟩
        go_wp2_with fail
        refine (loadB _ _ _ _ c0').mono ?_; rintro e w1 ⟨rfl, rfl⟩
        go_wp2
        all_goals
          go_ret3
          rw [hp.out]
        · have hm : 4 < wrap64 (wrap64 (la - n) + 1) := by assumption
          rw [if_pos hm]; exact ⟨rfl, rfl⟩
        · have hm : wrap64 (wrap64 (la - n) + 1) ≤ 4 := by assumption
          rw [if_neg (by omega)]; exact ⟨rfl, rfl⟩
/-- The reference's Ship. -/
abbrev shipR (s : Bool × Int × Int) : Array Value := #[.bool s.1, .int .i64 s.2.1, .int .i64 s.2.2]
def TurnR (g : Nat) (w : World) (s : Bool × Int × Int) (e : Ending) (w' : World) : Prop := e = .returned (.tuple #[]) ∧ Blk w' g (shipR s) 41 ∧ Chg g w w'
set_option maxHeartbeats 400000 in
theorem rnew_any (w : World) : Calls Try.prog 16 #[] w fun e w' => e = .returned (.pointer (some ⟨w.heap.size, 0, none⟩)) ∧ Blk w' w.heap.size (shipR (false, 0, 1)) 41 ∧ Below w.heap.size w w' := by
  go_enter Try.func16, Try.ntmps16
  go_wp2
  go_ret
  exact ⟨rfl, Blk.new _ _ _, below_alloc (Below.refl _ _) _⟩
set_option maxHeartbeats 400000 in
theorem rhello_any (g : Nat) (s : Bool × Int × Int) (k : Int) (w : World) (hb : Blk w g (shipR s) 41) :
    Calls Try.prog 17 #[.pointer (some ⟨g, 0, none⟩), .int .i64 k] w (TurnR g w (helloS k s)) := by
  obtain ⟨h, a, n⟩ := s
  have c0 := hb.cell 0 rfl; have c1 := hb.cell 1 rfl; have c2 := hb.cell 2 rfl
  have f0 := hb.frozen 0; have f1 := hb.frozen 1; have f2 := hb.frozen 2
  have HB := Asd.mk hb; clear hb
  by_cases hk : k < 0 ∨ k > 99999999
  · have hs : Hid (helloS k (h, a, n) = (h, a, n)) := Lib.hid (by unfold helloS; rw [if_pos hk])
    rcases hk with hk | hk
    all_goals
      go_enter Try.func17, Try.ntmps17
      go_wp2
      go_end0
      rw [hs.out]; exact ⟨rfl, HB.out, Chg.refl _ _⟩
  · have hs : Hid (helloS k (h, a, n) = (true, k, k + 1)) := Lib.hid (by unfold helloS; rw [if_neg hk]; rw [show wrap64 (k + 1) = k + 1 by unfold wrap64; omega])
    have hk1 : 0 ≤ k := by omega
    have hk2 : k ≤ 99999999 := by omega
    clear hk
    go_enter Try.func17, Try.ntmps17
    go_wp2
    go_end0
    rw [hs.out]
    exact ⟨rfl, ((HB.out.put 0 _ rfl).put 1 _ rfl).put 2 _ rfl, (((Chg.refl _ _).set 0 _).set 1 _).set 2 _⟩
set_option maxHeartbeats 400000 in
theorem rsent_any (g : Nat) (s : Bool × Int × Int) (fr k : Int) (w : World) (hb : Blk w g (shipR s) 41) :
    Calls Try.prog 19 #[.pointer (some ⟨g, 0, none⟩), .int .i64 fr, .int .i64 k] w (TurnR g w (sentS fr k s)) := by
  obtain ⟨h, a, n⟩ := s
  have c0 := hb.cell 0 rfl; have c1 := hb.cell 1 rfl; have c2 := hb.cell 2 rfl
  have f0 := hb.frozen 0; have f1 := hb.frozen 1; have f2 := hb.frozen 2
  have HB := Asd.mk hb; clear hb
  by_cases hn : n = fr
  · subst hn
    go_enter Try.func19, Try.ntmps19
    go_wp2
    · have h1 : 1 ≤ k := by assumption
      have h2 : k ≤ 4 := by assumption
      go_end0
      rw [show sentS n k (h, a, n) = (h, a, wrap64 (n + k)) by unfold sentS; rw [if_pos ⟨h1, h2, rfl⟩]]
      exact ⟨rfl, HB.out.put 2 _ rfl, (Chg.refl _ _).set 2 _⟩
    · have h2 : 4 < k := by assumption
      go_end0
      rw [show sentS n k (h, a, n) = (h, a, n) by unfold sentS; rw [if_neg (by omega)]]
      exact ⟨rfl, HB.out, Chg.refl _ _⟩
    · have h2 : k < 1 := by assumption
      go_end0
      rw [show sentS n k (h, a, n) = (h, a, n) by unfold sentS; rw [if_neg (by omega)]]
      exact ⟨rfl, HB.out, Chg.refl _ _⟩
  · have hn' : (fr == n) = false := beq_eq_false_iff_ne.2 (fun e => hn e.symm)
    have hs : Hid (sentS fr k (h, a, n) = (h, a, n)) := Lib.hid (by unfold sentS; rw [if_neg (fun c => hn c.2.2)])
    clear hn
    go_enter Try.func19, Try.ntmps19
    go_wp2
    go_end0
    rw [hs.out]; exact ⟨rfl, HB.out, Chg.refl _ _⟩
set_option maxHeartbeats 400000 in
theorem ragain_any (g : Nat) (s : Bool × Int × Int) (w : World) (hb : Blk w g (shipR s) 41) :
    Calls Try.prog 20 #[.pointer (some ⟨g, 0, none⟩)] w (TurnR g w (againS s)) := by
  obtain ⟨h, a, n⟩ := s
  have c0 := hb.cell 0 rfl; have c1 := hb.cell 1 rfl; have c2 := hb.cell 2 rfl
  have f0 := hb.frozen 0; have f1 := hb.frozen 1; have f2 := hb.frozen 2
  have HB := Asd.mk hb; clear hb
  cases h
  · go_enter Try.func20, Try.ntmps20
    go_wp2
    go_end0
    exact ⟨rfl, HB.out, Chg.refl _ _⟩
  · go_enter Try.func20, Try.ntmps20
    go_wp2
    go_end0
    exact ⟨rfl, HB.out.put 2 _ rfl, (Chg.refl _ _).set 2 _⟩
set_option maxHeartbeats 400000 in
theorem rack_any (g : Nat) (s : Bool × Int × Int) (k : Int) (w : World) (hb : Blk w g (shipR s) 41) (h3 : -9223372036854775808 ≤ s.2.1) :
    Calls Try.prog 18 #[.pointer (some ⟨g, 0, none⟩), .int .i64 k] w (TurnR g w (ackS k s)) := by
  obtain ⟨h, a, n⟩ := s
  have h3' : -9223372036854775808 ≤ a := h3
  clear h3
  have c0 := hb.cell 0 rfl; have c1 := hb.cell 1 rfl; have c2 := hb.cell 2 rfl
  have f0 := hb.frozen 0; have f1 := hb.frozen 1; have f2 := hb.frozen 2
  have HB := Asd.mk hb; clear hb
  cases h
  · go_enter Try.func18, Try.ntmps18
    go_wp2
    go_end0
    exact ⟨rfl, HB.out, Chg.refl _ _⟩
  · by_cases hk : a < k
    · by_cases hk2 : k ≤ 99999999
      · go_enter Try.func18, Try.ntmps18
        have hw : wrap64 (k + 1) = k + 1 := by unfold wrap64; omega
        go_wp2
        all_goals
          go_end0
        all_goals
          refine ⟨rfl, ?_, ?_⟩
        any_goals exact ((Chg.refl _ _).set 1 _).set 2 _
        all_goals
          unfold ackS
          rw [if_pos ⟨rfl, hk, hk2⟩]
          simp only [hw]
        · have h : n < k + 1 := by assumption
          rw [if_pos h]; exact (HB.out.put 1 _ rfl).put 2 _ rfl
        · have h : k + 1 ≤ n := by assumption
          rw [if_neg (by omega)]; exact (HB.out.put 1 _ rfl).put 2 _ rfl
      · have hs : Hid (ackS k (true, a, n) = (true, a, n)) := Lib.hid (by unfold ackS; rw [if_neg (fun c => hk2 c.2.2)])
        have hk3 : 99999999 < k := by omega
        clear hk2
        go_enter Try.func18, Try.ntmps18
        go_wp2
        go_end0
        rw [hs.out]; exact ⟨rfl, HB.out, Chg.refl _ _⟩
    · have hs : Hid (ackS k (true, a, n) = (true, a, n)) := Lib.hid (by unfold ackS; rw [if_neg (fun c => hk c.2.1)])
      go_enter Try.func18, Try.ntmps18
      go_wp2
      go_end0
      rw [hs.out]; exact ⟨rfl, HB.out, Chg.refl _ _⟩
theorem min_four (x : Int) : (if x < 4 then x else 4) = if 4 < x then 4 else x := by split <;> split <;> omega
set_option maxHeartbeats 400000 in
theorem rplan_any (g : Nat) (h : Bool) (a n fi la : Int) (w : World) (hb : Blk w g (shipR (h, a, n)) 41) :
    Calls Try.prog 21 #[.pointer (some ⟨g, 0, none⟩), .int .i64 fi, .int .i64 la] w fun e w' => e = .returned (planV (planS fi la (h, a, n))) ∧ ∃ m, w' = w.drewN m := by
  have c0 := hb.cell 0 rfl; have c2 := hb.cell 2 rfl
  have HB := Asd.mk hb; clear hb
  cases h
  · have hp : Hid (planS fi la (false, a, n) = (0, 0, false)) := Lib.hid (by unfold planS; rw [if_pos (.inl rfl)])
    go_enter Try.func21, Try.ntmps21
    go_wp2
    go_ret3
    rw [hp.out]; exact ⟨rfl, 0, rfl⟩
  · by_cases h1 : la < n
    · have hp : Hid (planS fi la (true, a, n) = (0, 0, false)) := Lib.hid (by unfold planS; rw [if_pos (.inr h1)])
      go_enter Try.func21, Try.ntmps21
      go_wp2
      go_ret3
      rw [hp.out]; exact ⟨rfl, 0, rfl⟩
    · by_cases h2 : n < fi
      · have hp : Hid (planS fi la (true, a, n) = (0, 0, true)) := Lib.hid (by unfold planS; rw [if_neg (by simp; omega), if_pos h2])
        go_enter Try.func21, Try.ntmps21
        go_wp2
        go_ret3
        rw [hp.out]; exact ⟨rfl, 0, rfl⟩
      · have hp : Hid (planS fi la (true, a, n) = (n, if 4 < wrap64 (wrap64 (la - n) + 1) then 4 else wrap64 (wrap64 (la - n) + 1), false)) := Lib.hid (by unfold planS; rw [if_neg (by simp; omega), if_neg h2])
        go_enter Try.func21, Try.ntmps21
        go_wp2
        go_quiet (fail)
        go_wp2
        · have hm : wrap64 (wrap64 (la - n) + 1) < 4 := by assumption
          go_ret3
          rw [hp.out, if_neg (by omega)]; exact ⟨rfl, _, rfl⟩
        · have hm : 4 ≤ wrap64 (wrap64 (la - n) + 1) := by assumption
          have hm2 : (if 4 < wrap64 (wrap64 (la - n) + 1) then (4 : Int) else wrap64 (wrap64 (la - n) + 1)) = 4 := by split <;> omega
          go_ret3
          rw [hp.out, hm2]; exact ⟨rfl, _, rfl⟩
end Go.Proofs.Ythkiofmfegeknaa.Sx
