/- The law ShipAll as a contract. -/
import Derived.Test.YthkiofmfegeknaaSx4
import Derived.Deep.LoopGhost
namespace Go.Proofs.Ythkiofmfegeknaa.Sx
open Go.RowKit
open Go.Proofs.Ythkiofmfegeknaa.Xb
set_option linter.unusedSimpArgs false
set_option linter.unusedVariables false
theorem ack_at (g : Nat) (s s' : Bool × Int × Int) (k : Int) (w : World) (hb : Blk w g (shipS s) 52) (h3 : -9223372036854775808 ≤ s.2.1) (h : ackS k s = s') :
    Calls Try.prog 13 #[.pointer (some ⟨g, 0, none⟩), .int .i64 k] w (Turn g w s') := h ▸ ack_any g s k w hb h3
/-- What holds at each round's head. -/
def AllRel (H L : Int) (g q : Nat) (A : Int) (k : Nat) (w wr : World) : Prop :=
  H ≤ A ∧ A ≤ L ∧ (A = L ∨ H + 4 * k ≤ A) ∧ k ≤ 60 ∧ q + k = 61 ∧ Blk wr g (ship true A (A + 1)) 52 ∧ Below w.heap.size w wr
set_option maxHeartbeats 1000000 in
theorem all_core (x y H L : Int) (w : World) (hL : wrap64 ((IntKind.u64.wrap y).tmod 100) = L) (hH : wrap64 ((IntKind.u64.wrap x).tmod (L + 1)) = H) (a1 : 0 ≤ H) (hHL : H ≤ L) (a3 : L ≤ 99) (h1 : Asd (helloS H (false, 0, 1) = (true, H, H + 1))) :
    Calls Try.prog 4 #[.int .i64 x, .int .i64 y] w fun e w' => e = .returned (.bool true) ∧ Below w.heap.size w w' := by
  go_enter Try.func4, Try.ntmps4
  have HB : Asd (Below w.heap.size w w) := ⟨Below.refl _ _⟩
  go_wp2_with fail
  refine (works_any _).mono ?_; rintro en w1 ⟨rfl, hb1⟩
  have h_ : Below w.heap.size w w1 := below_step (by repeat (first | exact HB.out | apply below_alloc | apply below_drewN | apply below_drew | refine below_set ?_ (by have := HB.out.size; omega))) hb1
  clear HB hb1; have HB := Asd.mk h_; clear h_; have Z : w.heap.size ≤ w1.heap.size := HB.out.size
  go_wp2_with fail
  simp only [hL, hH]
  clear hL hH
  refine (new_any _).mono ?_; rintro en w2 ⟨rfl, hk, hb⟩
  have k_s : Blk w2 (w1.heap.size) #[.int .u32 (hB false), .int .i64 0, .int .i64 1] 52 := hk
  have Gs : w.heap.size ≤ w1.heap.size := (by have := HB.out.size; omega)
  have h_ : Below w.heap.size w w2 := below_step (by repeat (first | exact HB.out | apply below_alloc | apply below_drewN | apply below_drew)) hb
  clear  HB Z hk hb; have HB := Asd.mk h_; clear h_; have Z : w.heap.size ≤ w2.heap.size := HB.out.size
  have Ks := Asd.mk k_s; have Ls := k_s.lt; have cs0 := k_s.cell 0 rfl; have fs0 := k_s.frozen 0; have cs1 := k_s.cell 1 rfl; have fs1 := k_s.frozen 1; have cs2 := k_s.cell 2 rfl; have fs2 := k_s.frozen 2; clear k_s
  go_wp2_with fail
  refine (hello_at w1.heap.size (false, 0, 1) (true, H, H + 1) H _ Ks.out h1.out).mono ?_; rintro en w3 ⟨rfl, hk, hc⟩
  have k_s : Blk w3 (w1.heap.size) #[.int .u32 (hB true), .int .i64 H, .int .i64 (H + 1)] 52 := hk
  have h_ : Below w.heap.size w w3 := below_chg (by repeat (first | exact HB.out | apply below_alloc | apply below_drewN | apply below_drew)) hc (by have := HB.out.size; omega)
  clear Ks Ls cs0 fs0 cs1 fs1 cs2 fs2 HB Z hk hc; have HB := Asd.mk h_; clear h_; have Z : w.heap.size ≤ w3.heap.size := HB.out.size
  have Ks := Asd.mk k_s; have Ls := k_s.lt; have cs0 := k_s.cell 0 rfl; have fs0 := k_s.frozen 0; have cs1 := k_s.cell 1 rfl; have fs1 := k_s.frozen 1; have cs2 := k_s.cell 2 rfl; have fs2 := k_s.frozen 2; clear k_s
  go_wp2_with fail
  go_loopg [6, 7] 61 (fun q at_ i wr => ∃ (A : Int) (k : Nat), at_ = .int .i64 A ∧ i = .int .i64 (k : Int) ∧ AllRel H L w1.heap.size q A k w wr)
  case atStart => exact ⟨H, 0, rfl, rfl, Int.le_refl _, hHL, .inr (by omega), by omega, by omega, Ks.out, HB.out⟩
  case round =>
    obtain ⟨A, k, rfl, rfl, r1, r2, r3, r4, r5, r6, r7⟩ := hrel
    clear Ks cs0 cs1 cs2 fs0 fs1 fs2 Ls HB Z
    have R3 := Asd.mk r3; have R5 := Asd.mk r5; clear r3 r5
    have HB := Asd.mk r7; clear r7; have Z : w.heap.size ≤ wr.heap.size := HB.out.size; have k_s : Blk wr (w1.heap.size) #[.int .u32 (hB true), .int .i64 A, .int .i64 (A + 1)] 52 := r6; clear r6
    have Ks := Asd.mk k_s; have Ls := k_s.lt; have cs0 := k_s.cell 0 rfl; have fs0 := k_s.frozen 0; have cs1 := k_s.cell 1 rfl; have fs1 := k_s.frozen 1; have cs2 := k_s.cell 2 rfl; have fs2 := k_s.frozen 2; clear k_s
    by_cases hlt : k < 60
    · by_cases hc : L ≤ A
      · have hAL : (A == L) = true := beq_iff_eq.2 (by omega)
        go_wp2_with fail
        refine (plan_at (p := (0, 0, false)) w1.heap.size true A (A + 1) 1 L _ Ks.out (by unfold planS; rw [if_pos (.inr (show L < A + 1 by omega))])).mono ?_; rintro en w_ ⟨rfl, rfl⟩
        go_wp2_with fail
        refine (acked_any w1.heap.size true A (A + 1) _ Ks.out).mono ?_; rintro en w_ ⟨rfl, rfl⟩
        go_wp2
        go_ret
        exact ⟨rfl, HB.out⟩
      · by_cases hq : A + 4 < L
        · have hw1 : wrap64 (A + 1 + 4) = A + 1 + 4 := by unfold wrap64; omega
          have hw2 : wrap64 (A + 4 + 1) = A + 1 + 4 := by unfold wrap64; omega
          have HW1 := Asd.mk hw1; have HW2 := Asd.mk hw2; clear hw1 hw2
          go_wp2_with fail
          refine (plan_at (p := (A + 1, 4, false)) w1.heap.size true A (A + 1) 1 L _ Ks.out (by unfold planS; rw [if_neg (by simp; omega), if_neg (show ¬ A + 1 < 1 by omega)]; simp only [show wrap64 (wrap64 (L - (A + 1)) + 1) = L - A by unfold wrap64; omega]; rw [if_pos (by omega)])).mono ?_; rintro en w_ ⟨rfl, rfl⟩
          go_wp2_with fail
          refine (sent_at w1.heap.size (true, A, A + 1) (true, A, A + 1 + 4) (A + 1) 4 _ Ks.out (by unfold sentS; rw [if_pos (by simp <;> omega), HW1.out])).mono ?_; rintro en w4 ⟨rfl, hk, hc⟩
          have k_s : Blk w4 (w1.heap.size) #[.int .u32 (hB true), .int .i64 A, .int .i64 (A + 1 + 4)] 52 := hk
          have h_ : Below w.heap.size w w4 := below_chg (by repeat (first | exact HB.out | apply below_alloc | apply below_drewN | apply below_drew)) hc (by have := HB.out.size; omega)
          clear Ks Ls cs0 fs0 cs1 fs1 cs2 fs2 HB Z hk hc; have HB := Asd.mk h_; clear h_; have Z : w.heap.size ≤ w4.heap.size := HB.out.size
          have Ks := Asd.mk k_s; have Ls := k_s.lt; have cs0 := k_s.cell 0 rfl; have fs0 := k_s.frozen 0; have cs1 := k_s.cell 1 rfl; have fs1 := k_s.frozen 1; have cs2 := k_s.cell 2 rfl; have fs2 := k_s.frozen 2; clear k_s
          go_wp2_with fail
          try rw [show A + 1 + 4 - 1 = A + 4 by omega]
          refine (ack_at w1.heap.size (true, A, A + 1 + 4) (true, A + 4, A + 1 + 4) (A + 4) _ Ks.out (show _ ≤ A by omega) (by unfold ackS; rw [if_pos ⟨rfl, show A < A + 4 by omega, by omega⟩]; simp only [HW2.out]; rw [if_neg (by omega)])).mono ?_; rintro en w5 ⟨rfl, hk, hc⟩
          have k_s : Blk w5 (w1.heap.size) #[.int .u32 (hB true), .int .i64 (A + 4), .int .i64 (A + 1 + 4)] 52 := hk
          have h_ : Below w.heap.size w w5 := below_chg (by repeat (first | exact HB.out | apply below_alloc | apply below_drewN | apply below_drew)) hc (by have := HB.out.size; omega)
          clear Ks Ls cs0 fs0 cs1 fs1 cs2 fs2 HB Z hk hc; have HB := Asd.mk h_; clear h_; have Z : w.heap.size ≤ w5.heap.size := HB.out.size
          have Ks := Asd.mk k_s; have Ls := k_s.lt; have cs0 := k_s.cell 0 rfl; have fs0 := k_s.frozen 0; have cs1 := k_s.cell 1 rfl; have fs1 := k_s.frozen 1; have cs2 := k_s.cell 2 rfl; have fs2 := k_s.frozen 2; clear k_s
          go_wp2_with fail
          go_roundg (gk - 1)
          case measure => have := R5.out; omega
          case rel => exact ⟨A + 4, k + 1, by go_num, by go_num, by omega, by omega, (by have := R3.out; omega), by omega, (by have := R5.out; omega), (show Blk _ _ _ 52 from by rw [show A + 4 + 1 = A + 1 + 4 by omega]; exact Ks.out), HB.out⟩
        · have hw1 : wrap64 (A + 1 + (L - A)) = A + 1 + (L - A) := by unfold wrap64; omega
          have hw2 : wrap64 (A + (L - A) + 1) = A + 1 + (L - A) := by unfold wrap64; omega
          have HW1 := Asd.mk hw1; have HW2 := Asd.mk hw2; clear hw1 hw2
          go_wp2_with fail
          refine (plan_at (p := (A + 1, (L - A), false)) w1.heap.size true A (A + 1) 1 L _ Ks.out (by unfold planS; rw [if_neg (by simp; omega), if_neg (show ¬ A + 1 < 1 by omega)]; simp only [show wrap64 (wrap64 (L - (A + 1)) + 1) = L - A by unfold wrap64; omega]; rw [if_neg (by omega)])).mono ?_; rintro en w_ ⟨rfl, rfl⟩
          go_wp2_with fail
          refine (sent_at w1.heap.size (true, A, A + 1) (true, A, A + 1 + (L - A)) (A + 1) (L - A) _ Ks.out (by unfold sentS; rw [if_pos (by simp <;> omega), HW1.out])).mono ?_; rintro en w4 ⟨rfl, hk, hc⟩
          have k_s : Blk w4 (w1.heap.size) #[.int .u32 (hB true), .int .i64 A, .int .i64 (A + 1 + (L - A))] 52 := hk
          have h_ : Below w.heap.size w w4 := below_chg (by repeat (first | exact HB.out | apply below_alloc | apply below_drewN | apply below_drew)) hc (by have := HB.out.size; omega)
          clear Ks Ls cs0 fs0 cs1 fs1 cs2 fs2 HB Z hk hc; have HB := Asd.mk h_; clear h_; have Z : w.heap.size ≤ w4.heap.size := HB.out.size
          have Ks := Asd.mk k_s; have Ls := k_s.lt; have cs0 := k_s.cell 0 rfl; have fs0 := k_s.frozen 0; have cs1 := k_s.cell 1 rfl; have fs1 := k_s.frozen 1; have cs2 := k_s.cell 2 rfl; have fs2 := k_s.frozen 2; clear k_s
          go_wp2_with fail
          try rw [show A + 1 + (L - A) - 1 = A + (L - A) by omega]
          refine (ack_at w1.heap.size (true, A, A + 1 + (L - A)) (true, A + (L - A), A + 1 + (L - A)) (A + (L - A)) _ Ks.out (show _ ≤ A by omega) (by unfold ackS; rw [if_pos ⟨rfl, show A < A + (L - A) by omega, by omega⟩]; simp only [HW2.out]; rw [if_neg (by omega)])).mono ?_; rintro en w5 ⟨rfl, hk, hc⟩
          have k_s : Blk w5 (w1.heap.size) #[.int .u32 (hB true), .int .i64 (A + (L - A)), .int .i64 (A + 1 + (L - A))] 52 := hk
          have h_ : Below w.heap.size w w5 := below_chg (by repeat (first | exact HB.out | apply below_alloc | apply below_drewN | apply below_drew)) hc (by have := HB.out.size; omega)
          clear Ks Ls cs0 fs0 cs1 fs1 cs2 fs2 HB Z hk hc; have HB := Asd.mk h_; clear h_; have Z : w.heap.size ≤ w5.heap.size := HB.out.size
          have Ks := Asd.mk k_s; have Ls := k_s.lt; have cs0 := k_s.cell 0 rfl; have fs0 := k_s.frozen 0; have cs1 := k_s.cell 1 rfl; have fs1 := k_s.frozen 1; have cs2 := k_s.cell 2 rfl; have fs2 := k_s.frozen 2; clear k_s
          go_wp2_with fail
          go_roundg (gk - 1)
          case measure => have := R5.out; omega
          case rel => exact ⟨A + (L - A), k + 1, by go_num, by go_num, by omega, by omega, (by have := R3.out; omega), by omega, (by have := R5.out; omega), (show Blk _ _ _ 52 from by rw [show A + (L - A) + 1 = A + 1 + (L - A) by omega]; exact Ks.out), HB.out⟩
    · have hAL : (A == L) = true := beq_iff_eq.2 (by have := R3.out; omega)
      go_wp2_with fail
      refine (acked_any w1.heap.size true A (A + 1) _ Ks.out).mono ?_; rintro en w_ ⟨rfl, rfl⟩
      go_wp2
      go_ret
      exact ⟨rfl, HB.out⟩
theorem all_any (x y : Int) (w : World) :
    Calls Try.prog 4 #[.int .i64 x, .int .i64 y] w fun e w' => e = .returned (.bool true) ∧ Below w.heap.size w w' := by
  obtain ⟨L, hL, l1, l2⟩ := cut_num y 100 (by omega) (by omega)
  obtain ⟨H, hH, a1, a2⟩ := cut_num x (L + 1) (by omega) (by omega)
  exact all_core x y H L w hL hH a1 (by omega) (by omega) ⟨by unfold helloS; rw [if_neg (by omega)]; rw [show wrap64 (H + 1) = H + 1 by unfold wrap64; omega]⟩
end Go.Proofs.Ythkiofmfegeknaa.Sx
