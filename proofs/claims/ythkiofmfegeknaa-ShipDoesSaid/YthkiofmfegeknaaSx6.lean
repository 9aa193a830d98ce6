/- The law ShipAgain as a contract. -/
import Derived.Test.YthkiofmfegeknaaSx5
namespace Go.Proofs.Ythkiofmfegeknaa.Sx
open Go.RowKit
open Go.Proofs.Ythkiofmfegeknaa.Xb
set_option linter.unusedSimpArgs false
set_option linter.unusedVariables false
theorem again_at (g : Nat) (s s' : Bool × Int × Int) (w : World) (hb : Blk w g (shipS s) 52) (h : againS s = s') :
    Calls Try.prog 15 #[.pointer (some ⟨g, 0, none⟩)] w (Turn g w s') := h ▸ again_any g s w hb
theorem keepcell {w w1 : World} (h : Below w.heap.size w w1) {a : Addr} {v : Value} (hc : w.cell? a = some v) : w1.cell? a = some v := (h.cell (World.block_lt_of_cell? w a hc)).trans hc
def AgRel (g q : Nat) (A : Int) (k : Nat) (w wr : World) : Prop := 0 ≤ A ∧ A ≤ 99 ∧ k ≤ 60 ∧ q + k = 61 ∧ Blk wr g (ship true A (A + 1)) 52 ∧ Below w.heap.size w wr
def InRel (g q j : Nat) (A X : Int) (w wr : World) : Prop := A + 1 ≤ X ∧ X ≤ 101 ∧ q + j = 6 ∧ Blk wr g (ship true A X) 52 ∧ Below w.heap.size w wr
/-- A slice of ints that came in: each element's cell. -/
def Ints (w : World) (a : Option Addr) (len : Nat) : Prop := ∀ i, i < len → ∃ b off v, a = some ⟨b, off, none⟩ ∧ w.cell? ⟨b, off + i, none⟩ = some (.int .i64 v)
set_option maxHeartbeats 4000000 in
set_option maxRecDepth 100000 in
theorem again_core (x H : Int) (aA aS : Option Addr) (lenA capA lenS capS : Nat) (w : World) (RA : Asd (Ints w aA lenA)) (RS : Asd (Ints w aS lenS)) (hH : wrap64 ((IntKind.u64.wrap x).tmod 50) = H) (a1 : 0 ≤ H) (a2 : H < 50) (h1 : Asd (helloS H (false, 0, 1) = (true, H, H + 1))) :
    Calls Try.prog 5 #[.int .i64 x, .slice aA lenA capA, .slice aS lenS capS] w fun e w' => e = .returned (.bool true) ∧ Below w.heap.size w w' := by
  go_enter Try.func5, Try.ntmps5
  have HB : Asd (Below w.heap.size w w) := ⟨Below.refl _ _⟩
  go_wp2_with fail
  refine (works_any _).mono ?_; rintro en w1 ⟨rfl, hb1⟩
  have h_ : Below w.heap.size w w1 := below_step (by repeat (first | exact HB.out | apply below_alloc | apply below_drewN | apply below_drew | refine below_set ?_ (by have := HB.out.size; omega))) hb1
  clear HB hb1; have HB := Asd.mk h_; clear h_; have Z : w.heap.size ≤ w1.heap.size := HB.out.size
  go_wp2_with fail
  simp only [hH]
  clear hH
  refine (new_any _).mono ?_; rintro en w2 ⟨rfl, hk, hb⟩
  have k_s : Blk w2 (w1.heap.size) #[.int .u32 (hB false), .int .i64 0, .int .i64 1] 52 := hk
  have Gs : w.heap.size ≤ w1.heap.size := (by have := HB.out.size; omega)
  have h_ : Below w.heap.size w w2 := below_step (by repeat (first | exact HB.out | apply below_alloc | apply below_drewN | apply below_drew)) hb
  clear  HB Z hk hb; have HB := Asd.mk h_; clear h_; have Z : w.heap.size ≤ w2.heap.size := HB.out.size
  have Ks := Asd.mk k_s; have Ls := k_s.lt; have cs0 := k_s.cell 0 rfl; have fs0 := k_s.frozen 0; have cs1 := k_s.cell 1 rfl; have fs1 := k_s.frozen 1; have cs2 := k_s.cell 2 rfl; have fs2 := k_s.frozen 2; clear k_s
  go_wp2_with fail
  refine (hello_at w1.heap.size (false, 0, 1) (true, H, H + 1) H _ Ks.out h1.out).mono ?_; rintro en w3 ⟨rfl, hk, hc⟩
  have k_s : Blk w3 (w1.heap.size) #[.int .u32 (hB true), .int .i64 H, .int .i64 (H + 1)] 52 := hk
  have h_ : Below w.heap.size w w3 := below_chg (by repeat (first | exact HB.out | apply below_alloc | apply below_drewN | apply below_drew)) hc (by have := HB.out.size; omega)
  clear Ks Ls cs0 fs0 cs1 fs1 cs2 fs2 HB Z hk hc; have HB := Asd.mk h_; clear h_; have Z : w.heap.size ≤ w3.heap.size := HB.out.size
  have Ks := Asd.mk k_s; have Ls := k_s.lt; have cs0 := k_s.cell 0 rfl; have fs0 := k_s.frozen 0; have cs1 := k_s.cell 1 rfl; have fs1 := k_s.frozen 1; have cs2 := k_s.cell 2 rfl; have fs2 := k_s.frozen 2; clear k_s
  go_wp2_with fail
  go_loopg [8, 9] 61 (fun q top_ i wr => ∃ (A : Int) (k : Nat), top_ = .int .i64 A ∧ i = .int .i64 (k : Int) ∧ AgRel w1.heap.size q A k w wr)
  case atStart => exact ⟨H, 0, rfl, rfl, a1, by omega, by omega, by omega, Ks.out, HB.out⟩
  case round =>
    obtain ⟨A, k, rfl, rfl, r1, r2, r4, r5, r6, r7⟩ := hrel
    obtain ⟨q1, hq1⟩ : ∃ q1, q1 = gk := ⟨_, rfl⟩; rw [← hq1] at r5; have HQ := Asd.mk hq1; clear hq1
    have R5 := Asd.mk r5; clear r5
    clear Ks cs0 cs1 cs2 fs0 fs1 fs2 Ls HB Z
    have HB := Asd.mk r7; clear r7; have Z : w.heap.size ≤ wr.heap.size := HB.out.size; have k_s : Blk wr (w1.heap.size) #[.int .u32 (hB true), .int .i64 A, .int .i64 (A + 1)] 52 := r6; clear r6
    have Ks := Asd.mk k_s; have Ls := k_s.lt; have cs0 := k_s.cell 0 rfl; have fs0 := k_s.frozen 0; have cs1 := k_s.cell 1 rfl; have fs1 := k_s.frozen 1; have cs2 := k_s.cell 2 rfl; have fs2 := k_s.frozen 2; clear k_s
    by_cases hl : k < lenA
    · by_cases hlt : k < 60
      · obtain ⟨bA, oA, vA, rfl, cA⟩ := RA.out k hl
        have cA' := keepcell HB.out cA; clear cA
        obtain ⟨n, hn, n1, n2⟩ := cut_num vA 100 (by omega) (by omega)
        go_wp2_with fail
        simp only [hn]
        clear hn cA'
        by_cases hm : A < n
        · skip
          have hm' : ¬ n < A := by omega
          refine (ack_at w1.heap.size (true, A, A + 1) (true, n, n + 1) n _ Ks.out (show _ ≤ A by omega) (by unfold ackS; rw [if_pos ⟨rfl, hm, by omega⟩]; simp only [show wrap64 (n + 1) = n + 1 by unfold wrap64; omega]; rw [if_pos (by omega)])).mono ?_; rintro en w4 ⟨rfl, hk, hc⟩
          have k_s : Blk w4 (w1.heap.size) #[.int .u32 (hB true), .int .i64 n, .int .i64 (n + 1)] 52 := hk
          have h_ : Below w.heap.size w w4 := below_chg (by repeat (first | exact HB.out | apply below_alloc | apply below_drewN | apply below_drew)) hc (by have := HB.out.size; omega)
          clear Ks Ls cs0 fs0 cs1 fs1 cs2 fs2 HB Z hk hc; have HB := Asd.mk h_; clear h_; have Z : w.heap.size ≤ w4.heap.size := HB.out.size
          have Ks := Asd.mk k_s; have Ls := k_s.lt; have cs0 := k_s.cell 0 rfl; have fs0 := k_s.frozen 0; have cs1 := k_s.cell 1 rfl; have fs1 := k_s.frozen 1; have cs2 := k_s.cell 2 rfl; have fs2 := k_s.frozen 2; clear k_s
          go_wp2_with fail
          go_loopg [11] 6 (fun q k_ wr2 => ∃ (j : Nat) (X : Int), k_ = .int .i64 (j : Int) ∧ InRel w1.heap.size q j n X w wr2)
          case atStart => exact ⟨0, n + 1, rfl, by omega, by omega, by omega, Ks.out, HB.out⟩
          case round =>
            obtain ⟨j, X, rfl, t1, t2, t3, t4, t5⟩ := hrel
            have T3 := Asd.mk t3; clear t3
            clear Ks cs0 cs1 cs2 fs0 fs1 fs2 Ls HB Z
            have HB := Asd.mk t5; clear t5; have Z : w.heap.size ≤ wr.heap.size := HB.out.size; have k_s : Blk wr (w1.heap.size) #[.int .u32 (hB true), .int .i64 n, .int .i64 X] 52 := t4; clear t4
            have Ks := Asd.mk k_s; have Ls := k_s.lt; have cs0 := k_s.cell 0 rfl; have fs0 := k_s.frozen 0; have cs1 := k_s.cell 1 rfl; have fs1 := k_s.frozen 1; have cs2 := k_s.cell 2 rfl; have fs2 := k_s.frozen 2; clear k_s
            by_cases hs : k < lenS
            · obtain ⟨bS, oS, vS, rfl, cS⟩ := RS.out k hs
              have cS' := keepcell HB.out cS; clear cS
              obtain ⟨m, hmm, m1, m2⟩ := cut_num vS 5 (by omega) (by omega)
              by_cases hj : (j : Int) < m
              · by_cases hx : 100 < X
                · go_wp2_with fail
                  refine (plan_at (p := (0, 0, false)) w1.heap.size true n X 1 100 _ Ks.out (by unfold planS; rw [if_pos (.inr (show 100 < X by omega))])).mono ?_; rintro en w_ ⟨rfl, rfl⟩
                  go_wp2_with fail
                  refine (sent_at w1.heap.size (true, n, X) (true, n, X) 0 0 _ Ks.out (by unfold sentS; rw [if_neg (by omega)])).mono ?_; rintro en w5 ⟨rfl, hk, hc⟩
                  have k_s : Blk w5 (w1.heap.size) #[.int .u32 (hB true), .int .i64 n, .int .i64 X] 52 := hk
                  have h_ : Below w.heap.size w w5 := below_chg (by repeat (first | exact HB.out | apply below_alloc | apply below_drewN | apply below_drew)) hc (by have := HB.out.size; omega)
                  clear Ks Ls cs0 fs0 cs1 fs1 cs2 fs2 HB Z hk hc; have HB := Asd.mk h_; clear h_; have Z : w.heap.size ≤ w5.heap.size := HB.out.size
                  have Ks := Asd.mk k_s; have Ls := k_s.lt; have cs0 := k_s.cell 0 rfl; have fs0 := k_s.frozen 0; have cs1 := k_s.cell 1 rfl; have fs1 := k_s.frozen 1; have cs2 := k_s.cell 2 rfl; have fs2 := k_s.frozen 2; clear k_s
                  go_wp2_with fail
                  go_roundg (gk - 1)
                  case measure => have := T3.out; omega
                  case rel => exact ⟨j + 1, X, by go_num, by omega, by omega, (by have := T3.out; omega), Ks.out, HB.out⟩
                · by_cases hy : X + 3 < 100
                  · go_wp2_with fail
                    refine (plan_at (p := (X, 4, false)) w1.heap.size true n X 1 100 _ Ks.out (by unfold planS; rw [if_neg (by simp; omega), if_neg (show ¬ X < 1 by omega)]; simp only [show wrap64 (wrap64 (100 - X) + 1) = 101 - X by unfold wrap64; omega]; rw [if_pos (by omega)])).mono ?_; rintro en w_ ⟨rfl, rfl⟩
                    go_wp2_with fail
                    refine (sent_at w1.heap.size (true, n, X) (true, n, X + 4) X 4 _ Ks.out (by unfold sentS; rw [if_pos (by simp <;> omega), show wrap64 (X + 4) = X + 4 by unfold wrap64; omega])).mono ?_; rintro en w5 ⟨rfl, hk, hc⟩
                    have k_s : Blk w5 (w1.heap.size) #[.int .u32 (hB true), .int .i64 n, .int .i64 (X + 4)] 52 := hk
                    have h_ : Below w.heap.size w w5 := below_chg (by repeat (first | exact HB.out | apply below_alloc | apply below_drewN | apply below_drew)) hc (by have := HB.out.size; omega)
                    clear Ks Ls cs0 fs0 cs1 fs1 cs2 fs2 HB Z hk hc; have HB := Asd.mk h_; clear h_; have Z : w.heap.size ≤ w5.heap.size := HB.out.size
                    have Ks := Asd.mk k_s; have Ls := k_s.lt; have cs0 := k_s.cell 0 rfl; have fs0 := k_s.frozen 0; have cs1 := k_s.cell 1 rfl; have fs1 := k_s.frozen 1; have cs2 := k_s.cell 2 rfl; have fs2 := k_s.frozen 2; clear k_s
                    go_wp2_with fail
                    go_roundg (gk - 1)
                    case measure => have := T3.out; omega
                    case rel => exact ⟨j + 1, X + 4, by go_num, by omega, by omega, (by have := T3.out; omega), Ks.out, HB.out⟩
                  · go_wp2_with fail
                    refine (plan_at (p := (X, (101 - X), false)) w1.heap.size true n X 1 100 _ Ks.out (by unfold planS; rw [if_neg (by simp; omega), if_neg (show ¬ X < 1 by omega)]; simp only [show wrap64 (wrap64 (100 - X) + 1) = 101 - X by unfold wrap64; omega]; rw [if_neg (by omega)])).mono ?_; rintro en w_ ⟨rfl, rfl⟩
                    go_wp2_with fail
                    refine (sent_at w1.heap.size (true, n, X) (true, n, X + (101 - X)) X (101 - X) _ Ks.out (by unfold sentS; rw [if_pos (by simp <;> omega), show wrap64 (X + (101 - X)) = X + (101 - X) by unfold wrap64; omega])).mono ?_; rintro en w5 ⟨rfl, hk, hc⟩
                    have k_s : Blk w5 (w1.heap.size) #[.int .u32 (hB true), .int .i64 n, .int .i64 (X + (101 - X))] 52 := hk
                    have h_ : Below w.heap.size w w5 := below_chg (by repeat (first | exact HB.out | apply below_alloc | apply below_drewN | apply below_drew)) hc (by have := HB.out.size; omega)
                    clear Ks Ls cs0 fs0 cs1 fs1 cs2 fs2 HB Z hk hc; have HB := Asd.mk h_; clear h_; have Z : w.heap.size ≤ w5.heap.size := HB.out.size
                    have Ks := Asd.mk k_s; have Ls := k_s.lt; have cs0 := k_s.cell 0 rfl; have fs0 := k_s.frozen 0; have cs1 := k_s.cell 1 rfl; have fs1 := k_s.frozen 1; have cs2 := k_s.cell 2 rfl; have fs2 := k_s.frozen 2; clear k_s
                    go_wp2_with fail
                    go_roundg (gk - 1)
                    case measure => have := T3.out; omega
                    case rel => exact ⟨j + 1, X + (101 - X), by go_num, by omega, by omega, (by have := T3.out; omega), Ks.out, HB.out⟩
              · have hj' : ¬ (j : Int) < m := hj
                go_wp2_with fail
                refine (again_at w1.heap.size (true, n, X) (true, n, n + 1) _ Ks.out (by unfold againS; rw [if_pos rfl]; simp only [show wrap64 (n + 1) = n + 1 by unfold wrap64; omega])).mono ?_; rintro en w5 ⟨rfl, hk, hc⟩
                have k_s : Blk w5 (w1.heap.size) #[.int .u32 (hB true), .int .i64 n, .int .i64 (n + 1)] 52 := hk
                have h_ : Below w.heap.size w w5 := below_chg (by repeat (first | exact HB.out | apply below_alloc | apply below_drewN | apply below_drew)) hc (by have := HB.out.size; omega)
                clear Ks Ls cs0 fs0 cs1 fs1 cs2 fs2 HB Z hk hc; have HB := Asd.mk h_; clear h_; have Z : w.heap.size ≤ w5.heap.size := HB.out.size
                have Ks := Asd.mk k_s; have Ls := k_s.lt; have cs0 := k_s.cell 0 rfl; have fs0 := k_s.frozen 0; have cs1 := k_s.cell 1 rfl; have fs1 := k_s.frozen 1; have cs2 := k_s.cell 2 rfl; have fs2 := k_s.frozen 2; clear k_s
                by_cases hq4 : n + 4 < 100
                · skip
                  go_wp2_with fail
                  refine (plan_at (p := (n + 1, 4, false)) w1.heap.size true n (n + 1) 1 100 _ Ks.out (by unfold planS; rw [if_neg (by simp; omega), if_neg (show ¬ n + 1 < 1 by omega)]; simp only [show wrap64 (wrap64 (100 - (n + 1)) + 1) = 100 - n by unfold wrap64; omega]; rw [if_pos (by omega)])).mono ?_; rintro en w_ ⟨rfl, rfl⟩
                  go_wp2_with fail
                  refine (acked_any w1.heap.size true n (n + 1) _ Ks.out).mono ?_; rintro en w_ ⟨rfl, rfl⟩
                  go_wp2
                  go_roundg (q1 - 1)
                  case measure => have := R5.out; have := HQ.out; omega
                  case rel => exact ⟨n, k + 1, by go_num, by go_num, by omega, by omega, by omega, (by have := R5.out; omega), Ks.out, HB.out⟩
                · skip
                  go_wp2_with fail
                  refine (plan_at (p := (n + 1, (100 - n), false)) w1.heap.size true n (n + 1) 1 100 _ Ks.out (by unfold planS; rw [if_neg (by simp; omega), if_neg (show ¬ n + 1 < 1 by omega)]; simp only [show wrap64 (wrap64 (100 - (n + 1)) + 1) = 100 - n by unfold wrap64; omega]; rw [if_neg (by omega)])).mono ?_; rintro en w_ ⟨rfl, rfl⟩
                  go_wp2_with fail
                  refine (acked_any w1.heap.size true n (n + 1) _ Ks.out).mono ?_; rintro en w_ ⟨rfl, rfl⟩
                  go_wp2
                  go_roundg (q1 - 1)
                  case measure => have := R5.out; have := HQ.out; omega
                  case rel => exact ⟨n, k + 1, by go_num, by go_num, by omega, by omega, by omega, (by have := R5.out; omega), Ks.out, HB.out⟩
            · skip
              go_wp2_with fail
              refine (again_at w1.heap.size (true, n, X) (true, n, n + 1) _ Ks.out (by unfold againS; rw [if_pos rfl]; simp only [show wrap64 (n + 1) = n + 1 by unfold wrap64; omega])).mono ?_; rintro en w5 ⟨rfl, hk, hc⟩
              have k_s : Blk w5 (w1.heap.size) #[.int .u32 (hB true), .int .i64 n, .int .i64 (n + 1)] 52 := hk
              have h_ : Below w.heap.size w w5 := below_chg (by repeat (first | exact HB.out | apply below_alloc | apply below_drewN | apply below_drew)) hc (by have := HB.out.size; omega)
              clear Ks Ls cs0 fs0 cs1 fs1 cs2 fs2 HB Z hk hc; have HB := Asd.mk h_; clear h_; have Z : w.heap.size ≤ w5.heap.size := HB.out.size
              have Ks := Asd.mk k_s; have Ls := k_s.lt; have cs0 := k_s.cell 0 rfl; have fs0 := k_s.frozen 0; have cs1 := k_s.cell 1 rfl; have fs1 := k_s.frozen 1; have cs2 := k_s.cell 2 rfl; have fs2 := k_s.frozen 2; clear k_s
              by_cases hq4 : n + 4 < 100
              · skip
                go_wp2_with fail
                refine (plan_at (p := (n + 1, 4, false)) w1.heap.size true n (n + 1) 1 100 _ Ks.out (by unfold planS; rw [if_neg (by simp; omega), if_neg (show ¬ n + 1 < 1 by omega)]; simp only [show wrap64 (wrap64 (100 - (n + 1)) + 1) = 100 - n by unfold wrap64; omega]; rw [if_pos (by omega)])).mono ?_; rintro en w_ ⟨rfl, rfl⟩
                go_wp2_with fail
                refine (acked_any w1.heap.size true n (n + 1) _ Ks.out).mono ?_; rintro en w_ ⟨rfl, rfl⟩
                go_wp2
                go_roundg (q1 - 1)
                case measure => have := R5.out; have := HQ.out; omega
                case rel => exact ⟨n, k + 1, by go_num, by go_num, by omega, by omega, by omega, (by have := R5.out; omega), Ks.out, HB.out⟩
              · skip
                go_wp2_with fail
                refine (plan_at (p := (n + 1, (100 - n), false)) w1.heap.size true n (n + 1) 1 100 _ Ks.out (by unfold planS; rw [if_neg (by simp; omega), if_neg (show ¬ n + 1 < 1 by omega)]; simp only [show wrap64 (wrap64 (100 - (n + 1)) + 1) = 100 - n by unfold wrap64; omega]; rw [if_neg (by omega)])).mono ?_; rintro en w_ ⟨rfl, rfl⟩
                go_wp2_with fail
                refine (acked_any w1.heap.size true n (n + 1) _ Ks.out).mono ?_; rintro en w_ ⟨rfl, rfl⟩
                go_wp2
                go_roundg (q1 - 1)
                case measure => have := R5.out; have := HQ.out; omega
                case rel => exact ⟨n, k + 1, by go_num, by go_num, by omega, by omega, by omega, (by have := R5.out; omega), Ks.out, HB.out⟩
        · skip
          have hm' : n ≤ A := by omega
          refine (ack_at w1.heap.size (true, A, A + 1) (true, A, A + 1) n _ Ks.out (show _ ≤ A by omega) (by unfold ackS; rw [if_neg (fun c => hm c.2.1)])).mono ?_; rintro en w4 ⟨rfl, hk, hc⟩
          have k_s : Blk w4 (w1.heap.size) #[.int .u32 (hB true), .int .i64 A, .int .i64 (A + 1)] 52 := hk
          have h_ : Below w.heap.size w w4 := below_chg (by repeat (first | exact HB.out | apply below_alloc | apply below_drewN | apply below_drew)) hc (by have := HB.out.size; omega)
          clear Ks Ls cs0 fs0 cs1 fs1 cs2 fs2 HB Z hk hc; have HB := Asd.mk h_; clear h_; have Z : w.heap.size ≤ w4.heap.size := HB.out.size
          have Ks := Asd.mk k_s; have Ls := k_s.lt; have cs0 := k_s.cell 0 rfl; have fs0 := k_s.frozen 0; have cs1 := k_s.cell 1 rfl; have fs1 := k_s.frozen 1; have cs2 := k_s.cell 2 rfl; have fs2 := k_s.frozen 2; clear k_s
          go_wp2_with fail
          go_loopg [11] 6 (fun q k_ wr2 => ∃ (j : Nat) (X : Int), k_ = .int .i64 (j : Int) ∧ InRel w1.heap.size q j A X w wr2)
          case atStart => exact ⟨0, A + 1, rfl, by omega, by omega, by omega, Ks.out, HB.out⟩
          case round =>
            obtain ⟨j, X, rfl, t1, t2, t3, t4, t5⟩ := hrel
            have T3 := Asd.mk t3; clear t3
            clear Ks cs0 cs1 cs2 fs0 fs1 fs2 Ls HB Z
            have HB := Asd.mk t5; clear t5; have Z : w.heap.size ≤ wr.heap.size := HB.out.size; have k_s : Blk wr (w1.heap.size) #[.int .u32 (hB true), .int .i64 A, .int .i64 X] 52 := t4; clear t4
            have Ks := Asd.mk k_s; have Ls := k_s.lt; have cs0 := k_s.cell 0 rfl; have fs0 := k_s.frozen 0; have cs1 := k_s.cell 1 rfl; have fs1 := k_s.frozen 1; have cs2 := k_s.cell 2 rfl; have fs2 := k_s.frozen 2; clear k_s
            by_cases hs : k < lenS
            · obtain ⟨bS, oS, vS, rfl, cS⟩ := RS.out k hs
              have cS' := keepcell HB.out cS; clear cS
              obtain ⟨m, hmm, m1, m2⟩ := cut_num vS 5 (by omega) (by omega)
              by_cases hj : (j : Int) < m
              · by_cases hx : 100 < X
                · go_wp2_with fail
                  refine (plan_at (p := (0, 0, false)) w1.heap.size true A X 1 100 _ Ks.out (by unfold planS; rw [if_pos (.inr (show 100 < X by omega))])).mono ?_; rintro en w_ ⟨rfl, rfl⟩
                  go_wp2_with fail
                  refine (sent_at w1.heap.size (true, A, X) (true, A, X) 0 0 _ Ks.out (by unfold sentS; rw [if_neg (by omega)])).mono ?_; rintro en w5 ⟨rfl, hk, hc⟩
                  have k_s : Blk w5 (w1.heap.size) #[.int .u32 (hB true), .int .i64 A, .int .i64 X] 52 := hk
                  have h_ : Below w.heap.size w w5 := below_chg (by repeat (first | exact HB.out | apply below_alloc | apply below_drewN | apply below_drew)) hc (by have := HB.out.size; omega)
                  clear Ks Ls cs0 fs0 cs1 fs1 cs2 fs2 HB Z hk hc; have HB := Asd.mk h_; clear h_; have Z : w.heap.size ≤ w5.heap.size := HB.out.size
                  have Ks := Asd.mk k_s; have Ls := k_s.lt; have cs0 := k_s.cell 0 rfl; have fs0 := k_s.frozen 0; have cs1 := k_s.cell 1 rfl; have fs1 := k_s.frozen 1; have cs2 := k_s.cell 2 rfl; have fs2 := k_s.frozen 2; clear k_s
                  go_wp2_with fail
                  go_roundg (gk - 1)
                  case measure => have := T3.out; omega
                  case rel => exact ⟨j + 1, X, by go_num, by omega, by omega, (by have := T3.out; omega), Ks.out, HB.out⟩
                · by_cases hy : X + 3 < 100
                  · go_wp2_with fail
                    refine (plan_at (p := (X, 4, false)) w1.heap.size true A X 1 100 _ Ks.out (by unfold planS; rw [if_neg (by simp; omega), if_neg (show ¬ X < 1 by omega)]; simp only [show wrap64 (wrap64 (100 - X) + 1) = 101 - X by unfold wrap64; omega]; rw [if_pos (by omega)])).mono ?_; rintro en w_ ⟨rfl, rfl⟩
                    go_wp2_with fail
                    refine (sent_at w1.heap.size (true, A, X) (true, A, X + 4) X 4 _ Ks.out (by unfold sentS; rw [if_pos (by simp <;> omega), show wrap64 (X + 4) = X + 4 by unfold wrap64; omega])).mono ?_; rintro en w5 ⟨rfl, hk, hc⟩
                    have k_s : Blk w5 (w1.heap.size) #[.int .u32 (hB true), .int .i64 A, .int .i64 (X + 4)] 52 := hk
                    have h_ : Below w.heap.size w w5 := below_chg (by repeat (first | exact HB.out | apply below_alloc | apply below_drewN | apply below_drew)) hc (by have := HB.out.size; omega)
                    clear Ks Ls cs0 fs0 cs1 fs1 cs2 fs2 HB Z hk hc; have HB := Asd.mk h_; clear h_; have Z : w.heap.size ≤ w5.heap.size := HB.out.size
                    have Ks := Asd.mk k_s; have Ls := k_s.lt; have cs0 := k_s.cell 0 rfl; have fs0 := k_s.frozen 0; have cs1 := k_s.cell 1 rfl; have fs1 := k_s.frozen 1; have cs2 := k_s.cell 2 rfl; have fs2 := k_s.frozen 2; clear k_s
                    go_wp2_with fail
                    go_roundg (gk - 1)
                    case measure => have := T3.out; omega
                    case rel => exact ⟨j + 1, X + 4, by go_num, by omega, by omega, (by have := T3.out; omega), Ks.out, HB.out⟩
                  · go_wp2_with fail
                    refine (plan_at (p := (X, (101 - X), false)) w1.heap.size true A X 1 100 _ Ks.out (by unfold planS; rw [if_neg (by simp; omega), if_neg (show ¬ X < 1 by omega)]; simp only [show wrap64 (wrap64 (100 - X) + 1) = 101 - X by unfold wrap64; omega]; rw [if_neg (by omega)])).mono ?_; rintro en w_ ⟨rfl, rfl⟩
                    go_wp2_with fail
                    refine (sent_at w1.heap.size (true, A, X) (true, A, X + (101 - X)) X (101 - X) _ Ks.out (by unfold sentS; rw [if_pos (by simp <;> omega), show wrap64 (X + (101 - X)) = X + (101 - X) by unfold wrap64; omega])).mono ?_; rintro en w5 ⟨rfl, hk, hc⟩
                    have k_s : Blk w5 (w1.heap.size) #[.int .u32 (hB true), .int .i64 A, .int .i64 (X + (101 - X))] 52 := hk
                    have h_ : Below w.heap.size w w5 := below_chg (by repeat (first | exact HB.out | apply below_alloc | apply below_drewN | apply below_drew)) hc (by have := HB.out.size; omega)
                    clear Ks Ls cs0 fs0 cs1 fs1 cs2 fs2 HB Z hk hc; have HB := Asd.mk h_; clear h_; have Z : w.heap.size ≤ w5.heap.size := HB.out.size
                    have Ks := Asd.mk k_s; have Ls := k_s.lt; have cs0 := k_s.cell 0 rfl; have fs0 := k_s.frozen 0; have cs1 := k_s.cell 1 rfl; have fs1 := k_s.frozen 1; have cs2 := k_s.cell 2 rfl; have fs2 := k_s.frozen 2; clear k_s
                    go_wp2_with fail
                    go_roundg (gk - 1)
                    case measure => have := T3.out; omega
                    case rel => exact ⟨j + 1, X + (101 - X), by go_num, by omega, by omega, (by have := T3.out; omega), Ks.out, HB.out⟩
              · have hj' : ¬ (j : Int) < m := hj
                go_wp2_with fail
                refine (again_at w1.heap.size (true, A, X) (true, A, A + 1) _ Ks.out (by unfold againS; rw [if_pos rfl]; simp only [show wrap64 (A + 1) = A + 1 by unfold wrap64; omega])).mono ?_; rintro en w5 ⟨rfl, hk, hc⟩
                have k_s : Blk w5 (w1.heap.size) #[.int .u32 (hB true), .int .i64 A, .int .i64 (A + 1)] 52 := hk
                have h_ : Below w.heap.size w w5 := below_chg (by repeat (first | exact HB.out | apply below_alloc | apply below_drewN | apply below_drew)) hc (by have := HB.out.size; omega)
                clear Ks Ls cs0 fs0 cs1 fs1 cs2 fs2 HB Z hk hc; have HB := Asd.mk h_; clear h_; have Z : w.heap.size ≤ w5.heap.size := HB.out.size
                have Ks := Asd.mk k_s; have Ls := k_s.lt; have cs0 := k_s.cell 0 rfl; have fs0 := k_s.frozen 0; have cs1 := k_s.cell 1 rfl; have fs1 := k_s.frozen 1; have cs2 := k_s.cell 2 rfl; have fs2 := k_s.frozen 2; clear k_s
                by_cases hq4 : A + 4 < 100
                · skip
                  go_wp2_with fail
                  refine (plan_at (p := (A + 1, 4, false)) w1.heap.size true A (A + 1) 1 100 _ Ks.out (by unfold planS; rw [if_neg (by simp; omega), if_neg (show ¬ A + 1 < 1 by omega)]; simp only [show wrap64 (wrap64 (100 - (A + 1)) + 1) = 100 - A by unfold wrap64; omega]; rw [if_pos (by omega)])).mono ?_; rintro en w_ ⟨rfl, rfl⟩
                  go_wp2_with fail
                  refine (acked_any w1.heap.size true A (A + 1) _ Ks.out).mono ?_; rintro en w_ ⟨rfl, rfl⟩
                  go_wp2
                  go_roundg (q1 - 1)
                  case measure => have := R5.out; have := HQ.out; omega
                  case rel => exact ⟨A, k + 1, by go_num, by go_num, by omega, by omega, by omega, (by have := R5.out; omega), Ks.out, HB.out⟩
                · skip
                  go_wp2_with fail
                  refine (plan_at (p := (A + 1, (100 - A), false)) w1.heap.size true A (A + 1) 1 100 _ Ks.out (by unfold planS; rw [if_neg (by simp; omega), if_neg (show ¬ A + 1 < 1 by omega)]; simp only [show wrap64 (wrap64 (100 - (A + 1)) + 1) = 100 - A by unfold wrap64; omega]; rw [if_neg (by omega)])).mono ?_; rintro en w_ ⟨rfl, rfl⟩
                  go_wp2_with fail
                  refine (acked_any w1.heap.size true A (A + 1) _ Ks.out).mono ?_; rintro en w_ ⟨rfl, rfl⟩
                  go_wp2
                  go_roundg (q1 - 1)
                  case measure => have := R5.out; have := HQ.out; omega
                  case rel => exact ⟨A, k + 1, by go_num, by go_num, by omega, by omega, by omega, (by have := R5.out; omega), Ks.out, HB.out⟩
            · skip
              go_wp2_with fail
              refine (again_at w1.heap.size (true, A, X) (true, A, A + 1) _ Ks.out (by unfold againS; rw [if_pos rfl]; simp only [show wrap64 (A + 1) = A + 1 by unfold wrap64; omega])).mono ?_; rintro en w5 ⟨rfl, hk, hc⟩
              have k_s : Blk w5 (w1.heap.size) #[.int .u32 (hB true), .int .i64 A, .int .i64 (A + 1)] 52 := hk
              have h_ : Below w.heap.size w w5 := below_chg (by repeat (first | exact HB.out | apply below_alloc | apply below_drewN | apply below_drew)) hc (by have := HB.out.size; omega)
              clear Ks Ls cs0 fs0 cs1 fs1 cs2 fs2 HB Z hk hc; have HB := Asd.mk h_; clear h_; have Z : w.heap.size ≤ w5.heap.size := HB.out.size
              have Ks := Asd.mk k_s; have Ls := k_s.lt; have cs0 := k_s.cell 0 rfl; have fs0 := k_s.frozen 0; have cs1 := k_s.cell 1 rfl; have fs1 := k_s.frozen 1; have cs2 := k_s.cell 2 rfl; have fs2 := k_s.frozen 2; clear k_s
              by_cases hq4 : A + 4 < 100
              · skip
                go_wp2_with fail
                refine (plan_at (p := (A + 1, 4, false)) w1.heap.size true A (A + 1) 1 100 _ Ks.out (by unfold planS; rw [if_neg (by simp; omega), if_neg (show ¬ A + 1 < 1 by omega)]; simp only [show wrap64 (wrap64 (100 - (A + 1)) + 1) = 100 - A by unfold wrap64; omega]; rw [if_pos (by omega)])).mono ?_; rintro en w_ ⟨rfl, rfl⟩
                go_wp2_with fail
                refine (acked_any w1.heap.size true A (A + 1) _ Ks.out).mono ?_; rintro en w_ ⟨rfl, rfl⟩
                go_wp2
                go_roundg (q1 - 1)
                case measure => have := R5.out; have := HQ.out; omega
                case rel => exact ⟨A, k + 1, by go_num, by go_num, by omega, by omega, by omega, (by have := R5.out; omega), Ks.out, HB.out⟩
              · skip
                go_wp2_with fail
                refine (plan_at (p := (A + 1, (100 - A), false)) w1.heap.size true A (A + 1) 1 100 _ Ks.out (by unfold planS; rw [if_neg (by simp; omega), if_neg (show ¬ A + 1 < 1 by omega)]; simp only [show wrap64 (wrap64 (100 - (A + 1)) + 1) = 100 - A by unfold wrap64; omega]; rw [if_neg (by omega)])).mono ?_; rintro en w_ ⟨rfl, rfl⟩
                go_wp2_with fail
                refine (acked_any w1.heap.size true A (A + 1) _ Ks.out).mono ?_; rintro en w_ ⟨rfl, rfl⟩
                go_wp2
                go_roundg (q1 - 1)
                case measure => have := R5.out; have := HQ.out; omega
                case rel => exact ⟨A, k + 1, by go_num, by go_num, by omega, by omega, by omega, (by have := R5.out; omega), Ks.out, HB.out⟩
      · go_wp2
        go_ret
        exact ⟨rfl, HB.out⟩
    · go_wp2
      go_ret
      exact ⟨rfl, HB.out⟩
theorem again_law (x : Int) (aA aS : Option Addr) (lenA capA lenS capS : Nat) (w : World) (RA : Ints w aA lenA) (RS : Ints w aS lenS) :
    Calls Try.prog 5 #[.int .i64 x, .slice aA lenA capA, .slice aS lenS capS] w fun e w' => e = .returned (.bool true) ∧ Below w.heap.size w w' := by
  obtain ⟨H, hH, a1, a2⟩ := cut_num x 50 (by omega) (by omega)
  exact again_core x H aA aS lenA capA lenS capS w ⟨RA⟩ ⟨RS⟩ hH a1 a2 ⟨by unfold helloS; rw [if_neg (by omega)]; rw [show wrap64 (H + 1) = H + 1 by unfold wrap64; omega]⟩
end Go.Proofs.Ythkiofmfegeknaa.Sx
