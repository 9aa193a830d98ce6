/- The law ShipSnapshot as a contract. -/
import Derived.Test.YthkiofmfegeknaaSx3
namespace Go.Proofs.Ythkiofmfegeknaa.Sx
open Go.RowKit
open Go.Proofs.Ythkiofmfegeknaa.Xb
set_option linter.unusedSimpArgs false
set_option linter.unusedVariables false
theorem plan_at {p : Int × Int × Bool} (g : Nat) (h : Bool) (a n fi la : Int) (w : World) (hb : Blk w g (ship h a n) 52) (hp : planS fi la (h, a, n) = p) :
    Calls Try.prog 9 #[.pointer (some ⟨g, 0, none⟩), .int .i64 fi, .int .i64 la] w fun e w' => e = .returned (.tuple #[.int .i64 p.1, .int .i64 p.2.1, .bool p.2.2]) ∧ w = w' := hp ▸ plan_any g h a n fi la w hb
theorem hello_at (g : Nat) (s s' : Bool × Int × Int) (k : Int) (w : World) (hb : Blk w g (shipS s) 52) (h : helloS k s = s') :
    Calls Try.prog 11 #[.pointer (some ⟨g, 0, none⟩), .int .i64 k] w (Turn g w s') := h ▸ hello_any g s k w hb
theorem sent_at (g : Nat) (s s' : Bool × Int × Int) (fr k : Int) (w : World) (hb : Blk w g (shipS s) 52) (h : sentS fr k s = s') :
    Calls Try.prog 12 #[.pointer (some ⟨g, 0, none⟩), .int .i64 fr, .int .i64 k] w (Turn g w s') := h ▸ sent_any g s fr k w hb
set_option maxHeartbeats 1000000 in
theorem works_any (w : World) : Calls Try.prog 7 #[] w fun e w' => e = .returned (.bool true) ∧ Below w.heap.size w w' := by
  go_enter Try.func7, Try.ntmps7
  have HB : Asd (Below w.heap.size w w) := ⟨Below.refl _ _⟩
  go_wp2_with fail
  refine (new_any _).mono ?_; rintro en w1 ⟨rfl, hk, hb⟩
  have k_s : Blk w1 (w.heap.size) #[.int .u32 (hB false), .int .i64 0, .int .i64 1] 52 := hk
  have Gs : w.heap.size ≤ w.heap.size := (by have := HB.out.size; omega)
  have h_ : Below w.heap.size w w1 := below_step (by repeat (first | exact HB.out | apply below_alloc | apply below_drewN | apply below_drew)) hb
  clear  HB hk hb; have HB := Asd.mk h_; clear h_; have Z : w.heap.size ≤ w1.heap.size := HB.out.size
  have Ks := Asd.mk k_s; have Ls := k_s.lt; have cs0 := k_s.cell 0 rfl; have fs0 := k_s.frozen 0; have cs1 := k_s.cell 1 rfl; have fs1 := k_s.frozen 1; have cs2 := k_s.cell 2 rfl; have fs2 := k_s.frozen 2; clear k_s
  go_wp2_with fail
  refine (plan_at (p := (0, 0, false)) w.heap.size false 0 1 1 9 _ Ks.out (by decide +kernel)).mono ?_; rintro en w_ ⟨rfl, rfl⟩
  go_wp2_with fail
  refine (hello_at w.heap.size (false, 0, 1) (true, 2, 3) 2 _ Ks.out (by decide +kernel)).mono ?_; rintro en w2 ⟨rfl, hk, hc⟩
  have k_s : Blk w2 (w.heap.size) #[.int .u32 (hB true), .int .i64 2, .int .i64 3] 52 := hk
  have h_ : Below w.heap.size w w2 := below_chg (by repeat (first | exact HB.out | apply below_alloc | apply below_drewN | apply below_drew)) hc (by have := HB.out.size; omega)
  clear Ks Ls cs0 fs0 cs1 fs1 cs2 fs2 HB Z hk hc; have HB := Asd.mk h_; clear h_; have Z : w.heap.size ≤ w2.heap.size := HB.out.size
  have Ks := Asd.mk k_s; have Ls := k_s.lt; have cs0 := k_s.cell 0 rfl; have fs0 := k_s.frozen 0; have cs1 := k_s.cell 1 rfl; have fs1 := k_s.frozen 1; have cs2 := k_s.cell 2 rfl; have fs2 := k_s.frozen 2; clear k_s
  go_wp2_with fail
  refine (plan_at (p := (3, 4, false)) w.heap.size true 2 3 1 9 _ Ks.out (by decide +kernel)).mono ?_; rintro en w_ ⟨rfl, rfl⟩
  go_wp2_with fail
  refine (plan_at (p := (0, 0, true)) w.heap.size true 2 3 4 9 _ Ks.out (by decide +kernel)).mono ?_; rintro en w_ ⟨rfl, rfl⟩
  go_wp2_with fail
  refine (sent_at w.heap.size (true, 2, 3) (true, 2, 7) 3 4 _ Ks.out (by decide +kernel)).mono ?_; rintro en w3 ⟨rfl, hk, hc⟩
  have k_s : Blk w3 (w.heap.size) #[.int .u32 (hB true), .int .i64 2, .int .i64 7] 52 := hk
  have h_ : Below w.heap.size w w3 := below_chg (by repeat (first | exact HB.out | apply below_alloc | apply below_drewN | apply below_drew)) hc (by have := HB.out.size; omega)
  clear Ks Ls cs0 fs0 cs1 fs1 cs2 fs2 HB Z hk hc; have HB := Asd.mk h_; clear h_; have Z : w.heap.size ≤ w3.heap.size := HB.out.size
  have Ks := Asd.mk k_s; have Ls := k_s.lt; have cs0 := k_s.cell 0 rfl; have fs0 := k_s.frozen 0; have cs1 := k_s.cell 1 rfl; have fs1 := k_s.frozen 1; have cs2 := k_s.cell 2 rfl; have fs2 := k_s.frozen 2; clear k_s
  go_wp2_with fail
  refine (plan_at (p := (7, 3, false)) w.heap.size true 2 7 1 9 _ Ks.out (by decide +kernel)).mono ?_; rintro en w_ ⟨rfl, rfl⟩
  go_wp2_with fail
  refine (acked_any w.heap.size true 2 7 _ Ks.out).mono ?_; rintro en w_ ⟨rfl, rfl⟩
  go_wp2
  go_ret
  exact ⟨rfl, HB.out⟩
set_option maxHeartbeats 1000000 in
theorem snap_none (x y z E F L : Int) (w : World) (hE : wrap64 ((IntKind.u64.wrap x).tmod 1000) = E) (hF : wrap64 (1 + wrap64 ((IntKind.u64.wrap y).tmod 1000)) = F) (hL : wrap64 ((IntKind.u64.wrap z).tmod 1000) = L) (e1 : 0 ≤ E) (e2 : E ≤ 999) (f1 : 1 ≤ F) (f2 : F ≤ 1000) (l1 : 0 ≤ L) (l2 : L ≤ 999) (h1 : Asd (helloS E (false, 0, 1) = (true, E, E + 1))) (h2 : Asd (planS F L (true, E, E + 1) = (0, 0, false))) (hc : L ≤ E) :
    Calls Try.prog 3 #[.int .i64 x, .int .i64 y, .int .i64 z] w fun e w' => e = .returned (.bool true) ∧ Below w.heap.size w w' := by
  go_enter Try.func3, Try.ntmps3
  have HB : Asd (Below w.heap.size w w) := ⟨Below.refl _ _⟩
  go_wp2_with fail
  refine (works_any _).mono ?_; rintro en w1 ⟨rfl, hb1⟩
  have h_ : Below w.heap.size w w1 := below_step (by repeat (first | exact HB.out | apply below_alloc | apply below_drewN | apply below_drew | refine below_set ?_ (by have := HB.out.size; omega))) hb1
  clear HB hb1; have HB := Asd.mk h_; clear h_; have Z : w.heap.size ≤ w1.heap.size := HB.out.size
  go_wp2_with fail
  simp only [hE, hF, hL]
  clear hE hF hL
  refine (new_any _).mono ?_; rintro en w2 ⟨rfl, hk, hb⟩
  have k_s : Blk w2 (w1.heap.size) #[.int .u32 (hB false), .int .i64 0, .int .i64 1] 52 := hk
  have Gs : w.heap.size ≤ w1.heap.size := (by have := HB.out.size; omega)
  have h_ : Below w.heap.size w w2 := below_step (by repeat (first | exact HB.out | apply below_alloc | apply below_drewN | apply below_drew)) hb
  clear  HB Z hk hb; have HB := Asd.mk h_; clear h_; have Z : w.heap.size ≤ w2.heap.size := HB.out.size
  have Ks := Asd.mk k_s; have Ls := k_s.lt; have cs0 := k_s.cell 0 rfl; have fs0 := k_s.frozen 0; have cs1 := k_s.cell 1 rfl; have fs1 := k_s.frozen 1; have cs2 := k_s.cell 2 rfl; have fs2 := k_s.frozen 2; clear k_s
  go_wp2_with fail
  refine (plan_at (p := (0, 0, false)) w1.heap.size false 0 1 F L _ Ks.out (by unfold planS; rw [if_pos (.inl rfl)])).mono ?_; rintro en w_ ⟨rfl, rfl⟩
  go_wp2_with fail
  refine (heard_any w1.heap.size false 0 1 _ Ks.out).mono ?_; rintro en w_ ⟨rfl, rfl⟩
  go_wp2_with fail
  refine (hello_at w1.heap.size (false, 0, 1) (true, E, E + 1) E _ Ks.out h1.out).mono ?_; rintro en w3 ⟨rfl, hk, hc⟩
  have k_s : Blk w3 (w1.heap.size) #[.int .u32 (hB true), .int .i64 E, .int .i64 (E + 1)] 52 := hk
  have h_ : Below w.heap.size w w3 := below_chg (by repeat (first | exact HB.out | apply below_alloc | apply below_drewN | apply below_drew)) hc (by have := HB.out.size; omega)
  clear Ks Ls cs0 fs0 cs1 fs1 cs2 fs2 HB Z hk hc; have HB := Asd.mk h_; clear h_; have Z : w.heap.size ≤ w3.heap.size := HB.out.size
  have Ks := Asd.mk k_s; have Ls := k_s.lt; have cs0 := k_s.cell 0 rfl; have fs0 := k_s.frozen 0; have cs1 := k_s.cell 1 rfl; have fs1 := k_s.frozen 1; have cs2 := k_s.cell 2 rfl; have fs2 := k_s.frozen 2; clear k_s
  go_wp2_with fail
  refine (plan_at (p := (0, 0, false)) w1.heap.size true E (E + 1) F L _ Ks.out h2.out).mono ?_; rintro en w_ ⟨rfl, rfl⟩
  go_wp2_with fail
  refine (heard_any w1.heap.size true E (E + 1) _ Ks.out).mono ?_; rintro en w_ ⟨rfl, rfl⟩
  go_wp2
  all_goals
    go_ret
    exact ⟨ret_bool (by first | rfl | (simp; done) | (simp; omega)), HB.out⟩
set_option maxHeartbeats 1000000 in
theorem snap_snap (x y z E F L : Int) (w : World) (hE : wrap64 ((IntKind.u64.wrap x).tmod 1000) = E) (hF : wrap64 (1 + wrap64 ((IntKind.u64.wrap y).tmod 1000)) = F) (hL : wrap64 ((IntKind.u64.wrap z).tmod 1000) = L) (e1 : 0 ≤ E) (e2 : E ≤ 999) (f1 : 1 ≤ F) (f2 : F ≤ 1000) (l1 : 0 ≤ L) (l2 : L ≤ 999) (h1 : Asd (helloS E (false, 0, 1) = (true, E, E + 1))) (h2 : Asd (planS F L (true, E, E + 1) = (0, 0, true))) (hc : E < L) (hd : E + 1 < F) :
    Calls Try.prog 3 #[.int .i64 x, .int .i64 y, .int .i64 z] w fun e w' => e = .returned (.bool true) ∧ Below w.heap.size w w' := by
  go_enter Try.func3, Try.ntmps3
  have HB : Asd (Below w.heap.size w w) := ⟨Below.refl _ _⟩
  go_wp2_with fail
  refine (works_any _).mono ?_; rintro en w1 ⟨rfl, hb1⟩
  have h_ : Below w.heap.size w w1 := below_step (by repeat (first | exact HB.out | apply below_alloc | apply below_drewN | apply below_drew | refine below_set ?_ (by have := HB.out.size; omega))) hb1
  clear HB hb1; have HB := Asd.mk h_; clear h_; have Z : w.heap.size ≤ w1.heap.size := HB.out.size
  go_wp2_with fail
  simp only [hE, hF, hL]
  clear hE hF hL
  refine (new_any _).mono ?_; rintro en w2 ⟨rfl, hk, hb⟩
  have k_s : Blk w2 (w1.heap.size) #[.int .u32 (hB false), .int .i64 0, .int .i64 1] 52 := hk
  have Gs : w.heap.size ≤ w1.heap.size := (by have := HB.out.size; omega)
  have h_ : Below w.heap.size w w2 := below_step (by repeat (first | exact HB.out | apply below_alloc | apply below_drewN | apply below_drew)) hb
  clear  HB Z hk hb; have HB := Asd.mk h_; clear h_; have Z : w.heap.size ≤ w2.heap.size := HB.out.size
  have Ks := Asd.mk k_s; have Ls := k_s.lt; have cs0 := k_s.cell 0 rfl; have fs0 := k_s.frozen 0; have cs1 := k_s.cell 1 rfl; have fs1 := k_s.frozen 1; have cs2 := k_s.cell 2 rfl; have fs2 := k_s.frozen 2; clear k_s
  go_wp2_with fail
  refine (plan_at (p := (0, 0, false)) w1.heap.size false 0 1 F L _ Ks.out (by unfold planS; rw [if_pos (.inl rfl)])).mono ?_; rintro en w_ ⟨rfl, rfl⟩
  go_wp2_with fail
  refine (heard_any w1.heap.size false 0 1 _ Ks.out).mono ?_; rintro en w_ ⟨rfl, rfl⟩
  go_wp2_with fail
  refine (hello_at w1.heap.size (false, 0, 1) (true, E, E + 1) E _ Ks.out h1.out).mono ?_; rintro en w3 ⟨rfl, hk, hc⟩
  have k_s : Blk w3 (w1.heap.size) #[.int .u32 (hB true), .int .i64 E, .int .i64 (E + 1)] 52 := hk
  have h_ : Below w.heap.size w w3 := below_chg (by repeat (first | exact HB.out | apply below_alloc | apply below_drewN | apply below_drew)) hc (by have := HB.out.size; omega)
  clear Ks Ls cs0 fs0 cs1 fs1 cs2 fs2 HB Z hk hc; have HB := Asd.mk h_; clear h_; have Z : w.heap.size ≤ w3.heap.size := HB.out.size
  have Ks := Asd.mk k_s; have Ls := k_s.lt; have cs0 := k_s.cell 0 rfl; have fs0 := k_s.frozen 0; have cs1 := k_s.cell 1 rfl; have fs1 := k_s.frozen 1; have cs2 := k_s.cell 2 rfl; have fs2 := k_s.frozen 2; clear k_s
  go_wp2_with fail
  refine (plan_at (p := (0, 0, true)) w1.heap.size true E (E + 1) F L _ Ks.out h2.out).mono ?_; rintro en w_ ⟨rfl, rfl⟩
  go_wp2_with fail
  refine (heard_any w1.heap.size true E (E + 1) _ Ks.out).mono ?_; rintro en w_ ⟨rfl, rfl⟩
  go_wp2
  all_goals
    go_ret
    exact ⟨ret_bool (by first | rfl | (simp; done) | (simp; omega)), HB.out⟩
set_option maxHeartbeats 1000000 in
theorem snap_four (x y z E F L : Int) (w : World) (hE : wrap64 ((IntKind.u64.wrap x).tmod 1000) = E) (hF : wrap64 (1 + wrap64 ((IntKind.u64.wrap y).tmod 1000)) = F) (hL : wrap64 ((IntKind.u64.wrap z).tmod 1000) = L) (e1 : 0 ≤ E) (e2 : E ≤ 999) (f1 : 1 ≤ F) (f2 : F ≤ 1000) (l1 : 0 ≤ L) (l2 : L ≤ 999) (h1 : Asd (helloS E (false, 0, 1) = (true, E, E + 1))) (h2 : Asd (planS F L (true, E, E + 1) = (E + 1, 4, false))) (hc : E + 4 < L) (hd : F ≤ E + 1) :
    Calls Try.prog 3 #[.int .i64 x, .int .i64 y, .int .i64 z] w fun e w' => e = .returned (.bool true) ∧ Below w.heap.size w w' := by
  go_enter Try.func3, Try.ntmps3
  have HB : Asd (Below w.heap.size w w) := ⟨Below.refl _ _⟩
  go_wp2_with fail
  refine (works_any _).mono ?_; rintro en w1 ⟨rfl, hb1⟩
  have h_ : Below w.heap.size w w1 := below_step (by repeat (first | exact HB.out | apply below_alloc | apply below_drewN | apply below_drew | refine below_set ?_ (by have := HB.out.size; omega))) hb1
  clear HB hb1; have HB := Asd.mk h_; clear h_; have Z : w.heap.size ≤ w1.heap.size := HB.out.size
  go_wp2_with fail
  simp only [hE, hF, hL]
  clear hE hF hL
  refine (new_any _).mono ?_; rintro en w2 ⟨rfl, hk, hb⟩
  have k_s : Blk w2 (w1.heap.size) #[.int .u32 (hB false), .int .i64 0, .int .i64 1] 52 := hk
  have Gs : w.heap.size ≤ w1.heap.size := (by have := HB.out.size; omega)
  have h_ : Below w.heap.size w w2 := below_step (by repeat (first | exact HB.out | apply below_alloc | apply below_drewN | apply below_drew)) hb
  clear  HB Z hk hb; have HB := Asd.mk h_; clear h_; have Z : w.heap.size ≤ w2.heap.size := HB.out.size
  have Ks := Asd.mk k_s; have Ls := k_s.lt; have cs0 := k_s.cell 0 rfl; have fs0 := k_s.frozen 0; have cs1 := k_s.cell 1 rfl; have fs1 := k_s.frozen 1; have cs2 := k_s.cell 2 rfl; have fs2 := k_s.frozen 2; clear k_s
  go_wp2_with fail
  refine (plan_at (p := (0, 0, false)) w1.heap.size false 0 1 F L _ Ks.out (by unfold planS; rw [if_pos (.inl rfl)])).mono ?_; rintro en w_ ⟨rfl, rfl⟩
  go_wp2_with fail
  refine (heard_any w1.heap.size false 0 1 _ Ks.out).mono ?_; rintro en w_ ⟨rfl, rfl⟩
  go_wp2_with fail
  refine (hello_at w1.heap.size (false, 0, 1) (true, E, E + 1) E _ Ks.out h1.out).mono ?_; rintro en w3 ⟨rfl, hk, hc⟩
  have k_s : Blk w3 (w1.heap.size) #[.int .u32 (hB true), .int .i64 E, .int .i64 (E + 1)] 52 := hk
  have h_ : Below w.heap.size w w3 := below_chg (by repeat (first | exact HB.out | apply below_alloc | apply below_drewN | apply below_drew)) hc (by have := HB.out.size; omega)
  clear Ks Ls cs0 fs0 cs1 fs1 cs2 fs2 HB Z hk hc; have HB := Asd.mk h_; clear h_; have Z : w.heap.size ≤ w3.heap.size := HB.out.size
  have Ks := Asd.mk k_s; have Ls := k_s.lt; have cs0 := k_s.cell 0 rfl; have fs0 := k_s.frozen 0; have cs1 := k_s.cell 1 rfl; have fs1 := k_s.frozen 1; have cs2 := k_s.cell 2 rfl; have fs2 := k_s.frozen 2; clear k_s
  go_wp2_with fail
  refine (plan_at (p := (E + 1, 4, false)) w1.heap.size true E (E + 1) F L _ Ks.out h2.out).mono ?_; rintro en w_ ⟨rfl, rfl⟩
  go_wp2_with fail
  refine (heard_any w1.heap.size true E (E + 1) _ Ks.out).mono ?_; rintro en w_ ⟨rfl, rfl⟩
  go_wp2
  all_goals
    go_ret
    exact ⟨ret_bool (by first | rfl | (simp; done) | (simp; omega)), HB.out⟩
set_option maxHeartbeats 1000000 in
theorem snap_rest (x y z E F L : Int) (w : World) (hE : wrap64 ((IntKind.u64.wrap x).tmod 1000) = E) (hF : wrap64 (1 + wrap64 ((IntKind.u64.wrap y).tmod 1000)) = F) (hL : wrap64 ((IntKind.u64.wrap z).tmod 1000) = L) (e1 : 0 ≤ E) (e2 : E ≤ 999) (f1 : 1 ≤ F) (f2 : F ≤ 1000) (l1 : 0 ≤ L) (l2 : L ≤ 999) (h1 : Asd (helloS E (false, 0, 1) = (true, E, E + 1))) (h2 : Asd (planS F L (true, E, E + 1) = (E + 1, L - E, false))) (hc : E < L) (hc2 : L ≤ E + 4) (hd : F ≤ E + 1) :
    Calls Try.prog 3 #[.int .i64 x, .int .i64 y, .int .i64 z] w fun e w' => e = .returned (.bool true) ∧ Below w.heap.size w w' := by
  go_enter Try.func3, Try.ntmps3
  have HB : Asd (Below w.heap.size w w) := ⟨Below.refl _ _⟩
  go_wp2_with fail
  refine (works_any _).mono ?_; rintro en w1 ⟨rfl, hb1⟩
  have h_ : Below w.heap.size w w1 := below_step (by repeat (first | exact HB.out | apply below_alloc | apply below_drewN | apply below_drew | refine below_set ?_ (by have := HB.out.size; omega))) hb1
  clear HB hb1; have HB := Asd.mk h_; clear h_; have Z : w.heap.size ≤ w1.heap.size := HB.out.size
  go_wp2_with fail
  simp only [hE, hF, hL]
  clear hE hF hL
  refine (new_any _).mono ?_; rintro en w2 ⟨rfl, hk, hb⟩
  have k_s : Blk w2 (w1.heap.size) #[.int .u32 (hB false), .int .i64 0, .int .i64 1] 52 := hk
  have Gs : w.heap.size ≤ w1.heap.size := (by have := HB.out.size; omega)
  have h_ : Below w.heap.size w w2 := below_step (by repeat (first | exact HB.out | apply below_alloc | apply below_drewN | apply below_drew)) hb
  clear  HB Z hk hb; have HB := Asd.mk h_; clear h_; have Z : w.heap.size ≤ w2.heap.size := HB.out.size
  have Ks := Asd.mk k_s; have Ls := k_s.lt; have cs0 := k_s.cell 0 rfl; have fs0 := k_s.frozen 0; have cs1 := k_s.cell 1 rfl; have fs1 := k_s.frozen 1; have cs2 := k_s.cell 2 rfl; have fs2 := k_s.frozen 2; clear k_s
  go_wp2_with fail
  refine (plan_at (p := (0, 0, false)) w1.heap.size false 0 1 F L _ Ks.out (by unfold planS; rw [if_pos (.inl rfl)])).mono ?_; rintro en w_ ⟨rfl, rfl⟩
  go_wp2_with fail
  refine (heard_any w1.heap.size false 0 1 _ Ks.out).mono ?_; rintro en w_ ⟨rfl, rfl⟩
  go_wp2_with fail
  refine (hello_at w1.heap.size (false, 0, 1) (true, E, E + 1) E _ Ks.out h1.out).mono ?_; rintro en w3 ⟨rfl, hk, hc⟩
  have k_s : Blk w3 (w1.heap.size) #[.int .u32 (hB true), .int .i64 E, .int .i64 (E + 1)] 52 := hk
  have h_ : Below w.heap.size w w3 := below_chg (by repeat (first | exact HB.out | apply below_alloc | apply below_drewN | apply below_drew)) hc (by have := HB.out.size; omega)
  clear Ks Ls cs0 fs0 cs1 fs1 cs2 fs2 HB Z hk hc; have HB := Asd.mk h_; clear h_; have Z : w.heap.size ≤ w3.heap.size := HB.out.size
  have Ks := Asd.mk k_s; have Ls := k_s.lt; have cs0 := k_s.cell 0 rfl; have fs0 := k_s.frozen 0; have cs1 := k_s.cell 1 rfl; have fs1 := k_s.frozen 1; have cs2 := k_s.cell 2 rfl; have fs2 := k_s.frozen 2; clear k_s
  go_wp2_with fail
  refine (plan_at (p := (E + 1, L - E, false)) w1.heap.size true E (E + 1) F L _ Ks.out h2.out).mono ?_; rintro en w_ ⟨rfl, rfl⟩
  go_wp2_with fail
  refine (heard_any w1.heap.size true E (E + 1) _ Ks.out).mono ?_; rintro en w_ ⟨rfl, rfl⟩
  go_wp2
  all_goals
    go_ret
    exact ⟨ret_bool (by first | rfl | (simp; done) | (simp; omega)), HB.out⟩
theorem wrap_u64 (x : Int) : IntKind.u64.wrap x = x % 18446744073709551616 := by simp [IntKind.wrap, IntKind.bits, IntKind.signed]
theorem cut_num (x : Int) (m : Int) (h0 : 1 ≤ m) (h1 : m ≤ 1000000) : ∃ E, wrap64 ((IntKind.u64.wrap x).tmod m) = E ∧ 0 ≤ E ∧ E < m := by
  refine ⟨_, rfl, ?_⟩
  rw [wrap_u64, Int.tmod_eq_emod_of_nonneg (by omega)]
  have a := Int.emod_nonneg (x % 18446744073709551616) (b := m) (by omega)
  have b := Int.emod_lt_of_pos (x % 18446744073709551616) (b := m) (by omega)
  unfold wrap64; omega
theorem snapshot_any (x y z : Int) (w : World) :
    Calls Try.prog 3 #[.int .i64 x, .int .i64 y, .int .i64 z] w fun e w' => e = .returned (.bool true) ∧ Below w.heap.size w w' := by
  obtain ⟨E, hE, e1, e2⟩ := cut_num x 1000 (by omega) (by omega)
  obtain ⟨F0, hF0, f1, f2⟩ := cut_num y 1000 (by omega) (by omega)
  obtain ⟨L, hL, l1, l2⟩ := cut_num z 1000 (by omega) (by omega)
  have hF : wrap64 (1 + wrap64 ((IntKind.u64.wrap y).tmod 1000)) = 1 + F0 := by rw [hF0]; unfold wrap64; omega
  have h1 : helloS E (false, 0, 1) = (true, E, E + 1) := by
    unfold helloS; rw [if_neg (by omega)]; rw [show wrap64 (E + 1) = E + 1 by unfold wrap64; omega]
  by_cases hc : L ≤ E
  · exact snap_none x y z E (1 + F0) L w hE hF hL e1 (by omega) (by omega) (by omega) l1 (by omega) ⟨h1⟩ ⟨by unfold planS; rw [if_pos (.inr (show L < E + 1 by omega))]⟩ hc
  · by_cases hd : E + 1 < 1 + F0
    · exact snap_snap x y z E (1 + F0) L w hE hF hL e1 (by omega) (by omega) (by omega) l1 (by omega) ⟨h1⟩ ⟨by unfold planS; rw [if_neg (by simp; omega), if_pos (show E + 1 < 1 + F0 by omega)]⟩ (by omega) hd
    · have hw : wrap64 (wrap64 (L - (E + 1)) + 1) = L - E := by unfold wrap64; omega
      by_cases hq : E + 4 < L
      · exact snap_four x y z E (1 + F0) L w hE hF hL e1 (by omega) (by omega) (by omega) l1 (by omega) ⟨h1⟩ ⟨by unfold planS; rw [if_neg (by simp; omega), if_neg (show ¬ E + 1 < 1 + F0 by omega)]; simp only [hw]; rw [if_pos (by omega)]⟩ (by omega) (by omega)
      · exact snap_rest x y z E (1 + F0) L w hE hF hL e1 (by omega) (by omega) (by omega) l1 (by omega) ⟨h1⟩ ⟨by unfold planS; rw [if_neg (by simp; omega), if_neg (show ¬ E + 1 < 1 + F0 by omega)]; simp only [hw]; rw [if_neg (by omega)]⟩ (by omega) (by omega) (by omega)
end Go.Proofs.Ythkiofmfegeknaa.Sx
