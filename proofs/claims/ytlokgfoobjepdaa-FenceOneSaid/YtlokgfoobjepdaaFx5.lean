/- The contract of works(), and of the law FenceLeads. -/
import Derived.Test.YtlokgfoobjepdaaFx4
import Derived.Test.YtlokgfoobjepdaaXb
namespace Go.Proofs.Ytlokgfoobjepdaa.Fx
open Go.RowKit
open Go.Proofs.Ytlokgfoobjepdaa.Xb (Asd Blk below_alloc below_drew below_drewN below_step below_set)
set_option linter.unusedSimpArgs false
theorem promote_at {e b p n l r1 r2 r4 : Int} (h1 : pE e b p n l = r1) (h2 : pB e b p n l = r2) (h4 : pOK e b p n l = r4) (w : World) :
    Calls Try.prog 9 #[.agg #[.int .i64 e, .int .i64 b, .int .i64 p], .int .i64 n, .int .i64 l] w fun en w' => en = .returned (.tuple #[.agg #[.int .i64 r1, .int .i64 r2, .int .i64 r1], .int .i64 r4]) ∧ Below w.heap.size w w' := by
  subst h1; subst h2; subst h4; exact promote_any e b p n l w
theorem writes_at {e b p n : Int} {r : Bool} (h : writesB e b p n = r) (w : World) :
    Calls Try.prog 14 #[.agg #[.int .i64 e, .int .i64 b, .int .i64 p], .int .i64 n] w fun en w' => en = .returned (.bool r) ∧ Below w.heap.size w w' := h ▸ writes_any e b p n w
theorem judge_at {e b p n x r : Int} {t : Bool} (h : judgeI e b p n x t = r) (w : World) :
    Calls Try.prog 16 #[.agg #[.int .i64 e, .int .i64 b, .int .i64 p], .int .i64 n, .int .i64 x, .bool t] w fun en w' => en = .returned (.int .i64 r) ∧ Below w.heap.size w w' := h ▸ judge_any e b p n x t w
theorem promises_at {e b p r : Int} (h : wrap64 (e + 1) = r) (w : World) :
    Calls Try.prog 19 #[.agg #[.int .i64 e, .int .i64 b, .int .i64 p]] w fun en w' => en = .returned (.agg #[.int .i64 e, .int .i64 b, .int .i64 r]) ∧ Below w.heap.size w w' := h ▸ promises_any e b p w

set_option maxHeartbeats 1000000 in
theorem works_any (w : World) :
    Calls Try.prog 7 #[] w fun en w' => en = .returned (.bool true) ∧ Below w.heap.size w w' := by
  go_enter Try.func7, Try.ntmps7
  have HB : Asd (Below w.heap.size w w) := ⟨Below.refl _ _⟩
  go_wp2_with fail
  refine (promote_at (e := 1) (b := 0) (p := 1) (n := 1) (l := 5) (r1 := 2) (r2 := 5) (r4 := 0) (by decide +kernel) (by decide +kernel) (by decide +kernel) _).mono ?_; rintro en w1 ⟨rfl, hb1⟩
  have k_s : Blk w1 (w.heap.size) #[.int .i64 1, .int .i64 0, .int .i64 1] 27 := (by first | exact (Blk.new _ _ _).below hb1 | exact ((Blk.new _ _ _).alloc _).below hb1 | exact (Blk.new1 _ _ _ _).below hb1)
  have h_ : Below w.heap.size w w1 := below_step (by repeat (first | exact HB.out | apply below_alloc | apply below_drewN | apply below_drew | refine below_set ?_ (by have := HB.out.size; omega))) hb1
  clear HB hb1; have HB := Asd.mk h_; clear h_; have Z : w.heap.size ≤ w1.heap.size := HB.out.size
  have Ks := Asd.mk k_s; have Ls := k_s.lt; have cs0 := k_s.cell 0 rfl; have fs0 := k_s.frozen 0; have cs1 := k_s.cell 1 rfl; have fs1 := k_s.frozen 1; have cs2 := k_s.cell 2 rfl; have fs2 := k_s.frozen 2; clear k_s
  go_wp2_with fail
  refine (promote_at (e := 1) (b := 0) (p := 1) (n := 0) (l := 5) (r1 := 0) (r2 := 0) (r4 := 17) (by decide +kernel) (by decide +kernel) (by decide +kernel) _).mono ?_; rintro en w2 ⟨rfl, hb2⟩
  have k_s : Blk w2 (w.heap.size) #[.int .i64 1, .int .i64 0, .int .i64 1] 27 := (by first | exact Ks.out.below hb2 | exact (Ks.out.alloc _).below hb2 | exact ((Ks.out.alloc _).alloc _).below hb2)
  have k_a : Blk w2 (w1.heap.size) #[.int .i64 2, .int .i64 5, .int .i64 2] 27 := (by first | exact (Blk.new _ _ _).below hb2 | exact ((Blk.new _ _ _).alloc _).below hb2 | exact (Blk.new1 _ _ _ _).below hb2)
  have Dsa : w.heap.size < w1.heap.size := (by have := Ls; omega)
  have h_ : Below w.heap.size w w2 := below_step (by repeat (first | exact HB.out | apply below_alloc | apply below_drewN | apply below_drew | refine below_set ?_ (by have := HB.out.size; omega))) hb2
  clear Ks Ls cs0 fs0 cs1 fs1 cs2 fs2
  clear HB hb2 Z; have HB := Asd.mk h_; clear h_; have Z : w.heap.size ≤ w2.heap.size := HB.out.size
  have Ks := Asd.mk k_s; have Ls := k_s.lt; have cs0 := k_s.cell 0 rfl; have fs0 := k_s.frozen 0; have cs1 := k_s.cell 1 rfl; have fs1 := k_s.frozen 1; have cs2 := k_s.cell 2 rfl; have fs2 := k_s.frozen 2; clear k_s
  have Ka := Asd.mk k_a; have La := k_a.lt; have ca0 := k_a.cell 0 rfl; have fa0 := k_a.frozen 0; have ca1 := k_a.cell 1 rfl; have fa1 := k_a.frozen 1; have ca2 := k_a.cell 2 rfl; have fa2 := k_a.frozen 2; clear k_a
  go_wp2_with fail
  refine (promises_at (e := 1) (b := 0) (p := 1) (r := 2) (by decide +kernel) _).mono ?_; rintro en w3 ⟨rfl, hb3⟩
  have k_s : Blk w3 (w.heap.size) #[.int .i64 1, .int .i64 0, .int .i64 1] 27 := (by first | exact Ks.out.below hb3 | exact (Ks.out.alloc _).below hb3 | exact ((Ks.out.alloc _).alloc _).below hb3)
  have k_a : Blk w3 (w1.heap.size) #[.int .i64 2, .int .i64 5, .int .i64 2] 27 := (by first | exact Ka.out.below hb3 | exact (Ka.out.alloc _).below hb3 | exact ((Ka.out.alloc _).alloc _).below hb3)
  have k_x : Blk w3 (w2.heap.size) #[.int .i64 0, .int .i64 0, .int .i64 0] 27 := (by first | exact (Blk.new _ _ _).below hb3 | exact ((Blk.new _ _ _).alloc _).below hb3 | exact (Blk.new1 _ _ _ _).below hb3)
  have Dsx : w.heap.size < w2.heap.size := (by have := Ls; omega)
  have Dax : w1.heap.size < w2.heap.size := (by have := La; omega)
  have h_ : Below w.heap.size w w3 := below_step (by repeat (first | exact HB.out | apply below_alloc | apply below_drewN | apply below_drew | refine below_set ?_ (by have := HB.out.size; omega))) hb3
  clear Ks Ls cs0 fs0 cs1 fs1 cs2 fs2 Ka La ca0 fa0 ca1 fa1 ca2 fa2
  clear HB hb3 Z; have HB := Asd.mk h_; clear h_; have Z : w.heap.size ≤ w3.heap.size := HB.out.size
  have Ks := Asd.mk k_s; have Ls := k_s.lt; have cs0 := k_s.cell 0 rfl; have fs0 := k_s.frozen 0; have cs1 := k_s.cell 1 rfl; have fs1 := k_s.frozen 1; have cs2 := k_s.cell 2 rfl; have fs2 := k_s.frozen 2; clear k_s
  have Ka := Asd.mk k_a; have La := k_a.lt; have ca0 := k_a.cell 0 rfl; have fa0 := k_a.frozen 0; have ca1 := k_a.cell 1 rfl; have fa1 := k_a.frozen 1; have ca2 := k_a.cell 2 rfl; have fa2 := k_a.frozen 2; clear k_a
  have Kx := Asd.mk k_x; have Lx := k_x.lt; have cx0 := k_x.cell 0 rfl; have fx0 := k_x.frozen 0; have cx1 := k_x.cell 1 rfl; have fx1 := k_x.frozen 1; have cx2 := k_x.cell 2 rfl; have fx2 := k_x.frozen 2; clear k_x
  go_wp2_with fail
  refine (writes_at (e := 1) (b := 0) (p := 1) (n := 0) (r := true) (by decide +kernel) _).mono ?_; rintro en w4 ⟨rfl, hb4⟩
  have k_s : Blk w4 (w.heap.size) #[.int .i64 1, .int .i64 0, .int .i64 1] 27 := (by first | exact Ks.out.below hb4 | exact (Ks.out.alloc _).below hb4 | exact ((Ks.out.alloc _).alloc _).below hb4)
  have k_a : Blk w4 (w1.heap.size) #[.int .i64 2, .int .i64 5, .int .i64 2] 27 := (by first | exact Ka.out.below hb4 | exact (Ka.out.alloc _).below hb4 | exact ((Ka.out.alloc _).alloc _).below hb4)
  have k_x : Blk w4 (w2.heap.size) #[.int .i64 0, .int .i64 0, .int .i64 0] 27 := (by first | exact Kx.out.below hb4 | exact (Kx.out.alloc _).below hb4 | exact ((Kx.out.alloc _).alloc _).below hb4)
  have k_p : Blk w4 (w3.heap.size) #[.int .i64 1, .int .i64 0, .int .i64 2] 27 := (by first | exact (Blk.new _ _ _).below hb4 | exact ((Blk.new _ _ _).alloc _).below hb4 | exact (Blk.new1 _ _ _ _).below hb4)
  have Dsp : w.heap.size < w3.heap.size := (by have := Ls; omega)
  have Dap : w1.heap.size < w3.heap.size := (by have := La; omega)
  have Dxp : w2.heap.size < w3.heap.size := (by have := Lx; omega)
  have h_ : Below w.heap.size w w4 := below_step (by repeat (first | exact HB.out | apply below_alloc | apply below_drewN | apply below_drew | refine below_set ?_ (by have := HB.out.size; omega))) hb4
  clear Ks Ls cs0 fs0 cs1 fs1 cs2 fs2 Ka La ca0 fa0 ca1 fa1 ca2 fa2 Kx Lx cx0 fx0 cx1 fx1 cx2 fx2
  clear HB hb4 Z; have HB := Asd.mk h_; clear h_; have Z : w.heap.size ≤ w4.heap.size := HB.out.size
  have Ks := Asd.mk k_s; have Ls := k_s.lt; have cs0 := k_s.cell 0 rfl; have fs0 := k_s.frozen 0; have cs1 := k_s.cell 1 rfl; have fs1 := k_s.frozen 1; have cs2 := k_s.cell 2 rfl; have fs2 := k_s.frozen 2; clear k_s
  have Ka := Asd.mk k_a; have La := k_a.lt; have ca0 := k_a.cell 0 rfl; have fa0 := k_a.frozen 0; have ca1 := k_a.cell 1 rfl; have fa1 := k_a.frozen 1; have ca2 := k_a.cell 2 rfl; have fa2 := k_a.frozen 2; clear k_a
  have Kx := Asd.mk k_x; have Lx := k_x.lt; have cx0 := k_x.cell 0 rfl; have fx0 := k_x.frozen 0; have cx1 := k_x.cell 1 rfl; have fx1 := k_x.frozen 1; have cx2 := k_x.cell 2 rfl; have fx2 := k_x.frozen 2; clear k_x
  have Kp := Asd.mk k_p; have Lp := k_p.lt; have cp0 := k_p.cell 0 rfl; have fp0 := k_p.frozen 0; have cp1 := k_p.cell 1 rfl; have fp1 := k_p.frozen 1; have cp2 := k_p.cell 2 rfl; have fp2 := k_p.frozen 2; clear k_p
  go_wp2_with fail
  refine (writes_at (e := 1) (b := 0) (p := 1) (n := 1) (r := false) (by decide +kernel) _).mono ?_; rintro en w5 ⟨rfl, hb5⟩
  have k_s : Blk w5 (w.heap.size) #[.int .i64 1, .int .i64 0, .int .i64 1] 27 := (by first | exact Ks.out.below hb5 | exact (Ks.out.alloc _).below hb5 | exact ((Ks.out.alloc _).alloc _).below hb5)
  have k_a : Blk w5 (w1.heap.size) #[.int .i64 2, .int .i64 5, .int .i64 2] 27 := (by first | exact Ka.out.below hb5 | exact (Ka.out.alloc _).below hb5 | exact ((Ka.out.alloc _).alloc _).below hb5)
  have k_x : Blk w5 (w2.heap.size) #[.int .i64 0, .int .i64 0, .int .i64 0] 27 := (by first | exact Kx.out.below hb5 | exact (Kx.out.alloc _).below hb5 | exact ((Kx.out.alloc _).alloc _).below hb5)
  have k_p : Blk w5 (w3.heap.size) #[.int .i64 1, .int .i64 0, .int .i64 2] 27 := (by first | exact Kp.out.below hb5 | exact (Kp.out.alloc _).below hb5 | exact ((Kp.out.alloc _).alloc _).below hb5)
  have h_ : Below w.heap.size w w5 := below_step (by repeat (first | exact HB.out | apply below_alloc | apply below_drewN | apply below_drew | refine below_set ?_ (by have := HB.out.size; omega))) hb5
  clear Ks Ls cs0 fs0 cs1 fs1 cs2 fs2 Ka La ca0 fa0 ca1 fa1 ca2 fa2 Kx Lx cx0 fx0 cx1 fx1 cx2 fx2 Kp Lp cp0 fp0 cp1 fp1 cp2 fp2
  clear HB hb5 Z; have HB := Asd.mk h_; clear h_; have Z : w.heap.size ≤ w5.heap.size := HB.out.size
  have Ks := Asd.mk k_s; have Ls := k_s.lt; have cs0 := k_s.cell 0 rfl; have fs0 := k_s.frozen 0; have cs1 := k_s.cell 1 rfl; have fs1 := k_s.frozen 1; have cs2 := k_s.cell 2 rfl; have fs2 := k_s.frozen 2; clear k_s
  have Ka := Asd.mk k_a; have La := k_a.lt; have ca0 := k_a.cell 0 rfl; have fa0 := k_a.frozen 0; have ca1 := k_a.cell 1 rfl; have fa1 := k_a.frozen 1; have ca2 := k_a.cell 2 rfl; have fa2 := k_a.frozen 2; clear k_a
  have Kx := Asd.mk k_x; have Lx := k_x.lt; have cx0 := k_x.cell 0 rfl; have fx0 := k_x.frozen 0; have cx1 := k_x.cell 1 rfl; have fx1 := k_x.frozen 1; have cx2 := k_x.cell 2 rfl; have fx2 := k_x.frozen 2; clear k_x
  have Kp := Asd.mk k_p; have Lp := k_p.lt; have cp0 := k_p.cell 0 rfl; have fp0 := k_p.frozen 0; have cp1 := k_p.cell 1 rfl; have fp1 := k_p.frozen 1; have cp2 := k_p.cell 2 rfl; have fp2 := k_p.frozen 2; clear k_p
  go_wp2_with fail
  refine (judge_at (e := 1) (b := 0) (p := 1) (n := 0) (x := 2) (t := true) (r := 2) (by decide +kernel) _).mono ?_; rintro en w6 ⟨rfl, hb6⟩
  have k_s : Blk w6 (w.heap.size) #[.int .i64 1, .int .i64 0, .int .i64 1] 27 := (by first | exact Ks.out.below hb6 | exact (Ks.out.alloc _).below hb6 | exact ((Ks.out.alloc _).alloc _).below hb6)
  have k_a : Blk w6 (w1.heap.size) #[.int .i64 2, .int .i64 5, .int .i64 2] 27 := (by first | exact Ka.out.below hb6 | exact (Ka.out.alloc _).below hb6 | exact ((Ka.out.alloc _).alloc _).below hb6)
  have k_x : Blk w6 (w2.heap.size) #[.int .i64 0, .int .i64 0, .int .i64 0] 27 := (by first | exact Kx.out.below hb6 | exact (Kx.out.alloc _).below hb6 | exact ((Kx.out.alloc _).alloc _).below hb6)
  have k_p : Blk w6 (w3.heap.size) #[.int .i64 1, .int .i64 0, .int .i64 2] 27 := (by first | exact Kp.out.below hb6 | exact (Kp.out.alloc _).below hb6 | exact ((Kp.out.alloc _).alloc _).below hb6)
  have h_ : Below w.heap.size w w6 := below_step (by repeat (first | exact HB.out | apply below_alloc | apply below_drewN | apply below_drew | refine below_set ?_ (by have := HB.out.size; omega))) hb6
  clear Ks Ls cs0 fs0 cs1 fs1 cs2 fs2 Ka La ca0 fa0 ca1 fa1 ca2 fa2 Kx Lx cx0 fx0 cx1 fx1 cx2 fx2 Kp Lp cp0 fp0 cp1 fp1 cp2 fp2
  clear HB hb6 Z; have HB := Asd.mk h_; clear h_; have Z : w.heap.size ≤ w6.heap.size := HB.out.size
  have Ks := Asd.mk k_s; have Ls := k_s.lt; have cs0 := k_s.cell 0 rfl; have fs0 := k_s.frozen 0; have cs1 := k_s.cell 1 rfl; have fs1 := k_s.frozen 1; have cs2 := k_s.cell 2 rfl; have fs2 := k_s.frozen 2; clear k_s
  have Ka := Asd.mk k_a; have La := k_a.lt; have ca0 := k_a.cell 0 rfl; have fa0 := k_a.frozen 0; have ca1 := k_a.cell 1 rfl; have fa1 := k_a.frozen 1; have ca2 := k_a.cell 2 rfl; have fa2 := k_a.frozen 2; clear k_a
  have Kx := Asd.mk k_x; have Lx := k_x.lt; have cx0 := k_x.cell 0 rfl; have fx0 := k_x.frozen 0; have cx1 := k_x.cell 1 rfl; have fx1 := k_x.frozen 1; have cx2 := k_x.cell 2 rfl; have fx2 := k_x.frozen 2; clear k_x
  have Kp := Asd.mk k_p; have Lp := k_p.lt; have cp0 := k_p.cell 0 rfl; have fp0 := k_p.frozen 0; have cp1 := k_p.cell 1 rfl; have fp1 := k_p.frozen 1; have cp2 := k_p.cell 2 rfl; have fp2 := k_p.frozen 2; clear k_p
  go_wp2_with fail
  refine (writes_at (e := 1) (b := 0) (p := 2) (n := 0) (r := false) (by decide +kernel) _).mono ?_; rintro en w7 ⟨rfl, hb7⟩
  have k_s : Blk w7 (w.heap.size) #[.int .i64 1, .int .i64 0, .int .i64 1] 27 := (by first | exact Ks.out.below hb7 | exact (Ks.out.alloc _).below hb7 | exact ((Ks.out.alloc _).alloc _).below hb7)
  have k_a : Blk w7 (w1.heap.size) #[.int .i64 2, .int .i64 5, .int .i64 2] 27 := (by first | exact Ka.out.below hb7 | exact (Ka.out.alloc _).below hb7 | exact ((Ka.out.alloc _).alloc _).below hb7)
  have k_x : Blk w7 (w2.heap.size) #[.int .i64 0, .int .i64 0, .int .i64 0] 27 := (by first | exact Kx.out.below hb7 | exact (Kx.out.alloc _).below hb7 | exact ((Kx.out.alloc _).alloc _).below hb7)
  have k_p : Blk w7 (w3.heap.size) #[.int .i64 1, .int .i64 0, .int .i64 2] 27 := (by first | exact Kp.out.below hb7 | exact (Kp.out.alloc _).below hb7 | exact ((Kp.out.alloc _).alloc _).below hb7)
  have h_ : Below w.heap.size w w7 := below_step (by repeat (first | exact HB.out | apply below_alloc | apply below_drewN | apply below_drew | refine below_set ?_ (by have := HB.out.size; omega))) hb7
  clear Ks Ls cs0 fs0 cs1 fs1 cs2 fs2 Ka La ca0 fa0 ca1 fa1 ca2 fa2 Kx Lx cx0 fx0 cx1 fx1 cx2 fx2 Kp Lp cp0 fp0 cp1 fp1 cp2 fp2
  clear HB hb7 Z; have HB := Asd.mk h_; clear h_; have Z : w.heap.size ≤ w7.heap.size := HB.out.size
  have Ks := Asd.mk k_s; have Ls := k_s.lt; have cs0 := k_s.cell 0 rfl; have fs0 := k_s.frozen 0; have cs1 := k_s.cell 1 rfl; have fs1 := k_s.frozen 1; have cs2 := k_s.cell 2 rfl; have fs2 := k_s.frozen 2; clear k_s
  have Ka := Asd.mk k_a; have La := k_a.lt; have ca0 := k_a.cell 0 rfl; have fa0 := k_a.frozen 0; have ca1 := k_a.cell 1 rfl; have fa1 := k_a.frozen 1; have ca2 := k_a.cell 2 rfl; have fa2 := k_a.frozen 2; clear k_a
  have Kx := Asd.mk k_x; have Lx := k_x.lt; have cx0 := k_x.cell 0 rfl; have fx0 := k_x.frozen 0; have cx1 := k_x.cell 1 rfl; have fx1 := k_x.frozen 1; have cx2 := k_x.cell 2 rfl; have fx2 := k_x.frozen 2; clear k_x
  have Kp := Asd.mk k_p; have Lp := k_p.lt; have cp0 := k_p.cell 0 rfl; have fp0 := k_p.frozen 0; have cp1 := k_p.cell 1 rfl; have fp1 := k_p.frozen 1; have cp2 := k_p.cell 2 rfl; have fp2 := k_p.frozen 2; clear k_p
  go_wp2_with fail
  refine (judge_at (e := 1) (b := 0) (p := 2) (n := 0) (x := 1) (t := true) (r := 3) (by decide +kernel) _).mono ?_; rintro en w8 ⟨rfl, hb8⟩
  have k_s : Blk w8 (w.heap.size) #[.int .i64 1, .int .i64 0, .int .i64 1] 27 := (by first | exact Ks.out.below hb8 | exact (Ks.out.alloc _).below hb8 | exact ((Ks.out.alloc _).alloc _).below hb8)
  have k_a : Blk w8 (w1.heap.size) #[.int .i64 2, .int .i64 5, .int .i64 2] 27 := (by first | exact Ka.out.below hb8 | exact (Ka.out.alloc _).below hb8 | exact ((Ka.out.alloc _).alloc _).below hb8)
  have k_x : Blk w8 (w2.heap.size) #[.int .i64 0, .int .i64 0, .int .i64 0] 27 := (by first | exact Kx.out.below hb8 | exact (Kx.out.alloc _).below hb8 | exact ((Kx.out.alloc _).alloc _).below hb8)
  have k_p : Blk w8 (w3.heap.size) #[.int .i64 1, .int .i64 0, .int .i64 2] 27 := (by first | exact Kp.out.below hb8 | exact (Kp.out.alloc _).below hb8 | exact ((Kp.out.alloc _).alloc _).below hb8)
  have h_ : Below w.heap.size w w8 := below_step (by repeat (first | exact HB.out | apply below_alloc | apply below_drewN | apply below_drew | refine below_set ?_ (by have := HB.out.size; omega))) hb8
  clear Ks Ls cs0 fs0 cs1 fs1 cs2 fs2 Ka La ca0 fa0 ca1 fa1 ca2 fa2 Kx Lx cx0 fx0 cx1 fx1 cx2 fx2 Kp Lp cp0 fp0 cp1 fp1 cp2 fp2
  clear HB hb8 Z; have HB := Asd.mk h_; clear h_; have Z : w.heap.size ≤ w8.heap.size := HB.out.size
  have Ks := Asd.mk k_s; have Ls := k_s.lt; have cs0 := k_s.cell 0 rfl; have fs0 := k_s.frozen 0; have cs1 := k_s.cell 1 rfl; have fs1 := k_s.frozen 1; have cs2 := k_s.cell 2 rfl; have fs2 := k_s.frozen 2; clear k_s
  have Ka := Asd.mk k_a; have La := k_a.lt; have ca0 := k_a.cell 0 rfl; have fa0 := k_a.frozen 0; have ca1 := k_a.cell 1 rfl; have fa1 := k_a.frozen 1; have ca2 := k_a.cell 2 rfl; have fa2 := k_a.frozen 2; clear k_a
  have Kx := Asd.mk k_x; have Lx := k_x.lt; have cx0 := k_x.cell 0 rfl; have fx0 := k_x.frozen 0; have cx1 := k_x.cell 1 rfl; have fx1 := k_x.frozen 1; have cx2 := k_x.cell 2 rfl; have fx2 := k_x.frozen 2; clear k_x
  have Kp := Asd.mk k_p; have Lp := k_p.lt; have cp0 := k_p.cell 0 rfl; have fp0 := k_p.frozen 0; have cp1 := k_p.cell 1 rfl; have fp1 := k_p.frozen 1; have cp2 := k_p.cell 2 rfl; have fp2 := k_p.frozen 2; clear k_p
  go_wp2_with fail
  refine (judge_at (e := 1) (b := 0) (p := 1) (n := 0) (x := 1) (t := false) (r := 1) (by decide +kernel) _).mono ?_; rintro en w9 ⟨rfl, hb9⟩
  have k_s : Blk w9 (w.heap.size) #[.int .i64 1, .int .i64 0, .int .i64 1] 27 := (by first | exact Ks.out.below hb9 | exact (Ks.out.alloc _).below hb9 | exact ((Ks.out.alloc _).alloc _).below hb9)
  have k_a : Blk w9 (w1.heap.size) #[.int .i64 2, .int .i64 5, .int .i64 2] 27 := (by first | exact Ka.out.below hb9 | exact (Ka.out.alloc _).below hb9 | exact ((Ka.out.alloc _).alloc _).below hb9)
  have k_x : Blk w9 (w2.heap.size) #[.int .i64 0, .int .i64 0, .int .i64 0] 27 := (by first | exact Kx.out.below hb9 | exact (Kx.out.alloc _).below hb9 | exact ((Kx.out.alloc _).alloc _).below hb9)
  have k_p : Blk w9 (w3.heap.size) #[.int .i64 1, .int .i64 0, .int .i64 2] 27 := (by first | exact Kp.out.below hb9 | exact (Kp.out.alloc _).below hb9 | exact ((Kp.out.alloc _).alloc _).below hb9)
  have h_ : Below w.heap.size w w9 := below_step (by repeat (first | exact HB.out | apply below_alloc | apply below_drewN | apply below_drew | refine below_set ?_ (by have := HB.out.size; omega))) hb9
  clear Ks Ls cs0 fs0 cs1 fs1 cs2 fs2 Ka La ca0 fa0 ca1 fa1 ca2 fa2 Kx Lx cx0 fx0 cx1 fx1 cx2 fx2 Kp Lp cp0 fp0 cp1 fp1 cp2 fp2
  clear HB hb9 Z; have HB := Asd.mk h_; clear h_; have Z : w.heap.size ≤ w9.heap.size := HB.out.size
  have Ks := Asd.mk k_s; have Ls := k_s.lt; have cs0 := k_s.cell 0 rfl; have fs0 := k_s.frozen 0; have cs1 := k_s.cell 1 rfl; have fs1 := k_s.frozen 1; have cs2 := k_s.cell 2 rfl; have fs2 := k_s.frozen 2; clear k_s
  have Ka := Asd.mk k_a; have La := k_a.lt; have ca0 := k_a.cell 0 rfl; have fa0 := k_a.frozen 0; have ca1 := k_a.cell 1 rfl; have fa1 := k_a.frozen 1; have ca2 := k_a.cell 2 rfl; have fa2 := k_a.frozen 2; clear k_a
  have Kx := Asd.mk k_x; have Lx := k_x.lt; have cx0 := k_x.cell 0 rfl; have fx0 := k_x.frozen 0; have cx1 := k_x.cell 1 rfl; have fx1 := k_x.frozen 1; have cx2 := k_x.cell 2 rfl; have fx2 := k_x.frozen 2; clear k_x
  have Kp := Asd.mk k_p; have Lp := k_p.lt; have cp0 := k_p.cell 0 rfl; have fp0 := k_p.frozen 0; have cp1 := k_p.cell 1 rfl; have fp1 := k_p.frozen 1; have cp2 := k_p.cell 2 rfl; have fp2 := k_p.frozen 2; clear k_p
  go_wp2_with fail
  go_ret
  exact ⟨rfl, (by repeat (first | exact HB.out | exact Below.refl _ _ | apply below_alloc | apply below_drewN | apply below_drew | refine below_set ?_ (by omega)))⟩
end Go.Proofs.Ytlokgfoobjepdaa.Fx
