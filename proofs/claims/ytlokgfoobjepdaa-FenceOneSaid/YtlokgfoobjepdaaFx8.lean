/- The law FencePromised as a contract. -/
import Derived.Test.YtlokgfoobjepdaaFx6
import Derived.Test.YtlokgfoobjepdaaWTab
namespace Go.Proofs.Ytlokgfoobjepdaa.Fx
open Go.RowKit
open Go.Proofs.Ytlokgfoobjepdaa.Xb (Asd Blk below_alloc below_drew below_drewN below_step below_set)
open Go.Proofs.YtlokgfoobjepdaaW.PrintLast (start_ take_ pure_ one_ norm_ goes_ done_ done_of any_of one_of take_ofW with_tabW rtab waitsOk opsOf i64_w i32_w)
set_option linter.unusedSimpArgs false
set_option linter.unusedVariables false
theorem adopt_at {e b p n r : Int} (h : wrap64 (e + 1) = r) (w : World) :
    Calls Try.prog 21 #[.agg #[.int .i64 e, .int .i64 b, .int .i64 p], .int .i64 n] w fun en w' => en = .returned (.agg #[.int .i64 r, .int .i64 n, .int .i64 r]) ∧ Below w.heap.size w w' := h ▸ adopt_any e b p n w
def prom13T : Bool × List (List Nat × List Nat) := (true, [([], []), ([], []), ([], []), ([1, 2], [1, 2]), ([0, 3], [0, 3]), ([4, 3], [4]), ([5], [5]), ([6, 5], [5, 6]), ([5], [5]), ([8, 5], [5, 8]), ([7, 9, 5], [5, 7, 9]), ([5, 10], [5, 10]), ([11, 5], [11]), ([12], [12]), ([13, 12], [12, 13]), ([12], [12]), ([14, 15, 12], [12, 14, 15]), ([12, 16], [12, 16]), ([17, 12], [17]), ([18], [18]), ([19, 18], [18, 19]), ([18], [18]), ([21, 18], [18, 21]), ([20, 22, 18], [18, 20, 22]), ([18, 23], [18, 23]), ([24, 18], [24]), ([25], [25]), ([25], [25]), ([25], [25]), ([28, 25], [25, 28]), ([26, 27, 29, 25, 25], [25, 26, 27, 29]), ([30, 25], [25, 30]), ([25, 31], [25, 31]), ([32, 30], [32]), ([33], [33]), ([33], [33]), ([34, 35, 33, 33], [33, 34, 35]), ([33], [33]), ([37, 33], [33, 37]), ([38, 36, 33], [33, 38]), ([33], [33]), ([39, 40, 33], [33, 39, 40]), ([36, 41, 33], [33, 36, 41]), ([33, 42], [33, 42]), ([43, 39, 0, 1, 2, 3, 4, 5, 6, 7, 8, 9, 10, 11, 12, 13, 14, 15, 16, 17, 18, 19, 20, 21, 22, 23, 24, 25, 26, 27, 28, 29, 30, 31, 32, 33, 34, 35, 36, 37, 38, 39, 40, 41, 42, 43], [43])])
def prom13B : List Nat := [0, 0, 0, 6, 15, 31, 63, 127, 63, 319, 1023, 2047, 4095, 8191, 16383, 8191, 65535, 131071, 262143, 524287, 1048575, 524287, 2621439, 8388607, 16777215, 33554431, 67108863, 67108863, 67108863, 335544319, 1073741823, 2147483647, 4294967295, 8589934591, 17179869183, 17179869183, 68719476735, 17179869183, 154618822655, 549755813887, 17179869183, 2199023255551, 4398046511103, 8796093022207, 17592186044415]
theorem prom13tab : rtab .any (opsOf Try.f6 13) = prom13T := by kernel_rfl
theorem prom13bits : waitsOk prom13T.2 prom13B = true := by kernel_rfl
set_option maxHeartbeats 4000000 in
set_option maxRecDepth 100000 in
theorem promised_core (x y z E B D r0 j : Int) (k : Bool) (w : World) (hE : wrap64 (1 + wrap64 ((IntKind.u64.wrap x).tmod 1000)) = E) (hB : wrap64 ((IntKind.u64.wrap y).tmod 1000) = B) (hD : wrap64 ((IntKind.u64.wrap z).tmod 2) = D)
    (b1 : 1 ≤ E) (b2 : E ≤ 1000) (b3 : 0 ≤ B) (b4 : B ≤ 999) (b5 : 0 ≤ D) (b6 : D ≤ 1)
    (h1 : Asd (wrap64 (E + 1) = E + 1)) (h2 : Asd (pE E 0 (E + 1) D B = 0)) (h3 : Asd (pB E 0 (E + 1) D B = 0)) (h4 : Asd (pOK E 0 (E + 1) D B = r0)) (h5 : Asd (writesB E 0 (E + 1) D = false)) (h6 : Asd (judgeI E 0 (E + 1) D E true = 3)) (h7 : Asd (judgeI E 0 (E + 1) D (E + 1) true = j)) (h8 : Asd (judgeI E 0 (E + 1) D (E + 1) false = 0)) (h9 : Asd (judgeI (E + 1) B (E + 1) D (E + 1) false = 1)) (h10 : Asd (writesB (E + 1) B (E + 1) D = k)) (hq : Asd ((lead (E + 1) == D) = k))
    (h11 : (r0 == 0) = false) (h12 : ((j == 2) == (lead (E + 1) == D)) = false) :
    Calls Try.prog 6 #[.int .i64 x, .int .i64 y, .int .i64 z] w fun en w' => en = .returned (.bool true) ∧ Below w.heap.size w w' := by
  go_enter Try.func6, Try.ntmps6
  have HB : Asd (Below w.heap.size w w) := ⟨Below.refl _ _⟩
  go_wp2_with fail
  refine (works_any _).mono ?_; rintro en w1 ⟨rfl, hb1⟩
  have h_ : Below w.heap.size w w1 := below_step (by repeat (first | exact HB.out | apply below_alloc | apply below_drewN | apply below_drew | refine below_set ?_ (by have := HB.out.size; omega))) hb1
  clear HB hb1; have HB := Asd.mk h_; clear h_; have Z : w.heap.size ≤ w1.heap.size := HB.out.size
  go_wp2_with fail
  simp only [hE, hB, hD]
  clear hE hB hD
  refine (promises_at (e := E) (b := 0) (p := E) (r := E + 1) h1.out _).mono ?_; rintro en w2 ⟨rfl, hb2⟩
  have k_s : Blk w2 (w1.heap.size) #[.int .i64 E, .int .i64 0, .int .i64 E] 27 := (by first | exact (Blk.new _ _ _).below hb2 | exact ((Blk.new _ _ _).alloc _).below hb2 | exact (Blk.new1 _ _ _ _).below hb2)
  have h_ : Below w.heap.size w w2 := below_step (by repeat (first | exact HB.out | apply below_alloc | apply below_drewN | apply below_drew | refine below_set ?_ (by have := HB.out.size; omega))) hb2
  clear HB hb2 Z; have HB := Asd.mk h_; clear h_; have Z : w.heap.size ≤ w2.heap.size := HB.out.size
  have Ks := Asd.mk k_s; have Ls := k_s.lt; have cs0 := k_s.cell 0 rfl; have fs0 := k_s.frozen 0; have cs1 := k_s.cell 1 rfl; have fs1 := k_s.frozen 1; have cs2 := k_s.cell 2 rfl; have fs2 := k_s.frozen 2; clear k_s
  go_wp2_with fail
  refine (promote_at (e := E) (b := 0) (p := E + 1) (n := D) (l := B) (r1 := 0) (r2 := 0) (r4 := r0) h2.out h3.out h4.out _).mono ?_; rintro en w3 ⟨rfl, hb3⟩
  have k_s : Blk w3 (w1.heap.size) #[.int .i64 E, .int .i64 0, .int .i64 E] 27 := (by first | exact Ks.out.below hb3 | exact (Ks.out.alloc _).below hb3 | exact ((Ks.out.alloc _).alloc _).below hb3)
  have k_p : Blk w3 (w2.heap.size) #[.int .i64 E, .int .i64 0, .int .i64 (E + 1)] 27 := (by first | exact (Blk.new _ _ _).below hb3 | exact ((Blk.new _ _ _).alloc _).below hb3 | exact (Blk.new1 _ _ _ _).below hb3)
  have Dsp : w1.heap.size < w2.heap.size := (by have := Ls; omega)
  have h_ : Below w.heap.size w w3 := below_step (by repeat (first | exact HB.out | apply below_alloc | apply below_drewN | apply below_drew | refine below_set ?_ (by have := HB.out.size; omega))) hb3
  clear Ks Ls cs0 fs0 cs1 fs1 cs2 fs2
  clear HB hb3 Z; have HB := Asd.mk h_; clear h_; have Z : w.heap.size ≤ w3.heap.size := HB.out.size
  have Ks := Asd.mk k_s; have Ls := k_s.lt; have cs0 := k_s.cell 0 rfl; have fs0 := k_s.frozen 0; have cs1 := k_s.cell 1 rfl; have fs1 := k_s.frozen 1; have cs2 := k_s.cell 2 rfl; have fs2 := k_s.frozen 2; clear k_s
  have Kp := Asd.mk k_p; have Lp := k_p.lt; have cp0 := k_p.cell 0 rfl; have fp0 := k_p.frozen 0; have cp1 := k_p.cell 1 rfl; have fp1 := k_p.frozen 1; have cp2 := k_p.cell 2 rfl; have fp2 := k_p.frozen 2; clear k_p
  go_wp2_with fail
  refine (writes_at (e := E) (b := 0) (p := E + 1) (n := D) (r := false) h5.out _).mono ?_; rintro en w4 ⟨rfl, hb4⟩
  have k_s : Blk w4 (w1.heap.size) #[.int .i64 E, .int .i64 0, .int .i64 E] 27 := (by first | exact Ks.out.below hb4 | exact (Ks.out.alloc _).below hb4 | exact ((Ks.out.alloc _).alloc _).below hb4)
  have k_p : Blk w4 (w2.heap.size) #[.int .i64 E, .int .i64 0, .int .i64 (E + 1)] 27 := (by first | exact Kp.out.below hb4 | exact (Kp.out.alloc _).below hb4 | exact ((Kp.out.alloc _).alloc _).below hb4)
  have k_x : Blk w4 (w3.heap.size) #[.int .i64 0, .int .i64 0, .int .i64 0] 27 := (by first | exact (Blk.new _ _ _).below hb4 | exact ((Blk.new _ _ _).alloc _).below hb4 | exact (Blk.new1 _ _ _ _).below hb4)
  have Dsx : w1.heap.size < w3.heap.size := (by have := Ls; omega)
  have Dpx : w2.heap.size < w3.heap.size := (by have := Lp; omega)
  have h_ : Below w.heap.size w w4 := below_step (by repeat (first | exact HB.out | apply below_alloc | apply below_drewN | apply below_drew | refine below_set ?_ (by have := HB.out.size; omega))) hb4
  clear Ks Ls cs0 fs0 cs1 fs1 cs2 fs2 Kp Lp cp0 fp0 cp1 fp1 cp2 fp2
  clear HB hb4 Z; have HB := Asd.mk h_; clear h_; have Z : w.heap.size ≤ w4.heap.size := HB.out.size
  have Ks := Asd.mk k_s; have Ls := k_s.lt; have cs0 := k_s.cell 0 rfl; have fs0 := k_s.frozen 0; have cs1 := k_s.cell 1 rfl; have fs1 := k_s.frozen 1; have cs2 := k_s.cell 2 rfl; have fs2 := k_s.frozen 2; clear k_s
  have Kp := Asd.mk k_p; have Lp := k_p.lt; have cp0 := k_p.cell 0 rfl; have fp0 := k_p.frozen 0; have cp1 := k_p.cell 1 rfl; have fp1 := k_p.frozen 1; have cp2 := k_p.cell 2 rfl; have fp2 := k_p.frozen 2; clear k_p
  have Kx := Asd.mk k_x; have Lx := k_x.lt; have cx0 := k_x.cell 0 rfl; have fx0 := k_x.frozen 0; have cx1 := k_x.cell 1 rfl; have fx1 := k_x.frozen 1; have cx2 := k_x.cell 2 rfl; have fx2 := k_x.frozen 2; clear k_x
  go_wp2_with fail
  refine (judge_at (e := E) (b := 0) (p := E + 1) (n := D) (x := E) (t := true) (r := 3) h6.out _).mono ?_; rintro en w5 ⟨rfl, hb5⟩
  have k_s : Blk w5 (w1.heap.size) #[.int .i64 E, .int .i64 0, .int .i64 E] 27 := (by first | exact Ks.out.below hb5 | exact (Ks.out.alloc _).below hb5 | exact ((Ks.out.alloc _).alloc _).below hb5)
  have k_p : Blk w5 (w2.heap.size) #[.int .i64 E, .int .i64 0, .int .i64 (E + 1)] 27 := (by first | exact Kp.out.below hb5 | exact (Kp.out.alloc _).below hb5 | exact ((Kp.out.alloc _).alloc _).below hb5)
  have k_x : Blk w5 (w3.heap.size) #[.int .i64 0, .int .i64 0, .int .i64 0] 27 := (by first | exact Kx.out.below hb5 | exact (Kx.out.alloc _).below hb5 | exact ((Kx.out.alloc _).alloc _).below hb5)
  have h_ : Below w.heap.size w w5 := below_step (by repeat (first | exact HB.out | apply below_alloc | apply below_drewN | apply below_drew | refine below_set ?_ (by have := HB.out.size; omega))) hb5
  clear Ks Ls cs0 fs0 cs1 fs1 cs2 fs2 Kp Lp cp0 fp0 cp1 fp1 cp2 fp2 Kx Lx cx0 fx0 cx1 fx1 cx2 fx2
  clear HB hb5 Z; have HB := Asd.mk h_; clear h_; have Z : w.heap.size ≤ w5.heap.size := HB.out.size
  have Ks := Asd.mk k_s; have Ls := k_s.lt; have cs0 := k_s.cell 0 rfl; have fs0 := k_s.frozen 0; have cs1 := k_s.cell 1 rfl; have fs1 := k_s.frozen 1; have cs2 := k_s.cell 2 rfl; have fs2 := k_s.frozen 2; clear k_s
  have Kp := Asd.mk k_p; have Lp := k_p.lt; have cp0 := k_p.cell 0 rfl; have fp0 := k_p.frozen 0; have cp1 := k_p.cell 1 rfl; have fp1 := k_p.frozen 1; have cp2 := k_p.cell 2 rfl; have fp2 := k_p.frozen 2; clear k_p
  have Kx := Asd.mk k_x; have Lx := k_x.lt; have cx0 := k_x.cell 0 rfl; have fx0 := k_x.frozen 0; have cx1 := k_x.cell 1 rfl; have fx1 := k_x.frozen 1; have cx2 := k_x.cell 2 rfl; have fx2 := k_x.frozen 2; clear k_x
  go_wp2_with fail
  refine (judge_at (e := E) (b := 0) (p := E + 1) (n := D) (x := E + 1) (t := true) (r := j) h7.out _).mono ?_; rintro en w6 ⟨rfl, hb6⟩
  have k_s : Blk w6 (w1.heap.size) #[.int .i64 E, .int .i64 0, .int .i64 E] 27 := (by first | exact Ks.out.below hb6 | exact (Ks.out.alloc _).below hb6 | exact ((Ks.out.alloc _).alloc _).below hb6)
  have k_p : Blk w6 (w2.heap.size) #[.int .i64 E, .int .i64 0, .int .i64 (E + 1)] 27 := (by first | exact Kp.out.below hb6 | exact (Kp.out.alloc _).below hb6 | exact ((Kp.out.alloc _).alloc _).below hb6)
  have k_x : Blk w6 (w3.heap.size) #[.int .i64 0, .int .i64 0, .int .i64 0] 27 := (by first | exact Kx.out.below hb6 | exact (Kx.out.alloc _).below hb6 | exact ((Kx.out.alloc _).alloc _).below hb6)
  have h_ : Below w.heap.size w w6 := below_step (by repeat (first | exact HB.out | apply below_alloc | apply below_drewN | apply below_drew | refine below_set ?_ (by have := HB.out.size; omega))) hb6
  clear Ks Ls cs0 fs0 cs1 fs1 cs2 fs2 Kp Lp cp0 fp0 cp1 fp1 cp2 fp2 Kx Lx cx0 fx0 cx1 fx1 cx2 fx2
  clear HB hb6 Z; have HB := Asd.mk h_; clear h_; have Z : w.heap.size ≤ w6.heap.size := HB.out.size
  have Ks := Asd.mk k_s; have Ls := k_s.lt; have cs0 := k_s.cell 0 rfl; have fs0 := k_s.frozen 0; have cs1 := k_s.cell 1 rfl; have fs1 := k_s.frozen 1; have cs2 := k_s.cell 2 rfl; have fs2 := k_s.frozen 2; clear k_s
  have Kp := Asd.mk k_p; have Lp := k_p.lt; have cp0 := k_p.cell 0 rfl; have fp0 := k_p.frozen 0; have cp1 := k_p.cell 1 rfl; have fp1 := k_p.frozen 1; have cp2 := k_p.cell 2 rfl; have fp2 := k_p.frozen 2; clear k_p
  have Kx := Asd.mk k_x; have Lx := k_x.lt; have cx0 := k_x.cell 0 rfl; have fx0 := k_x.frozen 0; have cx1 := k_x.cell 1 rfl; have fx1 := k_x.frozen 1; have cx2 := k_x.cell 2 rfl; have fx2 := k_x.frozen 2; clear k_x
  go_wp2_with fail
  refine (leader_any _ _).mono ?_; rintro en w_ ⟨rfl, rfl⟩
  go_wp2_with fail
  refine (judge_at (e := E) (b := 0) (p := E + 1) (n := D) (x := E + 1) (t := false) (r := 0) h8.out _).mono ?_; rintro en w7 ⟨rfl, hb7⟩
  have k_s : Blk w7 (w1.heap.size) #[.int .i64 E, .int .i64 0, .int .i64 E] 27 := (by first | exact Ks.out.below hb7 | exact (Ks.out.alloc _).below hb7 | exact ((Ks.out.alloc _).alloc _).below hb7)
  have k_p : Blk w7 (w2.heap.size) #[.int .i64 E, .int .i64 0, .int .i64 (E + 1)] 27 := (by first | exact Kp.out.below hb7 | exact (Kp.out.alloc _).below hb7 | exact ((Kp.out.alloc _).alloc _).below hb7)
  have k_x : Blk w7 (w3.heap.size) #[.int .i64 0, .int .i64 0, .int .i64 0] 27 := (by first | exact Kx.out.below hb7 | exact (Kx.out.alloc _).below hb7 | exact ((Kx.out.alloc _).alloc _).below hb7)
  have h_ : Below w.heap.size w w7 := below_step (by repeat (first | exact HB.out | apply below_alloc | apply below_drewN | apply below_drew | refine below_set ?_ (by have := HB.out.size; omega))) hb7
  clear Ks Ls cs0 fs0 cs1 fs1 cs2 fs2 Kp Lp cp0 fp0 cp1 fp1 cp2 fp2 Kx Lx cx0 fx0 cx1 fx1 cx2 fx2
  clear HB hb7 Z; have HB := Asd.mk h_; clear h_; have Z : w.heap.size ≤ w7.heap.size := HB.out.size
  have Ks := Asd.mk k_s; have Ls := k_s.lt; have cs0 := k_s.cell 0 rfl; have fs0 := k_s.frozen 0; have cs1 := k_s.cell 1 rfl; have fs1 := k_s.frozen 1; have cs2 := k_s.cell 2 rfl; have fs2 := k_s.frozen 2; clear k_s
  have Kp := Asd.mk k_p; have Lp := k_p.lt; have cp0 := k_p.cell 0 rfl; have fp0 := k_p.frozen 0; have cp1 := k_p.cell 1 rfl; have fp1 := k_p.frozen 1; have cp2 := k_p.cell 2 rfl; have fp2 := k_p.frozen 2; clear k_p
  have Kx := Asd.mk k_x; have Lx := k_x.lt; have cx0 := k_x.cell 0 rfl; have fx0 := k_x.frozen 0; have cx1 := k_x.cell 1 rfl; have fx1 := k_x.frozen 1; have cx2 := k_x.cell 2 rfl; have fx2 := k_x.frozen 2; clear k_x
  go_wp2_with fail
  refine (adopt_at (e := E) (b := 0) (p := E + 1) (n := B) (r := E + 1) h1.out _).mono ?_; rintro en w8 ⟨rfl, hb8⟩
  have k_s : Blk w8 (w1.heap.size) #[.int .i64 E, .int .i64 0, .int .i64 E] 27 := (by first | exact Ks.out.below hb8 | exact (Ks.out.alloc _).below hb8 | exact ((Ks.out.alloc _).alloc _).below hb8)
  have k_p : Blk w8 (w2.heap.size) #[.int .i64 E, .int .i64 0, .int .i64 (E + 1)] 27 := (by first | exact Kp.out.below hb8 | exact (Kp.out.alloc _).below hb8 | exact ((Kp.out.alloc _).alloc _).below hb8)
  have k_x : Blk w8 (w3.heap.size) #[.int .i64 0, .int .i64 0, .int .i64 0] 27 := (by first | exact Kx.out.below hb8 | exact (Kx.out.alloc _).below hb8 | exact ((Kx.out.alloc _).alloc _).below hb8)
  have h_ : Below w.heap.size w w8 := below_step (by repeat (first | exact HB.out | apply below_alloc | apply below_drewN | apply below_drew | refine below_set ?_ (by have := HB.out.size; omega))) hb8
  clear Ks Ls cs0 fs0 cs1 fs1 cs2 fs2 Kp Lp cp0 fp0 cp1 fp1 cp2 fp2 Kx Lx cx0 fx0 cx1 fx1 cx2 fx2
  clear HB hb8 Z; have HB := Asd.mk h_; clear h_; have Z : w.heap.size ≤ w8.heap.size := HB.out.size
  have Ks := Asd.mk k_s; have Ls := k_s.lt; have cs0 := k_s.cell 0 rfl; have fs0 := k_s.frozen 0; have cs1 := k_s.cell 1 rfl; have fs1 := k_s.frozen 1; have cs2 := k_s.cell 2 rfl; have fs2 := k_s.frozen 2; clear k_s
  have Kp := Asd.mk k_p; have Lp := k_p.lt; have cp0 := k_p.cell 0 rfl; have fp0 := k_p.frozen 0; have cp1 := k_p.cell 1 rfl; have fp1 := k_p.frozen 1; have cp2 := k_p.cell 2 rfl; have fp2 := k_p.frozen 2; clear k_p
  have Kx := Asd.mk k_x; have Lx := k_x.lt; have cx0 := k_x.cell 0 rfl; have fx0 := k_x.frozen 0; have cx1 := k_x.cell 1 rfl; have fx1 := k_x.frozen 1; have cx2 := k_x.cell 2 rfl; have fx2 := k_x.frozen 2; clear k_x
  go_wp2_with fail
  have k_s := Ks.out.alloc (.cells #[.int .i64 (E + 1), .int .i64 B, .int .i64 (E + 1)] 27 (0, 0))
  have k_p := Kp.out.alloc (.cells #[.int .i64 (E + 1), .int .i64 B, .int .i64 (E + 1)] 27 (0, 0))
  have k_x := Kx.out.alloc (.cells #[.int .i64 (E + 1), .int .i64 B, .int .i64 (E + 1)] 27 (0, 0))
  have k_a := Blk.new w8 #[.int .i64 (E + 1), .int .i64 B, .int .i64 (E + 1)] 27
  have h_ := below_alloc HB.out (.cells #[.int .i64 (E + 1), .int .i64 B, .int .i64 (E + 1)] 27 (0, 0))
  revert k_s k_p k_x k_a h_
  generalize (w8.alloc (.cells #[.int .i64 (E + 1), .int .i64 B, .int .i64 (E + 1)] 27 (0, 0))) = w9
  intro k_s k_p k_x k_a h_
  have Dsa : w1.heap.size < w8.heap.size := (by have := Ls; omega)
  have Dpa : w2.heap.size < w8.heap.size := (by have := Lp; omega)
  have Dxa : w3.heap.size < w8.heap.size := (by have := Lx; omega)
  clear Ks Ls cs0 fs0 cs1 fs1 cs2 fs2 Kp Lp cp0 fp0 cp1 fp1 cp2 fp2 Kx Lx cx0 fx0 cx1 fx1 cx2 fx2
  clear HB Z; have HB := Asd.mk h_; clear h_; have Z : w.heap.size ≤ w9.heap.size := HB.out.size
  have Ks := Asd.mk k_s; have Ls := k_s.lt; have cs0 := k_s.cell 0 rfl; have fs0 := k_s.frozen 0; have cs1 := k_s.cell 1 rfl; have fs1 := k_s.frozen 1; have cs2 := k_s.cell 2 rfl; have fs2 := k_s.frozen 2; clear k_s
  have Kp := Asd.mk k_p; have Lp := k_p.lt; have cp0 := k_p.cell 0 rfl; have fp0 := k_p.frozen 0; have cp1 := k_p.cell 1 rfl; have fp1 := k_p.frozen 1; have cp2 := k_p.cell 2 rfl; have fp2 := k_p.frozen 2; clear k_p
  have Kx := Asd.mk k_x; have Lx := k_x.lt; have cx0 := k_x.cell 0 rfl; have fx0 := k_x.frozen 0; have cx1 := k_x.cell 1 rfl; have fx1 := k_x.frozen 1; have cx2 := k_x.cell 2 rfl; have fx2 := k_x.frozen 2; clear k_x
  have Ka := Asd.mk k_a; have La := k_a.lt; have ca0 := k_a.cell 0 rfl; have fa0 := k_a.frozen 0; have ca1 := k_a.cell 1 rfl; have fa1 := k_a.frozen 1; have ca2 := k_a.cell 2 rfl; have fa2 := k_a.frozen 2; clear k_a
  have hq1 : IntKind.i64.wrap (E + 1) = E + 1 := (i64_w _).trans h1.out; have hq2 : wrap64 (E + 1) = E + 1 := h1.out
  have k_s := Ks.out.drew
  have k_p := Kp.out.drew
  have k_x := Kx.out.drew
  have k_a := Ka.out.drew
  have h_ := below_drew HB.out
  refine start_ (n := 45) (S := fun w' => w'.cell? ⟨w1.heap.size, 0, none⟩ = some (.int .i64 E) ∧ w'.cell? ⟨w1.heap.size, 1, none⟩ = some (.int .i64 0) ∧ w'.cell? ⟨w1.heap.size, 2, none⟩ = some (.int .i64 E) ∧ w'.cell? ⟨w2.heap.size, 0, none⟩ = some (.int .i64 E) ∧ w'.cell? ⟨w2.heap.size, 1, none⟩ = some (.int .i64 0) ∧ w'.cell? ⟨w2.heap.size, 2, none⟩ = some (.int .i64 (E + 1)) ∧ w'.cell? ⟨w3.heap.size, 0, none⟩ = some (.int .i64 0) ∧ w'.cell? ⟨w3.heap.size, 1, none⟩ = some (.int .i64 0) ∧ w'.cell? ⟨w3.heap.size, 2, none⟩ = some (.int .i64 0) ∧ w'.cell? ⟨w8.heap.size, 0, none⟩ = some (.int .i64 (E + 1)) ∧ w'.cell? ⟨w8.heap.size, 1, none⟩ = some (.int .i64 B) ∧ w'.cell? ⟨w8.heap.size, 2, none⟩ = some (.int .i64 (E + 1))) (ds := []) #[false, false, false, false, false, false, false, false, false, false, false, false, false, false, false, false, false, false, false, false, false, false, false, false, false, false, false, false, false, false, false, false, false, false, false, false, false, false, false, false, false, false, false, false, false] (by kernel_rfl) rfl rfl ⟨k_s.cell 0 rfl, k_s.cell 1 rfl, k_s.cell 2 rfl, k_p.cell 0 rfl, k_p.cell 1 rfl, k_p.cell 2 rfl, k_x.cell 0 rfl, k_x.cell 1 rfl, k_x.cell 2 rfl, k_a.cell 0 rfl, k_a.cell 1 rfl, k_a.cell 2 rfl⟩ (fun hHeld => ?_); refine with_tabW prom13tab prom13bits (fun HT_ HW_ => ?_)
  clear HB Ks Kp Kx Ka
  generalize w9.drew = w10 at k_s k_p k_x k_a h_ hHeld ⊢
  have HB := Asd.mk h_; clear h_; have Ks := Asd.mk k_s; clear k_s; have Kp := Asd.mk k_p; clear k_p; have Kx := Asd.mk k_x; clear k_x; have Ka := Asd.mk k_a; clear k_a
  clear Ls Lp Lx La cs0 fs0 cs1 fs1 cs2 fs2 cp0 fp0 cp1 fp1 cp2 fp2 cx0 fx0 cx1 fx1 cx2 fx2 ca0 fa0 ca1 fa1 ca2 fa2
  refine pure_ (i := 2) (N := some 80) (v := ?_) (a' := ?_) #[false, false, true, false, false, false, false, false, false, false, false, false, false, false, false, false, false, false, false, false, false, false, false, false, false, false, false, false, false, false, false, false, false, false, false, false, false, false, false, false, false, false, false, false, false] rfl rfl (any_of HT_.out (by kernel_rfl)) (fun _ _ _ h => h) (Or.inl ⟨by rfl, ?_⟩) ?_ ?_
  rotate_left
  · intro w'
    go_simp
    with_reducible rfl
  rotate_left
  · simp only [Act.put, List.setIfInBounds_toArray, List.set_cons_zero, List.set_cons_succ, i64_w, i32_w]
    rfl
  refine take_ (i := 0) (N := some 78) (v := ?_) (a' := ?_) #[true, false, true, false, false, false, false, false, false, false, false, false, false, false, false, false, false, false, false, false, false, false, false, false, false, false, false, false, false, false, false, false, false, false, false, false, false, false, false, false, false, false, false, false, false] rfl rfl (take_ofW HT_.out HW_.out (by kernel_rfl)) (fun _ _ _ h => h) (Or.inl ⟨by rfl, ?_⟩) hHeld ?_ ?_
  rotate_left
  · rintro w' ⟨s0, s1, s2, s3, s4, s5, s6, s7, s8, s9, s10, s11⟩
    go_simp
    with_reducible rfl
  rotate_left
  · simp only [Act.put, List.setIfInBounds_toArray, List.set_cons_zero, List.set_cons_succ, i64_w, i32_w]
    rfl
  refine take_ (i := 1) (N := some 79) (v := ?_) (a' := ?_) #[true, true, true, false, false, false, false, false, false, false, false, false, false, false, false, false, false, false, false, false, false, false, false, false, false, false, false, false, false, false, false, false, false, false, false, false, false, false, false, false, false, false, false, false, false] rfl rfl (take_ofW HT_.out HW_.out (by kernel_rfl)) (fun _ _ _ h => h) (Or.inl ⟨by rfl, ?_⟩) hHeld ?_ ?_
  rotate_left
  · rintro w' ⟨s0, s1, s2, s3, s4, s5, s6, s7, s8, s9, s10, s11⟩
    go_simp
    with_reducible rfl
  rotate_left
  · simp only [Act.put, List.setIfInBounds_toArray, List.set_cons_zero, List.set_cons_succ, i64_w, i32_w]
    rfl
  refine one_ (i := 3) (N := some 81) #[true, true, true, true, false, false, false, false, false, false, false, false, false, false, false, false, false, false, false, false, false, false, false, false, false, false, false, false, false, false, false, false, false, false, false, false, false, false, false, false, false, false, false, false, false] rfl rfl (one_of HT_.out (by kernel_rfl)) (by decide) (fun K hK => ?_)
  refine goes_ Try.func21 (by kernel_rfl) rfl #[.agg #[.int .i64 E, .int .i64 0, .int .i64 E], .int .i64 B] (by rfl) rfl rfl (by (try simp only [List.map_toArray, List.map_cons, List.map_nil]); first | done | rfl | (simp only [List.length_drop, List.length_take]; rfl)) ?_
  with_reducible refine (adopt_at (e := E) (b := 0) (p := E) (n := B) (r := E + 1) h1.out _).mono ?_
  rintro en w11 ⟨rfl, hb11⟩
  refine ⟨_, rfl, ?_⟩
  have k_s := Ks.out.below hb11
  have k_p := Kp.out.below hb11
  have k_x := Kx.out.below hb11
  have k_a := Ka.out.below hb11
  have h_ := below_step HB.out hb11
  clear HB hb11 Ks Kp Kx Ka; have HB := Asd.mk h_; clear h_; have Ks := Asd.mk k_s; clear k_s; have Kp := Asd.mk k_p; clear k_p; have Kx := Asd.mk k_x; clear k_x; have Ka := Asd.mk k_a; clear k_a
  refine hK.out _ _ ⟨Ks.out.cell 0 rfl, Ks.out.cell 1 rfl, Ks.out.cell 2 rfl, Kp.out.cell 0 rfl, Kp.out.cell 1 rfl, Kp.out.cell 2 rfl, Kx.out.cell 0 rfl, Kx.out.cell 1 rfl, Kx.out.cell 2 rfl, Ka.out.cell 0 rfl, Ka.out.cell 1 rfl, Ka.out.cell 2 rfl⟩ (fun hHeld => ?_)
  clear hK K
  refine norm_ (a' := ?_) ?_ ?_
  rotate_left
  · show Act.put _ (some 81) _ = _
    simp only [Act.put, List.setIfInBounds_toArray, List.set_cons_zero, List.set_cons_succ, i64_w, i32_w]
    rfl
  refine pure_ (i := 4) (N := some 82) (v := ?_) (a' := ?_) #[true, true, true, true, true, false, false, false, false, false, false, false, false, false, false, false, false, false, false, false, false, false, false, false, false, false, false, false, false, false, false, false, false, false, false, false, false, false, false, false, false, false, false, false, false] rfl rfl (any_of HT_.out (by kernel_rfl)) (fun _ _ _ h => h) (Or.inl ⟨by rfl, ?_⟩) ?_ ?_
  rotate_left
  · intro w'
    go_simp
    with_reducible rfl
  rotate_left
  · simp only [Act.put, List.setIfInBounds_toArray, List.set_cons_zero, List.set_cons_succ, i64_w, i32_w]
    rfl
  refine pure_ (i := 5) (N := some 83) (v := ?_) (a' := ?_) #[true, true, true, true, true, true, false, false, false, false, false, false, false, false, false, false, false, false, false, false, false, false, false, false, false, false, false, false, false, false, false, false, false, false, false, false, false, false, false, false, false, false, false, false, false] rfl rfl (any_of HT_.out (by kernel_rfl)) (fun _ _ _ h => h) (Or.inl ⟨by rfl, ?_⟩) ?_ ?_
  rotate_left
  · intro w'
    go_simp
    with_reducible rfl
  rotate_left
  · simp only [Act.put, List.setIfInBounds_toArray, List.set_cons_zero, List.set_cons_succ, i64_w, i32_w]
    rfl
  refine pure_ (i := 6) (N := some 84) (v := ?_) (a' := ?_) #[true, true, true, true, true, true, true, false, false, false, false, false, false, false, false, false, false, false, false, false, false, false, false, false, false, false, false, false, false, false, false, false, false, false, false, false, false, false, false, false, false, false, false, false, false] rfl rfl (any_of HT_.out (by kernel_rfl)) (fun _ _ _ h => h) (Or.inl ⟨by rfl, ?_⟩) ?_ ?_
  rotate_left
  · intro w'
    go_simp
    with_reducible rfl
  rotate_left
  · simp only [Act.put, List.setIfInBounds_toArray, List.set_cons_zero, List.set_cons_succ, i64_w, i32_w]
    rfl
  refine pure_ (i := 8) (N := some 86) (v := ?_) (a' := ?_) #[true, true, true, true, true, true, true, false, true, false, false, false, false, false, false, false, false, false, false, false, false, false, false, false, false, false, false, false, false, false, false, false, false, false, false, false, false, false, false, false, false, false, false, false, false] rfl rfl (any_of HT_.out (by kernel_rfl)) (fun _ _ _ h => h) (Or.inl ⟨by rfl, ?_⟩) ?_ ?_
  rotate_left
  · intro w'
    go_simp
    with_reducible rfl
  rotate_left
  · simp only [Act.put, List.setIfInBounds_toArray, List.set_cons_zero, List.set_cons_succ, i64_w, i32_w]
    rfl
  refine pure_ (i := 9) (N := some 87) (v := ?_) (a' := ?_) #[true, true, true, true, true, true, true, false, true, true, false, false, false, false, false, false, false, false, false, false, false, false, false, false, false, false, false, false, false, false, false, false, false, false, false, false, false, false, false, false, false, false, false, false, false] rfl rfl (any_of HT_.out (by kernel_rfl)) (fun _ _ _ h => h) (Or.inl ⟨by rfl, ?_⟩) ?_ ?_
  rotate_left
  · intro w'
    go_simp
    with_reducible rfl
  rotate_left
  · simp only [Act.put, List.setIfInBounds_toArray, List.set_cons_zero, List.set_cons_succ, i64_w, i32_w]
    rfl
  refine take_ (i := 7) (N := some 85) (v := ?_) (a' := ?_) #[true, true, true, true, true, true, true, true, true, true, false, false, false, false, false, false, false, false, false, false, false, false, false, false, false, false, false, false, false, false, false, false, false, false, false, false, false, false, false, false, false, false, false, false, false] rfl rfl (take_ofW HT_.out HW_.out (by kernel_rfl)) (fun _ _ _ h => h) (Or.inl ⟨by rfl, ?_⟩) hHeld ?_ ?_
  rotate_left
  · rintro w' ⟨s0, s1, s2, s3, s4, s5, s6, s7, s8, s9, s10, s11⟩
    go_simp
    with_reducible rfl
  rotate_left
  · simp only [Act.put, List.setIfInBounds_toArray, List.set_cons_zero, List.set_cons_succ, i64_w, i32_w]
    rfl
  refine pure_ (i := 10) (N := some 88) (v := ?_) (a' := ?_) #[true, true, true, true, true, true, true, true, true, true, true, false, false, false, false, false, false, false, false, false, false, false, false, false, false, false, false, false, false, false, false, false, false, false, false, false, false, false, false, false, false, false, false, false, false] rfl rfl (any_of HT_.out (by kernel_rfl)) (fun _ _ _ h => h) (Or.inl ⟨by rfl, ?_⟩) ?_ ?_
  rotate_left
  · intro w'
    go_simp
    with_reducible rfl
  rotate_left
  · simp only [Act.put, List.setIfInBounds_toArray, List.set_cons_zero, List.set_cons_succ, i64_w, i32_w]
    rfl
  refine pure_ (i := 11) (N := some 89) (v := ?_) (a' := ?_) #[true, true, true, true, true, true, true, true, true, true, true, true, false, false, false, false, false, false, false, false, false, false, false, false, false, false, false, false, false, false, false, false, false, false, false, false, false, false, false, false, false, false, false, false, false] rfl rfl (any_of HT_.out (by kernel_rfl)) (fun _ _ _ h => h) (Or.inl ⟨by rfl, ?_⟩) ?_ ?_
  rotate_left
  · intro w'
    go_simp
    with_reducible rfl
  rotate_left
  · simp only [Act.put, List.setIfInBounds_toArray, List.set_cons_zero, List.set_cons_succ, i64_w, i32_w]
    rfl
  refine pure_ (i := 12) (N := some 90) (v := ?_) (a' := ?_) #[true, true, true, true, true, true, true, true, true, true, true, true, true, false, false, false, false, false, false, false, false, false, false, false, false, false, false, false, false, false, false, false, false, false, false, false, false, false, false, false, false, false, false, false, false] rfl rfl (any_of HT_.out (by kernel_rfl)) (fun _ _ _ h => h) (Or.inl ⟨by rfl, ?_⟩) ?_ ?_
  rotate_left
  · intro w'
    go_simp
    with_reducible rfl
  rotate_left
  · simp only [Act.put, List.setIfInBounds_toArray, List.set_cons_zero, List.set_cons_succ, i64_w, i32_w]
    rfl
  refine pure_ (i := 13) (N := some 91) (v := ?_) (a' := ?_) #[true, true, true, true, true, true, true, true, true, true, true, true, true, true, false, false, false, false, false, false, false, false, false, false, false, false, false, false, false, false, false, false, false, false, false, false, false, false, false, false, false, false, false, false, false] rfl rfl (any_of HT_.out (by kernel_rfl)) (fun _ _ _ h => h) (Or.inl ⟨by rfl, ?_⟩) ?_ ?_
  rotate_left
  · intro w'
    go_simp
    with_reducible rfl
  rotate_left
  · simp only [Act.put, List.setIfInBounds_toArray, List.set_cons_zero, List.set_cons_succ, i64_w, i32_w]
    rfl
  refine pure_ (i := 15) (N := some 93) (v := ?_) (a' := ?_) #[true, true, true, true, true, true, true, true, true, true, true, true, true, true, false, true, false, false, false, false, false, false, false, false, false, false, false, false, false, false, false, false, false, false, false, false, false, false, false, false, false, false, false, false, false] rfl rfl (any_of HT_.out (by kernel_rfl)) (fun _ _ _ h => h) (Or.inl ⟨by rfl, ?_⟩) ?_ ?_
  rotate_left
  · intro w'
    go_simp
    with_reducible rfl
  rotate_left
  · simp only [Act.put, List.setIfInBounds_toArray, List.set_cons_zero, List.set_cons_succ, i64_w, i32_w]
    rfl
  refine take_ (i := 14) (N := some 92) (v := ?_) (a' := ?_) #[true, true, true, true, true, true, true, true, true, true, true, true, true, true, true, true, false, false, false, false, false, false, false, false, false, false, false, false, false, false, false, false, false, false, false, false, false, false, false, false, false, false, false, false, false] rfl rfl (take_ofW HT_.out HW_.out (by kernel_rfl)) (fun _ _ _ h => h) (Or.inl ⟨by rfl, ?_⟩) hHeld ?_ ?_
  rotate_left
  · rintro w' ⟨s0, s1, s2, s3, s4, s5, s6, s7, s8, s9, s10, s11⟩
    go_simp
    with_reducible rfl
  rotate_left
  · simp only [Act.put, List.setIfInBounds_toArray, List.set_cons_zero, List.set_cons_succ, i64_w, i32_w]
    rfl
  refine pure_ (i := 16) (N := some 94) (v := ?_) (a' := ?_) #[true, true, true, true, true, true, true, true, true, true, true, true, true, true, true, true, true, false, false, false, false, false, false, false, false, false, false, false, false, false, false, false, false, false, false, false, false, false, false, false, false, false, false, false, false] rfl rfl (any_of HT_.out (by kernel_rfl)) (fun _ _ _ h => h) (Or.inl ⟨by rfl, ?_⟩) ?_ ?_
  rotate_left
  · intro w'
    go_simp
    with_reducible rfl
  rotate_left
  · simp only [Act.put, List.setIfInBounds_toArray, List.set_cons_zero, List.set_cons_succ, i64_w, i32_w]
    rfl
  refine pure_ (i := 17) (N := some 95) (v := ?_) (a' := ?_) #[true, true, true, true, true, true, true, true, true, true, true, true, true, true, true, true, true, true, false, false, false, false, false, false, false, false, false, false, false, false, false, false, false, false, false, false, false, false, false, false, false, false, false, false, false] rfl rfl (any_of HT_.out (by kernel_rfl)) (fun _ _ _ h => h) (Or.inl ⟨by rfl, ?_⟩) ?_ ?_
  rotate_left
  · intro w'
    go_simp
    with_reducible rfl
  rotate_left
  · simp only [Act.put, List.setIfInBounds_toArray, List.set_cons_zero, List.set_cons_succ, i64_w, i32_w]
    rfl
  refine pure_ (i := 18) (N := some 96) (v := ?_) (a' := ?_) #[true, true, true, true, true, true, true, true, true, true, true, true, true, true, true, true, true, true, true, false, false, false, false, false, false, false, false, false, false, false, false, false, false, false, false, false, false, false, false, false, false, false, false, false, false] rfl rfl (any_of HT_.out (by kernel_rfl)) (fun _ _ _ h => h) (Or.inl ⟨by rfl, ?_⟩) ?_ ?_
  rotate_left
  · intro w'
    go_simp
    with_reducible rfl
  rotate_left
  · simp only [Act.put, List.setIfInBounds_toArray, List.set_cons_zero, List.set_cons_succ, i64_w, i32_w]
    rfl
  refine pure_ (i := 19) (N := some 97) (v := ?_) (a' := ?_) #[true, true, true, true, true, true, true, true, true, true, true, true, true, true, true, true, true, true, true, true, false, false, false, false, false, false, false, false, false, false, false, false, false, false, false, false, false, false, false, false, false, false, false, false, false] rfl rfl (any_of HT_.out (by kernel_rfl)) (fun _ _ _ h => h) (Or.inl ⟨by rfl, ?_⟩) ?_ ?_
  rotate_left
  · intro w'
    go_simp
    with_reducible rfl
  rotate_left
  · simp only [Act.put, List.setIfInBounds_toArray, List.set_cons_zero, List.set_cons_succ, i64_w, i32_w]
    rfl
  refine pure_ (i := 21) (N := some 99) (v := ?_) (a' := ?_) #[true, true, true, true, true, true, true, true, true, true, true, true, true, true, true, true, true, true, true, true, false, true, false, false, false, false, false, false, false, false, false, false, false, false, false, false, false, false, false, false, false, false, false, false, false] rfl rfl (any_of HT_.out (by kernel_rfl)) (fun _ _ _ h => h) (Or.inl ⟨by rfl, ?_⟩) ?_ ?_
  rotate_left
  · intro w'
    go_simp
    with_reducible rfl
  rotate_left
  · simp only [Act.put, List.setIfInBounds_toArray, List.set_cons_zero, List.set_cons_succ, i64_w, i32_w]
    rfl
  refine pure_ (i := 22) (N := some 100) (v := ?_) (a' := ?_) #[true, true, true, true, true, true, true, true, true, true, true, true, true, true, true, true, true, true, true, true, false, true, true, false, false, false, false, false, false, false, false, false, false, false, false, false, false, false, false, false, false, false, false, false, false] rfl rfl (any_of HT_.out (by kernel_rfl)) (fun _ _ _ h => h) (Or.inl ⟨by rfl, ?_⟩) ?_ ?_
  rotate_left
  · intro w'
    go_simp
    with_reducible rfl
  rotate_left
  · simp only [Act.put, List.setIfInBounds_toArray, List.set_cons_zero, List.set_cons_succ, i64_w, i32_w]
    rfl
  refine take_ (i := 20) (N := some 98) (v := ?_) (a' := ?_) #[true, true, true, true, true, true, true, true, true, true, true, true, true, true, true, true, true, true, true, true, true, true, true, false, false, false, false, false, false, false, false, false, false, false, false, false, false, false, false, false, false, false, false, false, false] rfl rfl (take_ofW HT_.out HW_.out (by kernel_rfl)) (fun _ _ _ h => h) (Or.inl ⟨by rfl, ?_⟩) hHeld ?_ ?_
  rotate_left
  · rintro w' ⟨s0, s1, s2, s3, s4, s5, s6, s7, s8, s9, s10, s11⟩
    go_simp
    with_reducible rfl
  rotate_left
  · simp only [Act.put, List.setIfInBounds_toArray, List.set_cons_zero, List.set_cons_succ, i64_w, i32_w]
    rfl
  refine pure_ (i := 23) (N := some 101) (v := ?_) (a' := ?_) #[true, true, true, true, true, true, true, true, true, true, true, true, true, true, true, true, true, true, true, true, true, true, true, true, false, false, false, false, false, false, false, false, false, false, false, false, false, false, false, false, false, false, false, false, false] rfl rfl (any_of HT_.out (by kernel_rfl)) (fun _ _ _ h => h) (Or.inl ⟨by rfl, ?_⟩) ?_ ?_
  rotate_left
  · intro w'
    go_simp
    with_reducible rfl
  rotate_left
  · simp only [Act.put, List.setIfInBounds_toArray, List.set_cons_zero, List.set_cons_succ, i64_w, i32_w]
    rfl
  refine pure_ (i := 24) (N := some 102) (v := ?_) (a' := ?_) #[true, true, true, true, true, true, true, true, true, true, true, true, true, true, true, true, true, true, true, true, true, true, true, true, true, false, false, false, false, false, false, false, false, false, false, false, false, false, false, false, false, false, false, false, false] rfl rfl (any_of HT_.out (by kernel_rfl)) (fun _ _ _ h => h) (Or.inl ⟨by rfl, ?_⟩) ?_ ?_
  rotate_left
  · intro w'
    go_simp
    with_reducible rfl
  rotate_left
  · simp only [Act.put, List.setIfInBounds_toArray, List.set_cons_zero, List.set_cons_succ, i64_w, i32_w]
    rfl
  refine pure_ (i := 25) (N := some 103) (v := ?_) (a' := ?_) #[true, true, true, true, true, true, true, true, true, true, true, true, true, true, true, true, true, true, true, true, true, true, true, true, true, true, false, false, false, false, false, false, false, false, false, false, false, false, false, false, false, false, false, false, false] rfl rfl (any_of HT_.out (by kernel_rfl)) (fun _ _ _ h => h) (Or.inl ⟨by rfl, ?_⟩) ?_ ?_
  rotate_left
  · intro w'
    go_simp
    with_reducible rfl
  rotate_left
  · simp only [Act.put, List.setIfInBounds_toArray, List.set_cons_zero, List.set_cons_succ, i64_w, i32_w]
    rfl
  refine pure_ (i := 27) (N := some 105) (v := ?_) (a' := ?_) #[true, true, true, true, true, true, true, true, true, true, true, true, true, true, true, true, true, true, true, true, true, true, true, true, true, true, false, true, false, false, false, false, false, false, false, false, false, false, false, false, false, false, false, false, false] rfl rfl (any_of HT_.out (by kernel_rfl)) (fun _ _ _ h => h) (Or.inl ⟨by rfl, ?_⟩) ?_ ?_
  rotate_left
  · intro w'
    go_simp
    with_reducible rfl
  rotate_left
  · simp only [Act.put, List.setIfInBounds_toArray, List.set_cons_zero, List.set_cons_succ, i64_w, i32_w]
    rfl
  refine pure_ (i := 28) (N := some 106) (v := ?_) (a' := ?_) #[true, true, true, true, true, true, true, true, true, true, true, true, true, true, true, true, true, true, true, true, true, true, true, true, true, true, false, true, true, false, false, false, false, false, false, false, false, false, false, false, false, false, false, false, false] rfl rfl (any_of HT_.out (by kernel_rfl)) (fun _ _ _ h => h) (Or.inl ⟨by rfl, ?_⟩) ?_ ?_
  rotate_left
  · intro w'
    go_simp
    with_reducible rfl
  rotate_left
  · simp only [Act.put, List.setIfInBounds_toArray, List.set_cons_zero, List.set_cons_succ, i64_w, i32_w]
    rfl
  refine pure_ (i := 29) (N := some 107) (v := ?_) (a' := ?_) #[true, true, true, true, true, true, true, true, true, true, true, true, true, true, true, true, true, true, true, true, true, true, true, true, true, true, false, true, true, true, false, false, false, false, false, false, false, false, false, false, false, false, false, false, false] rfl rfl (any_of HT_.out (by kernel_rfl)) (fun _ _ _ h => h) (Or.inl ⟨by rfl, ?_⟩) ?_ ?_
  rotate_left
  · intro w'
    go_simp
    with_reducible rfl
  rotate_left
  · simp only [Act.put, List.setIfInBounds_toArray, List.set_cons_zero, List.set_cons_succ, i64_w, i32_w]
    rfl
  refine take_ (i := 26) (N := some 104) (v := ?_) (a' := ?_) #[true, true, true, true, true, true, true, true, true, true, true, true, true, true, true, true, true, true, true, true, true, true, true, true, true, true, true, true, true, true, false, false, false, false, false, false, false, false, false, false, false, false, false, false, false] rfl rfl (take_ofW HT_.out HW_.out (by kernel_rfl)) (fun _ _ _ h => h) (Or.inl ⟨by rfl, ?_⟩) hHeld ?_ ?_
  rotate_left
  · rintro w' ⟨s0, s1, s2, s3, s4, s5, s6, s7, s8, s9, s10, s11⟩
    go_simp
    with_reducible rfl
  rotate_left
  · simp only [Act.put, List.setIfInBounds_toArray, List.set_cons_zero, List.set_cons_succ, i64_w, i32_w]
    rfl
  refine one_ (i := 30) (N := some 108) #[true, true, true, true, true, true, true, true, true, true, true, true, true, true, true, true, true, true, true, true, true, true, true, true, true, true, true, true, true, true, true, false, false, false, false, false, false, false, false, false, false, false, false, false, false] rfl rfl (one_of HT_.out (by kernel_rfl)) (by decide) (fun K hK => ?_)
  refine goes_ Try.func16 (by kernel_rfl) rfl #[.agg #[.int .i64 (E + 1), .int .i64 B, .int .i64 (E + 1)], .int .i64 D, .int .i64 (E + 1), .bool false] (by rfl) rfl rfl (by (try simp only [List.map_toArray, List.map_cons, List.map_nil]); first | done | rfl | (simp only [List.length_drop, List.length_take]; rfl)) ?_
  with_reducible refine (judge_at (e := E + 1) (b := B) (p := E + 1) (n := D) (x := E + 1) (t := false) (r := 1) h9.out _).mono ?_
  rintro en w12 ⟨rfl, hb12⟩
  refine ⟨_, rfl, ?_⟩
  have k_s := Ks.out.below hb12
  have k_p := Kp.out.below hb12
  have k_x := Kx.out.below hb12
  have k_a := Ka.out.below hb12
  have h_ := below_step HB.out hb12
  clear HB hb12 Ks Kp Kx Ka; have HB := Asd.mk h_; clear h_; have Ks := Asd.mk k_s; clear k_s; have Kp := Asd.mk k_p; clear k_p; have Kx := Asd.mk k_x; clear k_x; have Ka := Asd.mk k_a; clear k_a
  refine hK.out _ _ ⟨Ks.out.cell 0 rfl, Ks.out.cell 1 rfl, Ks.out.cell 2 rfl, Kp.out.cell 0 rfl, Kp.out.cell 1 rfl, Kp.out.cell 2 rfl, Kx.out.cell 0 rfl, Kx.out.cell 1 rfl, Kx.out.cell 2 rfl, Ka.out.cell 0 rfl, Ka.out.cell 1 rfl, Ka.out.cell 2 rfl⟩ (fun hHeld => ?_)
  clear hK K
  refine norm_ (a' := ?_) ?_ ?_
  rotate_left
  · show Act.put _ (some 108) _ = _
    simp only [Act.put, List.setIfInBounds_toArray, List.set_cons_zero, List.set_cons_succ, i64_w, i32_w]
    rfl
  refine pure_ (i := 31) (N := some 109) (v := ?_) (a' := ?_) #[true, true, true, true, true, true, true, true, true, true, true, true, true, true, true, true, true, true, true, true, true, true, true, true, true, true, true, true, true, true, true, true, false, false, false, false, false, false, false, false, false, false, false, false, false] rfl rfl (any_of HT_.out (by kernel_rfl)) (fun _ _ _ h => h) (Or.inl ⟨by rfl, ?_⟩) ?_ ?_
  rotate_left
  · intro w'
    go_simp
    with_reducible rfl
  rotate_left
  · simp only [Act.put, List.setIfInBounds_toArray, List.set_cons_zero, List.set_cons_succ, i64_w, i32_w]
    rfl
  refine pure_ (i := 32) (N := some 110) (v := ?_) (a' := ?_) #[true, true, true, true, true, true, true, true, true, true, true, true, true, true, true, true, true, true, true, true, true, true, true, true, true, true, true, true, true, true, true, true, true, false, false, false, false, false, false, false, false, false, false, false, false] rfl rfl (any_of HT_.out (by kernel_rfl)) (fun _ _ _ h => h) (Or.inl ⟨by rfl, ?_⟩) ?_ ?_
  rotate_left
  · intro w'
    go_simp
    with_reducible rfl
  rotate_left
  · simp only [Act.put, List.setIfInBounds_toArray, List.set_cons_zero, List.set_cons_succ, i64_w, i32_w]
    rfl
  refine pure_ (i := 33) (N := some 111) (v := ?_) (a' := ?_) #[true, true, true, true, true, true, true, true, true, true, true, true, true, true, true, true, true, true, true, true, true, true, true, true, true, true, true, true, true, true, true, true, true, true, false, false, false, false, false, false, false, false, false, false, false] rfl rfl (any_of HT_.out (by kernel_rfl)) (fun _ _ _ h => h) (Or.inl ⟨by rfl, ?_⟩) ?_ ?_
  rotate_left
  · intro w'
    go_simp
    with_reducible rfl
  rotate_left
  · simp only [Act.put, List.setIfInBounds_toArray, List.set_cons_zero, List.set_cons_succ, i64_w, i32_w]
    rfl
  refine pure_ (i := 35) (N := some 113) (v := ?_) (a' := ?_) #[true, true, true, true, true, true, true, true, true, true, true, true, true, true, true, true, true, true, true, true, true, true, true, true, true, true, true, true, true, true, true, true, true, true, false, true, false, false, false, false, false, false, false, false, false] rfl rfl (any_of HT_.out (by kernel_rfl)) (fun _ _ _ h => h) (Or.inl ⟨by rfl, ?_⟩) ?_ ?_
  rotate_left
  · intro w'
    go_simp
    with_reducible rfl
  rotate_left
  · simp only [Act.put, List.setIfInBounds_toArray, List.set_cons_zero, List.set_cons_succ, i64_w, i32_w]
    rfl
  refine pure_ (i := 37) (N := some 115) (v := ?_) (a' := ?_) #[true, true, true, true, true, true, true, true, true, true, true, true, true, true, true, true, true, true, true, true, true, true, true, true, true, true, true, true, true, true, true, true, true, true, false, true, false, true, false, false, false, false, false, false, false] rfl rfl (any_of HT_.out (by kernel_rfl)) (fun _ _ _ h => h) (Or.inl ⟨by rfl, ?_⟩) ?_ ?_
  rotate_left
  · intro w'
    go_simp
    with_reducible rfl
  rotate_left
  · simp only [Act.put, List.setIfInBounds_toArray, List.set_cons_zero, List.set_cons_succ, i64_w, i32_w]
    rfl
  refine pure_ (i := 38) (N := some 116) (v := ?_) (a' := ?_) #[true, true, true, true, true, true, true, true, true, true, true, true, true, true, true, true, true, true, true, true, true, true, true, true, true, true, true, true, true, true, true, true, true, true, false, true, false, true, true, false, false, false, false, false, false] rfl rfl (any_of HT_.out (by kernel_rfl)) (fun _ _ _ h => h) (Or.inl ⟨by rfl, ?_⟩) ?_ ?_
  rotate_left
  · intro w'
    go_simp
    with_reducible rfl
  rotate_left
  · simp only [Act.put, List.setIfInBounds_toArray, List.set_cons_zero, List.set_cons_succ, i64_w, i32_w]
    rfl
  refine pure_ (i := 40) (N := some 118) (v := ?_) (a' := ?_) #[true, true, true, true, true, true, true, true, true, true, true, true, true, true, true, true, true, true, true, true, true, true, true, true, true, true, true, true, true, true, true, true, true, true, false, true, false, true, true, false, true, false, false, false, false] rfl rfl (any_of HT_.out (by kernel_rfl)) (fun _ _ _ h => h) (Or.inl ⟨by rfl, ?_⟩) ?_ ?_
  rotate_left
  · intro w'
    go_simp
    with_reducible rfl
  rotate_left
  · simp only [Act.put, List.setIfInBounds_toArray, List.set_cons_zero, List.set_cons_succ, i64_w, i32_w]
    rfl
  refine take_ (i := 34) (N := some 112) (v := ?_) (a' := ?_) #[true, true, true, true, true, true, true, true, true, true, true, true, true, true, true, true, true, true, true, true, true, true, true, true, true, true, true, true, true, true, true, true, true, true, true, true, false, true, true, false, true, false, false, false, false] rfl rfl (take_ofW HT_.out HW_.out (by kernel_rfl)) (fun _ _ _ h => h) (Or.inl ⟨by rfl, ?_⟩) hHeld ?_ ?_
  rotate_left
  · rintro w' ⟨s0, s1, s2, s3, s4, s5, s6, s7, s8, s9, s10, s11⟩
    go_simp
    with_reducible rfl
  rotate_left
  · simp only [Act.put, List.setIfInBounds_toArray, List.set_cons_zero, List.set_cons_succ, i64_w, i32_w]
    rfl
  refine one_ (i := 36) (N := some 114) #[true, true, true, true, true, true, true, true, true, true, true, true, true, true, true, true, true, true, true, true, true, true, true, true, true, true, true, true, true, true, true, true, true, true, true, true, true, true, true, false, true, false, false, false, false] rfl rfl (one_of HT_.out (by kernel_rfl)) (by decide) (fun K hK => ?_)
  refine goes_ Try.func14 (by kernel_rfl) rfl #[.agg #[.int .i64 (E + 1), .int .i64 B, .int .i64 (E + 1)], .int .i64 D] (by rfl) rfl rfl (by (try simp only [List.map_toArray, List.map_cons, List.map_nil]); first | done | rfl | (simp only [List.length_drop, List.length_take]; rfl)) ?_
  with_reducible refine (writes_at (e := E + 1) (b := B) (p := E + 1) (n := D) (r := k) h10.out _).mono ?_
  rintro en w13 ⟨rfl, hb13⟩
  refine ⟨_, rfl, ?_⟩
  have k_s := Ks.out.below hb13
  have k_p := Kp.out.below hb13
  have k_x := Kx.out.below hb13
  have k_a := Ka.out.below hb13
  have h_ := below_step HB.out hb13
  clear HB hb13 Ks Kp Kx Ka; have HB := Asd.mk h_; clear h_; have Ks := Asd.mk k_s; clear k_s; have Kp := Asd.mk k_p; clear k_p; have Kx := Asd.mk k_x; clear k_x; have Ka := Asd.mk k_a; clear k_a
  refine hK.out _ _ ⟨Ks.out.cell 0 rfl, Ks.out.cell 1 rfl, Ks.out.cell 2 rfl, Kp.out.cell 0 rfl, Kp.out.cell 1 rfl, Kp.out.cell 2 rfl, Kx.out.cell 0 rfl, Kx.out.cell 1 rfl, Kx.out.cell 2 rfl, Ka.out.cell 0 rfl, Ka.out.cell 1 rfl, Ka.out.cell 2 rfl⟩ (fun hHeld => ?_)
  clear hK K
  refine norm_ (a' := ?_) ?_ ?_
  rotate_left
  · show Act.put _ (some 114) _ = _
    simp only [Act.put, List.setIfInBounds_toArray, List.set_cons_zero, List.set_cons_succ, i64_w, i32_w]
    rfl
  refine one_ (i := 39) (N := some 117) #[true, true, true, true, true, true, true, true, true, true, true, true, true, true, true, true, true, true, true, true, true, true, true, true, true, true, true, true, true, true, true, true, true, true, true, true, true, true, true, true, true, false, false, false, false] rfl rfl (one_of HT_.out (by kernel_rfl)) (by decide) (fun K hK => ?_)
  refine goes_ Try.func8 (by kernel_rfl) rfl #[.int .i64 (E + 1)] (by rfl) rfl rfl (by (try simp only [List.map_toArray, List.map_cons, List.map_nil]); first | done | rfl | (simp only [List.length_drop, List.length_take]; rfl)) ?_
  with_reducible refine (leader_any _ _).mono ?_
  rintro en w_ ⟨rfl, rfl⟩
  refine ⟨_, rfl, ?_⟩
  refine hK.out _ _ ⟨Ks.out.cell 0 rfl, Ks.out.cell 1 rfl, Ks.out.cell 2 rfl, Kp.out.cell 0 rfl, Kp.out.cell 1 rfl, Kp.out.cell 2 rfl, Kx.out.cell 0 rfl, Kx.out.cell 1 rfl, Kx.out.cell 2 rfl, Ka.out.cell 0 rfl, Ka.out.cell 1 rfl, Ka.out.cell 2 rfl⟩ (fun hHeld => ?_)
  clear hK K
  refine norm_ (a' := ?_) ?_ ?_
  rotate_left
  · show Act.put _ (some 117) _ = _
    simp only [Act.put, List.setIfInBounds_toArray, List.set_cons_zero, List.set_cons_succ, i64_w, i32_w]
    rfl
  refine pure_ (i := 41) (N := some 119) (v := ?_) (a' := ?_) #[true, true, true, true, true, true, true, true, true, true, true, true, true, true, true, true, true, true, true, true, true, true, true, true, true, true, true, true, true, true, true, true, true, true, true, true, true, true, true, true, true, true, false, false, false] rfl rfl (any_of HT_.out (by kernel_rfl)) (fun _ _ _ h => h) (Or.inl ⟨by rfl, ?_⟩) ?_ ?_
  rotate_left
  · intro w'
    go_simp
    with_reducible rfl
  rotate_left
  · simp only [Act.put, List.setIfInBounds_toArray, List.set_cons_zero, List.set_cons_succ, i64_w, i32_w]
    rfl
  refine pure_ (i := 42) (N := some 120) (v := ?_) (a' := ?_) #[true, true, true, true, true, true, true, true, true, true, true, true, true, true, true, true, true, true, true, true, true, true, true, true, true, true, true, true, true, true, true, true, true, true, true, true, true, true, true, true, true, true, true, false, false] rfl rfl (any_of HT_.out (by kernel_rfl)) (fun _ _ _ h => h) (Or.inl ⟨by rfl, ?_⟩) ?_ ?_
  rotate_left
  · intro w'
    go_simp
    with_reducible rfl
  rotate_left
  · simp only [Act.put, List.setIfInBounds_toArray, List.set_cons_zero, List.set_cons_succ, i64_w, i32_w]
    rfl
  refine pure_ (i := 43) (N := some 121) (v := ?_) (a' := ?_) #[true, true, true, true, true, true, true, true, true, true, true, true, true, true, true, true, true, true, true, true, true, true, true, true, true, true, true, true, true, true, true, true, true, true, true, true, true, true, true, true, true, true, true, true, false] rfl rfl (any_of HT_.out (by kernel_rfl)) (fun _ _ _ h => h) (Or.inl ⟨by rfl, ?_⟩) ?_ ?_
  rotate_left
  · intro w'
    go_simp
    with_reducible rfl
  rotate_left
  · simp only [Act.put, List.setIfInBounds_toArray, List.set_cons_zero, List.set_cons_succ, i64_w, i32_w]
    rfl
  refine pure_ (i := 44) (N := some 6) (v := ?_) (a' := ?_) #[true, true, true, true, true, true, true, true, true, true, true, true, true, true, true, true, true, true, true, true, true, true, true, true, true, true, true, true, true, true, true, true, true, true, true, true, true, true, true, true, true, true, true, true, true] rfl rfl (any_of HT_.out (by kernel_rfl)) (fun _ _ _ h => h) (Or.inl ⟨by rfl, ?_⟩) ?_ ?_
  rotate_left
  · intro w'
    go_simp
    with_reducible rfl
  rotate_left
  · simp only [Act.put, List.setIfInBounds_toArray, List.set_cons_zero, List.set_cons_succ, i64_w, i32_w]
    rfl
  refine done_ (done_of HT_.out (by kernel_rfl)) ?_
  have Z : w.heap.size ≤ w13.heap.size := HB.out.size
  have Ls := Ks.out.lt; have cs0 := Ks.out.cell 0 rfl; have fs0 := Ks.out.frozen 0; have cs1 := Ks.out.cell 1 rfl; have fs1 := Ks.out.frozen 1; have cs2 := Ks.out.cell 2 rfl; have fs2 := Ks.out.frozen 2
  have Lp := Kp.out.lt; have cp0 := Kp.out.cell 0 rfl; have fp0 := Kp.out.frozen 0; have cp1 := Kp.out.cell 1 rfl; have fp1 := Kp.out.frozen 1; have cp2 := Kp.out.cell 2 rfl; have fp2 := Kp.out.frozen 2
  have Lx := Kx.out.lt; have cx0 := Kx.out.cell 0 rfl; have fx0 := Kx.out.frozen 0; have cx1 := Kx.out.cell 1 rfl; have fx1 := Kx.out.frozen 1; have cx2 := Kx.out.cell 2 rfl; have fx2 := Kx.out.frozen 2
  have La := Ka.out.lt; have ca0 := Ka.out.cell 0 rfl; have fa0 := Ka.out.frozen 0; have ca1 := Ka.out.cell 1 rfl; have fa1 := Ka.out.frozen 1; have ca2 := Ka.out.cell 2 rfl; have fa2 := Ka.out.frozen 2
  go_wp2_with fail
  go_ret
  exact ⟨ret_bool (by simp [hq.out]), HB.out⟩

theorem judge_eq {e b p n x : Int} {t : Bool} (h : rightB e b p = true) (hn : withinB n 0 1 = true) : judgeI e b p n x t = if x < p then 3 else if x = e then 1 else if t = true ∧ x = wrap64 (e + 1) ∧ lead x ≠ n then 2 else 0 := by
  unfold judgeI; rw [if_pos ⟨h, hn⟩]
theorem promised_any (x y z : Int) (w : World) :
    Calls Try.prog 6 #[.int .i64 x, .int .i64 y, .int .i64 z] w fun en w' => en = .returned (.bool true) ∧ Below w.heap.size w w' := by
  obtain ⟨E, hE, b1, b2⟩ : ∃ E, wrap64 (1 + wrap64 ((IntKind.u64.wrap x).tmod 1000)) = E ∧ 1 ≤ E ∧ E ≤ 1000 := by
    refine ⟨_, rfl, ?_⟩; rw [wrap_u64, Int.tmod_eq_emod_of_nonneg (by omega)]; unfold wrap64; omega
  obtain ⟨B, hB, b3, b4⟩ : ∃ B, wrap64 ((IntKind.u64.wrap y).tmod 1000) = B ∧ 0 ≤ B ∧ B ≤ 999 := by
    refine ⟨_, rfl, ?_⟩; rw [wrap_u64, Int.tmod_eq_emod_of_nonneg (by omega)]; unfold wrap64; omega
  obtain ⟨D, hD, b5, b6⟩ : ∃ D, wrap64 ((IntKind.u64.wrap z).tmod 2) = D ∧ 0 ≤ D ∧ D ≤ 1 := by
    refine ⟨_, rfl, ?_⟩; rw [wrap_u64, Int.tmod_eq_emod_of_nonneg (by omega)]; unfold wrap64; omega
  have hw : wrap64 (E + 1) = E + 1 := by unfold wrap64; omega
  have R1 : rightB E 0 (E + 1) = true := (rightB_iff _ _ _).2 (by omega)
  have R2 : rightB (E + 1) B (E + 1) = true := (rightB_iff _ _ _).2 (by omega)
  have Nn : withinB D 0 1 = true := (withinB_iff _ _ _).2 (by omega)
  have L : 0 ≤ lead (E + 1) ∧ lead (E + 1) ≤ 1 := by unfold lead; omega
  have P : pOK E 0 (E + 1) D B = if lead E = D then 17 else 7 := by
    rw [pok_in R1 Nn (by omega)]; split
    · rfl
    · rw [if_pos (by omega)]
  have P0 : pOK E 0 (E + 1) D B ≠ 0 := by rw [P]; split <;> omega
  refine promised_core x y z E B D _ _ _ w hE hB hD b1 b2 b3 b4 b5 b6 ⟨hw⟩ ⟨by unfold pE; rw [if_neg P0]⟩ ⟨by unfold pB; rw [if_neg P0]⟩ ⟨rfl⟩ ⟨?_⟩ ⟨?_⟩ ⟨rfl⟩ ⟨?_⟩ ⟨?_⟩ ⟨?_⟩ ⟨rfl⟩ (beq_eq_false_iff_ne.2 P0) ?_
  · unfold writesB
    have : (E + 1 == E) = false := beq_eq_false_iff_ne.2 (by omega)
    rw [this]; simp
  · rw [judge_eq R1 Nn, if_pos (by omega)]
  · rw [judge_eq R1 Nn, if_neg (by omega), if_neg (by omega), if_neg (by simp)]
  · rw [judge_eq R2 Nn, if_neg (by omega), if_pos rfl]
  · unfold writesB; rw [R2, Nn]; simp
  · rw [judge_eq R1 Nn, if_neg (by omega), if_neg (by omega)]
    by_cases h : lead (E + 1) = D
    · rw [if_neg (by simp [h]), beq_iff_eq.2 h]; rfl
    · rw [if_pos ⟨rfl, hw.symm, h⟩, beq_eq_false_iff_ne.2 h]; rfl
end Go.Proofs.Ytlokgfoobjepdaa.Fx
