/- The law FenceLeads as a contract. -/
import Derived.Test.YtlokgfoobjepdaaFx5
namespace Go.Proofs.Ytlokgfoobjepdaa.Fx
open Go.RowKit
open Go.Proofs.Ytlokgfoobjepdaa.Xb (Asd Blk below_alloc below_drew below_drewN below_step below_set)
set_option linter.unusedSimpArgs false
theorem pok_bad {e b p n l : Int} (h : rightB e b p = false) : pOK e b p n l = 2 := pok_r (by simp [h])
theorem pok_lead {e b p n : Int} (h : rightB e b p = true) (hn : withinB n 0 1 = true) (hd : lead e = n) : pOK e b p n 0 = 17 := pok_17 h hn (by omega) (beq_iff_eq.2 hd)
theorem pok_other {e b p n : Int} (h : rightB e b p = true) (hn : withinB n 0 1 = true) (hd : lead e ≠ n) : pOK e b p n 0 ≠ 17 := by
  rw [pok_in h hn (by omega), if_neg hd]; split <;> omega
theorem right_ref_at {e b p : Int} {r : Bool} (h : rightB e b p = r) (w : World) :
    Calls Try.prog 11 #[.agg #[.int .i64 e, .int .i64 b, .int .i64 p]] w fun en w' => en = .returned (.bool r) ∧ Below w.heap.size w w' := h ▸ right_ref e b p w
set_option maxHeartbeats 1000000 in
theorem leads_no (e b p x x1 x2 y1 y2 : Int) (w : World) (HR : Asd (rightB e b p = false))
    (h1 : Asd (pE e b p 0 0 = x1)) (h2 : Asd (pB e b p 0 0 = x2)) (h0 : Asd (pOK e b p 0 0 = 2)) (g1 : Asd (pE e b p 1 0 = y1)) (g2 : Asd (pB e b p 1 0 = y2)) (g0 : Asd (pOK e b p 1 0 = 2))
    (hL : (lead (wrap64 ((IntKind.u64.wrap x).tmod 1152921504606846976)) == lead (wrap64 (wrap64 ((IntKind.u64.wrap x).tmod 1152921504606846976) + 1))) = false) :
    Calls Try.prog 3 #[.agg #[.int .i64 e, .int .i64 b, .int .i64 p], .int .i64 x] w fun en w' => en = .returned (.bool true) ∧ Below w.heap.size w w' := by
  go_enter Try.func3, Try.ntmps3
  have HB : Asd (Below w.heap.size w w) := ⟨Below.refl _ _⟩
  go_wp2_with fail
  refine (works_any _).mono ?_; rintro en w1 ⟨rfl, hb1⟩
  have k_s : Blk w1 (w.heap.size) #[.int .i64 e, .int .i64 b, .int .i64 p] 23 := (by first | exact (Blk.new _ _ _).below hb1 | exact ((Blk.new _ _ _).alloc _).below hb1 | exact (Blk.new1 _ _ _ _).below hb1)
  have h_ : Below w.heap.size w w1 := below_step (by repeat (first | exact HB.out | apply below_alloc | apply below_drewN | apply below_drew | refine below_set ?_ (by have := HB.out.size; omega))) hb1
  clear HB hb1; have HB := Asd.mk h_; clear h_; have Z : w.heap.size ≤ w1.heap.size := HB.out.size
  have Ks := Asd.mk k_s; have Ls := k_s.lt; have cs0 := k_s.cell 0 rfl; have fs0 := k_s.frozen 0; have cs1 := k_s.cell 1 rfl; have fs1 := k_s.frozen 1; have cs2 := k_s.cell 2 rfl; have fs2 := k_s.frozen 2; clear k_s
  go_wp2_with fail
  refine (leader_any _ _).mono ?_; rintro en w_ ⟨rfl, rfl⟩
  go_wp2_with fail
  refine (leader_any _ _).mono ?_; rintro en w_ ⟨rfl, rfl⟩
  go_wp2_with fail
  refine (to_any _ _ _ _).mono ?_; rintro en w2 ⟨he, hb2⟩; unfold Agg3 at he; subst he
  have k_s : Blk w2 (w.heap.size) #[.int .i64 e, .int .i64 b, .int .i64 p] 23 := (by first | exact Ks.out.below hb2 | exact (Ks.out.alloc _).below hb2 | exact ((Ks.out.alloc _).alloc _).below hb2)
  have h_ : Below w.heap.size w w2 := below_step (by repeat (first | exact HB.out | apply below_alloc | apply below_drewN | apply below_drew | refine below_set ?_ (by have := HB.out.size; omega))) hb2
  clear Ks Ls cs0 fs0 cs1 fs1 cs2 fs2
  clear HB hb2 Z; have HB := Asd.mk h_; clear h_; have Z : w.heap.size ≤ w2.heap.size := HB.out.size
  have Ks := Asd.mk k_s; have Ls := k_s.lt; have cs0 := k_s.cell 0 rfl; have fs0 := k_s.frozen 0; have cs1 := k_s.cell 1 rfl; have fs1 := k_s.frozen 1; have cs2 := k_s.cell 2 rfl; have fs2 := k_s.frozen 2; clear k_s
  go_wp2_with fail
  refine (promote_at (e := e) (b := b) (p := p) (n := 0) (l := 0) (r1 := x1) (r2 := x2) (r4 := 2) h1.out h2.out h0.out _).mono ?_; rintro en w3 ⟨rfl, hb3⟩
  have k_s : Blk w3 (w.heap.size) #[.int .i64 e, .int .i64 b, .int .i64 p] 23 := (by first | exact Ks.out.below hb3 | exact (Ks.out.alloc _).below hb3 | exact ((Ks.out.alloc _).alloc _).below hb3)
  have h_ : Below w.heap.size w w3 := below_step (by repeat (first | exact HB.out | apply below_alloc | apply below_drewN | apply below_drew | refine below_set ?_ (by have := HB.out.size; omega))) hb3
  clear Ks Ls cs0 fs0 cs1 fs1 cs2 fs2
  clear HB hb3 Z; have HB := Asd.mk h_; clear h_; have Z : w.heap.size ≤ w3.heap.size := HB.out.size
  have Ks := Asd.mk k_s; have Ls := k_s.lt; have cs0 := k_s.cell 0 rfl; have fs0 := k_s.frozen 0; have cs1 := k_s.cell 1 rfl; have fs1 := k_s.frozen 1; have cs2 := k_s.cell 2 rfl; have fs2 := k_s.frozen 2; clear k_s
  go_wp2_with fail
  refine (to_any _ _ _ _).mono ?_; rintro en w4 ⟨he, hb4⟩; unfold Agg3 at he; subst he
  have k_s : Blk w4 (w.heap.size) #[.int .i64 e, .int .i64 b, .int .i64 p] 23 := (by first | exact Ks.out.below hb4 | exact (Ks.out.alloc _).below hb4 | exact ((Ks.out.alloc _).alloc _).below hb4)
  have k_u : Blk w4 (w3.heap.size) #[.int .i64 x1, .int .i64 x2, .int .i64 x1] 27 := (by first | exact (Blk.new _ _ _).below hb4 | exact ((Blk.new _ _ _).alloc _).below hb4 | exact (Blk.new1 _ _ _ _).below hb4)
  have Dsu : w.heap.size < w3.heap.size := (by have := Ls; omega)
  have h_ : Below w.heap.size w w4 := below_step (by repeat (first | exact HB.out | apply below_alloc | apply below_drewN | apply below_drew | refine below_set ?_ (by have := HB.out.size; omega))) hb4
  clear Ks Ls cs0 fs0 cs1 fs1 cs2 fs2
  clear HB hb4 Z; have HB := Asd.mk h_; clear h_; have Z : w.heap.size ≤ w4.heap.size := HB.out.size
  have Ks := Asd.mk k_s; have Ls := k_s.lt; have cs0 := k_s.cell 0 rfl; have fs0 := k_s.frozen 0; have cs1 := k_s.cell 1 rfl; have fs1 := k_s.frozen 1; have cs2 := k_s.cell 2 rfl; have fs2 := k_s.frozen 2; clear k_s
  have Ku := Asd.mk k_u; have Lu := k_u.lt; have cu0 := k_u.cell 0 rfl; have fu0 := k_u.frozen 0; have cu1 := k_u.cell 1 rfl; have fu1 := k_u.frozen 1; have cu2 := k_u.cell 2 rfl; have fu2 := k_u.frozen 2; clear k_u
  go_wp2_with fail
  refine (promote_at (e := e) (b := b) (p := p) (n := 1) (l := 0) (r1 := y1) (r2 := y2) (r4 := 2) g1.out g2.out g0.out _).mono ?_; rintro en w5 ⟨rfl, hb5⟩
  have k_s : Blk w5 (w.heap.size) #[.int .i64 e, .int .i64 b, .int .i64 p] 23 := (by first | exact Ks.out.below hb5 | exact (Ks.out.alloc _).below hb5 | exact ((Ks.out.alloc _).alloc _).below hb5)
  have k_u : Blk w5 (w3.heap.size) #[.int .i64 x1, .int .i64 x2, .int .i64 x1] 27 := (by first | exact Ku.out.below hb5 | exact (Ku.out.alloc _).below hb5 | exact ((Ku.out.alloc _).alloc _).below hb5)
  have h_ : Below w.heap.size w w5 := below_step (by repeat (first | exact HB.out | apply below_alloc | apply below_drewN | apply below_drew | refine below_set ?_ (by have := HB.out.size; omega))) hb5
  clear Ks Ls cs0 fs0 cs1 fs1 cs2 fs2 Ku Lu cu0 fu0 cu1 fu1 cu2 fu2
  clear HB hb5 Z; have HB := Asd.mk h_; clear h_; have Z : w.heap.size ≤ w5.heap.size := HB.out.size
  have Ks := Asd.mk k_s; have Ls := k_s.lt; have cs0 := k_s.cell 0 rfl; have fs0 := k_s.frozen 0; have cs1 := k_s.cell 1 rfl; have fs1 := k_s.frozen 1; have cs2 := k_s.cell 2 rfl; have fs2 := k_s.frozen 2; clear k_s
  have Ku := Asd.mk k_u; have Lu := k_u.lt; have cu0 := k_u.cell 0 rfl; have fu0 := k_u.frozen 0; have cu1 := k_u.cell 1 rfl; have fu1 := k_u.frozen 1; have cu2 := k_u.cell 2 rfl; have fu2 := k_u.frozen 2; clear k_u
  go_wp2_with fail
  refine (right_ref_at HR.out _).mono ?_; rintro en w6 ⟨rfl, hb6⟩
  have k_s : Blk w6 (w.heap.size) #[.int .i64 e, .int .i64 b, .int .i64 p] 23 := (by first | exact Ks.out.below hb6 | exact (Ks.out.alloc _).below hb6 | exact ((Ks.out.alloc _).alloc _).below hb6)
  have k_u : Blk w6 (w3.heap.size) #[.int .i64 x1, .int .i64 x2, .int .i64 x1] 27 := (by first | exact Ku.out.below hb6 | exact (Ku.out.alloc _).below hb6 | exact ((Ku.out.alloc _).alloc _).below hb6)
  have k_v : Blk w6 (w5.heap.size) #[.int .i64 y1, .int .i64 y2, .int .i64 y1] 27 := (by first | exact (Blk.new _ _ _).below hb6 | exact ((Blk.new _ _ _).alloc _).below hb6 | exact (Blk.new1 _ _ _ _).below hb6)
  have Dsv : w.heap.size < w5.heap.size := (by have := Ls; omega)
  have Duv : w3.heap.size < w5.heap.size := (by have := Lu; omega)
  have h_ : Below w.heap.size w w6 := below_step (by repeat (first | exact HB.out | apply below_alloc | apply below_drewN | apply below_drew | refine below_set ?_ (by have := HB.out.size; omega))) hb6
  clear Ks Ls cs0 fs0 cs1 fs1 cs2 fs2 Ku Lu cu0 fu0 cu1 fu1 cu2 fu2
  clear HB hb6 Z; have HB := Asd.mk h_; clear h_; have Z : w.heap.size ≤ w6.heap.size := HB.out.size
  have Ks := Asd.mk k_s; have Ls := k_s.lt; have cs0 := k_s.cell 0 rfl; have fs0 := k_s.frozen 0; have cs1 := k_s.cell 1 rfl; have fs1 := k_s.frozen 1; have cs2 := k_s.cell 2 rfl; have fs2 := k_s.frozen 2; clear k_s
  have Ku := Asd.mk k_u; have Lu := k_u.lt; have cu0 := k_u.cell 0 rfl; have fu0 := k_u.frozen 0; have cu1 := k_u.cell 1 rfl; have fu1 := k_u.frozen 1; have cu2 := k_u.cell 2 rfl; have fu2 := k_u.frozen 2; clear k_u
  have Kv := Asd.mk k_v; have Lv := k_v.lt; have cv0 := k_v.cell 0 rfl; have fv0 := k_v.frozen 0; have cv1 := k_v.cell 1 rfl; have fv1 := k_v.frozen 1; have cv2 := k_v.cell 2 rfl; have fv2 := k_v.frozen 2; clear k_v
  go_wp2_with fail
  go_ret
  exact ⟨rfl, (by repeat (first | exact HB.out | exact Below.refl _ _ | apply below_alloc | apply below_drewN | apply below_drew | refine below_set ?_ (by omega)))⟩
set_option maxHeartbeats 1000000 in
theorem leads_yes (e b p x x1 x2 y1 y2 r0 r1 : Int) (w : World) (HR : Asd (rightB e b p = true))
    (h1 : Asd (pE e b p 0 0 = x1)) (h2 : Asd (pB e b p 0 0 = x2)) (h0 : Asd (pOK e b p 0 0 = r0)) (g1 : Asd (pE e b p 1 0 = y1)) (g2 : Asd (pB e b p 1 0 = y2)) (g0 : Asd (pOK e b p 1 0 = r1))
    (hf : Asd (((r0 == 17) != (r1 == 17)) = true)) (hL : (lead (wrap64 ((IntKind.u64.wrap x).tmod 1152921504606846976)) == lead (wrap64 (wrap64 ((IntKind.u64.wrap x).tmod 1152921504606846976) + 1))) = false) :
    Calls Try.prog 3 #[.agg #[.int .i64 e, .int .i64 b, .int .i64 p], .int .i64 x] w fun en w' => en = .returned (.bool true) ∧ Below w.heap.size w w' := by
  go_enter Try.func3, Try.ntmps3
  have HB : Asd (Below w.heap.size w w) := ⟨Below.refl _ _⟩
  go_wp2_with fail
  refine (works_any _).mono ?_; rintro en w1 ⟨rfl, hb1⟩
  have k_s : Blk w1 (w.heap.size) #[.int .i64 e, .int .i64 b, .int .i64 p] 23 := (by first | exact (Blk.new _ _ _).below hb1 | exact ((Blk.new _ _ _).alloc _).below hb1 | exact (Blk.new1 _ _ _ _).below hb1)
  have h_ : Below w.heap.size w w1 := below_step (by repeat (first | exact HB.out | apply below_alloc | apply below_drewN | apply below_drew | refine below_set ?_ (by have := HB.out.size; omega))) hb1
  clear HB hb1; have HB := Asd.mk h_; clear h_; have Z : w.heap.size ≤ w1.heap.size := HB.out.size
  have Ks := Asd.mk k_s; have Ls := k_s.lt; have cs0 := k_s.cell 0 rfl; have fs0 := k_s.frozen 0; have cs1 := k_s.cell 1 rfl; have fs1 := k_s.frozen 1; have cs2 := k_s.cell 2 rfl; have fs2 := k_s.frozen 2; clear k_s
  go_wp2_with fail
  refine (leader_any _ _).mono ?_; rintro en w_ ⟨rfl, rfl⟩
  go_wp2_with fail
  refine (leader_any _ _).mono ?_; rintro en w_ ⟨rfl, rfl⟩
  go_wp2_with fail
  refine (to_any _ _ _ _).mono ?_; rintro en w2 ⟨he, hb2⟩; unfold Agg3 at he; subst he
  have k_s : Blk w2 (w.heap.size) #[.int .i64 e, .int .i64 b, .int .i64 p] 23 := (by first | exact Ks.out.below hb2 | exact (Ks.out.alloc _).below hb2 | exact ((Ks.out.alloc _).alloc _).below hb2)
  have h_ : Below w.heap.size w w2 := below_step (by repeat (first | exact HB.out | apply below_alloc | apply below_drewN | apply below_drew | refine below_set ?_ (by have := HB.out.size; omega))) hb2
  clear Ks Ls cs0 fs0 cs1 fs1 cs2 fs2
  clear HB hb2 Z; have HB := Asd.mk h_; clear h_; have Z : w.heap.size ≤ w2.heap.size := HB.out.size
  have Ks := Asd.mk k_s; have Ls := k_s.lt; have cs0 := k_s.cell 0 rfl; have fs0 := k_s.frozen 0; have cs1 := k_s.cell 1 rfl; have fs1 := k_s.frozen 1; have cs2 := k_s.cell 2 rfl; have fs2 := k_s.frozen 2; clear k_s
  go_wp2_with fail
  refine (promote_at (e := e) (b := b) (p := p) (n := 0) (l := 0) (r1 := x1) (r2 := x2) (r4 := r0) h1.out h2.out h0.out _).mono ?_; rintro en w3 ⟨rfl, hb3⟩
  have k_s : Blk w3 (w.heap.size) #[.int .i64 e, .int .i64 b, .int .i64 p] 23 := (by first | exact Ks.out.below hb3 | exact (Ks.out.alloc _).below hb3 | exact ((Ks.out.alloc _).alloc _).below hb3)
  have h_ : Below w.heap.size w w3 := below_step (by repeat (first | exact HB.out | apply below_alloc | apply below_drewN | apply below_drew | refine below_set ?_ (by have := HB.out.size; omega))) hb3
  clear Ks Ls cs0 fs0 cs1 fs1 cs2 fs2
  clear HB hb3 Z; have HB := Asd.mk h_; clear h_; have Z : w.heap.size ≤ w3.heap.size := HB.out.size
  have Ks := Asd.mk k_s; have Ls := k_s.lt; have cs0 := k_s.cell 0 rfl; have fs0 := k_s.frozen 0; have cs1 := k_s.cell 1 rfl; have fs1 := k_s.frozen 1; have cs2 := k_s.cell 2 rfl; have fs2 := k_s.frozen 2; clear k_s
  go_wp2_with fail
  refine (to_any _ _ _ _).mono ?_; rintro en w4 ⟨he, hb4⟩; unfold Agg3 at he; subst he
  have k_s : Blk w4 (w.heap.size) #[.int .i64 e, .int .i64 b, .int .i64 p] 23 := (by first | exact Ks.out.below hb4 | exact (Ks.out.alloc _).below hb4 | exact ((Ks.out.alloc _).alloc _).below hb4)
  have k_u : Blk w4 (w3.heap.size) #[.int .i64 x1, .int .i64 x2, .int .i64 x1] 27 := (by first | exact (Blk.new _ _ _).below hb4 | exact ((Blk.new _ _ _).alloc _).below hb4 | exact (Blk.new1 _ _ _ _).below hb4)
  have Dsu : w.heap.size < w3.heap.size := (by have := Ls; omega)
  have h_ : Below w.heap.size w w4 := below_step (by repeat (first | exact HB.out | apply below_alloc | apply below_drewN | apply below_drew | refine below_set ?_ (by have := HB.out.size; omega))) hb4
  clear Ks Ls cs0 fs0 cs1 fs1 cs2 fs2
  clear HB hb4 Z; have HB := Asd.mk h_; clear h_; have Z : w.heap.size ≤ w4.heap.size := HB.out.size
  have Ks := Asd.mk k_s; have Ls := k_s.lt; have cs0 := k_s.cell 0 rfl; have fs0 := k_s.frozen 0; have cs1 := k_s.cell 1 rfl; have fs1 := k_s.frozen 1; have cs2 := k_s.cell 2 rfl; have fs2 := k_s.frozen 2; clear k_s
  have Ku := Asd.mk k_u; have Lu := k_u.lt; have cu0 := k_u.cell 0 rfl; have fu0 := k_u.frozen 0; have cu1 := k_u.cell 1 rfl; have fu1 := k_u.frozen 1; have cu2 := k_u.cell 2 rfl; have fu2 := k_u.frozen 2; clear k_u
  go_wp2_with fail
  refine (promote_at (e := e) (b := b) (p := p) (n := 1) (l := 0) (r1 := y1) (r2 := y2) (r4 := r1) g1.out g2.out g0.out _).mono ?_; rintro en w5 ⟨rfl, hb5⟩
  have k_s : Blk w5 (w.heap.size) #[.int .i64 e, .int .i64 b, .int .i64 p] 23 := (by first | exact Ks.out.below hb5 | exact (Ks.out.alloc _).below hb5 | exact ((Ks.out.alloc _).alloc _).below hb5)
  have k_u : Blk w5 (w3.heap.size) #[.int .i64 x1, .int .i64 x2, .int .i64 x1] 27 := (by first | exact Ku.out.below hb5 | exact (Ku.out.alloc _).below hb5 | exact ((Ku.out.alloc _).alloc _).below hb5)
  have h_ : Below w.heap.size w w5 := below_step (by repeat (first | exact HB.out | apply below_alloc | apply below_drewN | apply below_drew | refine below_set ?_ (by have := HB.out.size; omega))) hb5
  clear Ks Ls cs0 fs0 cs1 fs1 cs2 fs2 Ku Lu cu0 fu0 cu1 fu1 cu2 fu2
  clear HB hb5 Z; have HB := Asd.mk h_; clear h_; have Z : w.heap.size ≤ w5.heap.size := HB.out.size
  have Ks := Asd.mk k_s; have Ls := k_s.lt; have cs0 := k_s.cell 0 rfl; have fs0 := k_s.frozen 0; have cs1 := k_s.cell 1 rfl; have fs1 := k_s.frozen 1; have cs2 := k_s.cell 2 rfl; have fs2 := k_s.frozen 2; clear k_s
  have Ku := Asd.mk k_u; have Lu := k_u.lt; have cu0 := k_u.cell 0 rfl; have fu0 := k_u.frozen 0; have cu1 := k_u.cell 1 rfl; have fu1 := k_u.frozen 1; have cu2 := k_u.cell 2 rfl; have fu2 := k_u.frozen 2; clear k_u
  go_wp2_with fail
  refine (right_ref_at HR.out _).mono ?_; rintro en w6 ⟨rfl, hb6⟩
  have k_s : Blk w6 (w.heap.size) #[.int .i64 e, .int .i64 b, .int .i64 p] 23 := (by first | exact Ks.out.below hb6 | exact (Ks.out.alloc _).below hb6 | exact ((Ks.out.alloc _).alloc _).below hb6)
  have k_u : Blk w6 (w3.heap.size) #[.int .i64 x1, .int .i64 x2, .int .i64 x1] 27 := (by first | exact Ku.out.below hb6 | exact (Ku.out.alloc _).below hb6 | exact ((Ku.out.alloc _).alloc _).below hb6)
  have k_v : Blk w6 (w5.heap.size) #[.int .i64 y1, .int .i64 y2, .int .i64 y1] 27 := (by first | exact (Blk.new _ _ _).below hb6 | exact ((Blk.new _ _ _).alloc _).below hb6 | exact (Blk.new1 _ _ _ _).below hb6)
  have Dsv : w.heap.size < w5.heap.size := (by have := Ls; omega)
  have Duv : w3.heap.size < w5.heap.size := (by have := Lu; omega)
  have h_ : Below w.heap.size w w6 := below_step (by repeat (first | exact HB.out | apply below_alloc | apply below_drewN | apply below_drew | refine below_set ?_ (by have := HB.out.size; omega))) hb6
  clear Ks Ls cs0 fs0 cs1 fs1 cs2 fs2 Ku Lu cu0 fu0 cu1 fu1 cu2 fu2
  clear HB hb6 Z; have HB := Asd.mk h_; clear h_; have Z : w.heap.size ≤ w6.heap.size := HB.out.size
  have Ks := Asd.mk k_s; have Ls := k_s.lt; have cs0 := k_s.cell 0 rfl; have fs0 := k_s.frozen 0; have cs1 := k_s.cell 1 rfl; have fs1 := k_s.frozen 1; have cs2 := k_s.cell 2 rfl; have fs2 := k_s.frozen 2; clear k_s
  have Ku := Asd.mk k_u; have Lu := k_u.lt; have cu0 := k_u.cell 0 rfl; have fu0 := k_u.frozen 0; have cu1 := k_u.cell 1 rfl; have fu1 := k_u.frozen 1; have cu2 := k_u.cell 2 rfl; have fu2 := k_u.frozen 2; clear k_u
  have Kv := Asd.mk k_v; have Lv := k_v.lt; have cv0 := k_v.cell 0 rfl; have fv0 := k_v.frozen 0; have cv1 := k_v.cell 1 rfl; have fv1 := k_v.frozen 1; have cv2 := k_v.cell 2 rfl; have fv2 := k_v.frozen 2; clear k_v
  go_wp2_with fail
  go_ret
  exact ⟨ret_bool hf.out, (by repeat (first | exact HB.out | exact Below.refl _ _ | apply below_alloc | apply below_drewN | apply below_drew | refine below_set ?_ (by omega)))⟩
theorem wrap_u64 (x : Int) : IntKind.u64.wrap x = x % 18446744073709551616 := by simp [IntKind.wrap, IntKind.bits, IntKind.signed]
theorem lead_next (x : Int) : (lead (wrap64 ((IntKind.u64.wrap x).tmod 1152921504606846976)) == lead (wrap64 (wrap64 ((IntKind.u64.wrap x).tmod 1152921504606846976) + 1))) = false := by
  rw [wrap_u64, Int.tmod_eq_emod_of_nonneg (by omega)]
  rw [beq_eq_false_iff_ne]
  unfold lead wrap64
  omega
theorem leads_any (e b p x : Int) (w : World) :
    Calls Try.prog 3 #[.agg #[.int .i64 e, .int .i64 b, .int .i64 p], .int .i64 x] w fun en w' => en = .returned (.bool true) ∧ Below w.heap.size w w' := by
  cases h : rightB e b p
  · exact leads_no e b p x _ _ _ _ w ⟨h⟩ ⟨rfl⟩ ⟨rfl⟩ ⟨pok_bad h⟩ ⟨rfl⟩ ⟨rfl⟩ ⟨pok_bad h⟩ (lead_next x)
  · refine leads_yes e b p x _ _ _ _ _ _ w ⟨h⟩ ⟨rfl⟩ ⟨rfl⟩ ⟨rfl⟩ ⟨rfl⟩ ⟨rfl⟩ ⟨rfl⟩ ⟨?_⟩ (lead_next x)
    have hl : lead e = 0 ∨ lead e = 1 := by unfold lead; omega
    rcases hl with hl | hl
    · have a := pok_lead (n := 0) h (by decide) hl
      have c := pok_other (n := 1) h (by decide) (by omega)
      rw [a, beq_eq_false_iff_ne.2 c]; rfl
    · have a := pok_lead (n := 1) h (by decide) hl
      have c := pok_other (n := 0) h (by decide) (by omega)
      rw [a, beq_eq_false_iff_ne.2 c]; rfl
end Go.Proofs.Ytlokgfoobjepdaa.Fx
