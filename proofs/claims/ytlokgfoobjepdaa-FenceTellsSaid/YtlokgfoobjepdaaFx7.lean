/- The law FenceTells as a contract. -/
import Derived.Test.YtlokgfoobjepdaaFx6
import Derived.Test.YtlokgfoobjepdaaWTab
namespace Go.Proofs.Ytlokgfoobjepdaa.Fx
open Go.RowKit
open Go.Proofs.Ytlokgfoobjepdaa.Xb (Asd Blk below_alloc below_drew below_drewN below_step below_set)
open Go.Proofs.YtlokgfoobjepdaaW.PrintLast (start_ take_ pure_ one_ norm_ goes_ done_ done_of any_of one_of take_ofW with_tabW rtab waitsOk opsOf i64_w i32_w)
set_option linter.unusedSimpArgs false
set_option linter.unusedVariables false
theorem promote_ref_at {e b p n l r1 r2 r4 : Int} (h1 : pE e b p n l = r1) (h2 : pB e b p n l = r2) (h4 : pOK e b p n l = r4) (w : World) :
    Calls Try.prog 12 #[.agg #[.int .i64 e, .int .i64 b, .int .i64 p], .int .i64 n, .int .i64 l] w fun en w' => en = .returned (.tuple #[.agg #[.int .i64 r1, .int .i64 r2, .int .i64 r1], .int .i64 r4]) ∧ Below w.heap.size w w' := by
  subst h1; subst h2; subst h4; exact promote_ref e b p n l w
def tells3T : Bool × List (List Nat × List Nat) := (true, [([], []), ([0], [0]), ([], []), ([2, 1], [2]), ([1, 3], [1, 3]), ([4, 3], [4]), ([5], [5]), ([6, 5, 5], [5, 6]), ([5], [5]), ([7, 8, 7, 5], [5, 7, 8]), ([5], [5]), ([5], [5]), ([10, 11, 9, 5], [5, 10, 11]), ([9, 12, 5], [5, 9, 12]), ([5, 13], [5, 13]), ([14, 12], [14]), ([15], [15]), ([16, 15, 15], [15, 16]), ([15], [15]), ([15], [15]), ([15], [15]), ([17, 18, 19, 20, 17, 15], [15, 17, 18, 19, 20]), ([15], [15]), ([15], [15]), ([15], [15]), ([15], [15]), ([22, 23, 24, 25, 21, 15], [15, 22, 23, 24, 25]), ([21, 26, 15], [15, 21, 26]), ([15, 27], [15, 27]), ([28, 26], [28]), ([29], [29]), ([30, 29, 29], [29, 30]), ([29], [29]), ([31, 32, 29], [29, 31, 32]), ([29, 33], [29, 33]), ([34, 31], [34]), ([35], [35]), ([35], [35]), ([36, 37, 35], [35, 36, 37]), ([35, 38], [35, 38])])
def tells3B : List Nat := [0, 1, 0, 7, 15, 31, 63, 127, 63, 511, 63, 63, 4095, 8191, 16383, 32767, 65535, 131071, 65535, 65535, 65535, 2097151, 65535, 65535, 65535, 65535, 67108863, 134217727, 268435455, 536870911, 1073741823, 2147483647, 1073741823, 8589934591, 17179869183, 34359738367, 68719476735, 68719476735, 274877906943, 549755813887]
theorem tells3tab : rtab .any (opsOf Try.f4 3) = tells3T := by kernel_rfl
theorem tells3bits : waitsOk tells3T.2 tells3B = true := by kernel_rfl
def tells5T : Bool × List (List Nat × List Nat) := (true, [([], []), ([0], [0]), ([1], [1]), ([2, 1], [2]), ([3], [3]), ([4, 3, 3], [3, 4]), ([5, 5, 3], [3, 5]), ([6, 6, 3], [3, 6]), ([3], [3]), ([8, 7, 3], [3, 8]), ([7, 9, 3], [3, 7, 9]), ([10, 9, 3], [3, 10]), ([11], [11]), ([12, 11, 11], [11, 12]), ([11], [11]), ([13, 14, 13, 11], [11, 13, 14]), ([15, 15, 11], [11, 15]), ([11], [11]), ([11], [11]), ([17, 18, 16, 11], [11, 17, 18]), ([16, 19, 11], [11, 16, 19]), ([11, 20, 3], [3, 11, 20]), ([3, 21], [3, 21]), ([22, 19, 0, 1, 2, 3, 4, 5, 6, 7, 8, 9, 10, 11, 12, 13, 14, 15, 16, 17, 18, 19, 20, 21, 22], [22])])
def tells5B : List Nat := [0, 1, 3, 7, 15, 31, 63, 127, 15, 511, 1023, 2047, 4095, 8191, 4095, 32767, 65535, 4095, 4095, 524287, 1048575, 2097151, 4194303, 8388607]
theorem tells5tab : rtab .any (opsOf Try.f4 5) = tells5T := by kernel_rfl
theorem tells5bits : waitsOk tells5T.2 tells5B = true := by kernel_rfl
set_option maxHeartbeats 4000000 in
set_option maxRecDepth 100000 in
theorem tells_core (e b p n x x1 x2 r0 : Int) (t : Bool) (w : World) (h1 : Asd (pE e b p n x = x1)) (h2 : Asd (pB e b p n x = x2)) (h0 : Asd (pOK e b p n x = r0)) :
    Calls Try.prog 4 #[.agg #[.int .i64 e, .int .i64 b, .int .i64 p], .int .i64 n, .int .i64 x, .bool t] w fun en w' => en = .returned (.bool true) ∧ Below w.heap.size w w' := by
  go_enter Try.func4, Try.ntmps4
  have HB : Asd (Below w.heap.size w w) := ⟨Below.refl _ _⟩
  go_wp2_with fail
  refine (to_any _ _ _ _).mono ?_; rintro en w1 ⟨he, hb1⟩; unfold Agg3 at he; subst he
  have k_s : Blk w1 (w.heap.size) #[.int .i64 e, .int .i64 b, .int .i64 p] 23 := (by first | exact (Blk.new _ _ _).below hb1 | exact ((Blk.new _ _ _).alloc _).below hb1 | exact (Blk.new1 _ _ _ _).below hb1)
  have h_ : Below w.heap.size w w1 := below_step (by repeat (first | exact HB.out | apply below_alloc | apply below_drewN | apply below_drew | refine below_set ?_ (by have := HB.out.size; omega))) hb1
  clear HB hb1; have HB := Asd.mk h_; clear h_; have Z : w.heap.size ≤ w1.heap.size := HB.out.size
  have Ks := Asd.mk k_s; have Ls := k_s.lt; have cs0 := k_s.cell 0 rfl; have fs0 := k_s.frozen 0; have cs1 := k_s.cell 1 rfl; have fs1 := k_s.frozen 1; have cs2 := k_s.cell 2 rfl; have fs2 := k_s.frozen 2; clear k_s
  go_wp2_with fail
  refine (promote_at (e := e) (b := b) (p := p) (n := n) (l := x) (r1 := x1) (r2 := x2) (r4 := r0) h1.out h2.out h0.out _).mono ?_; rintro en w2 ⟨rfl, hb2⟩
  have k_s : Blk w2 (w.heap.size) #[.int .i64 e, .int .i64 b, .int .i64 p] 23 := (by first | exact Ks.out.below hb2 | exact (Ks.out.alloc _).below hb2 | exact ((Ks.out.alloc _).alloc _).below hb2)
  have h_ : Below w.heap.size w w2 := below_step (by repeat (first | exact HB.out | apply below_alloc | apply below_drewN | apply below_drew | refine below_set ?_ (by have := HB.out.size; omega))) hb2
  clear Ks Ls cs0 fs0 cs1 fs1 cs2 fs2
  clear HB hb2 Z; have HB := Asd.mk h_; clear h_; have Z : w.heap.size ≤ w2.heap.size := HB.out.size
  have Ks := Asd.mk k_s; have Ls := k_s.lt; have cs0 := k_s.cell 0 rfl; have fs0 := k_s.frozen 0; have cs1 := k_s.cell 1 rfl; have fs1 := k_s.frozen 1; have cs2 := k_s.cell 2 rfl; have fs2 := k_s.frozen 2; clear k_s
  go_wp2_with fail
  refine (promote_ref_at (e := e) (b := b) (p := p) (n := n) (l := x) (r1 := x1) (r2 := x2) (r4 := r0) h1.out h2.out h0.out _).mono ?_; rintro en w3 ⟨rfl, hb3⟩
  have k_s : Blk w3 (w.heap.size) #[.int .i64 e, .int .i64 b, .int .i64 p] 23 := (by first | exact Ks.out.below hb3 | exact (Ks.out.alloc _).below hb3 | exact ((Ks.out.alloc _).alloc _).below hb3)
  have k_a : Blk w3 (w2.heap.size) #[.int .i64 x1, .int .i64 x2, .int .i64 x1] 27 := (by first | exact (Blk.new _ _ _).below hb3 | exact ((Blk.new _ _ _).alloc _).below hb3 | exact (Blk.new1 _ _ _ _).below hb3)
  have Dsa : w.heap.size < w2.heap.size := (by have := Ls; omega)
  have h_ : Below w.heap.size w w3 := below_step (by repeat (first | exact HB.out | apply below_alloc | apply below_drewN | apply below_drew | refine below_set ?_ (by have := HB.out.size; omega))) hb3
  clear Ks Ls cs0 fs0 cs1 fs1 cs2 fs2
  clear HB hb3 Z; have HB := Asd.mk h_; clear h_; have Z : w.heap.size ≤ w3.heap.size := HB.out.size
  have Ks := Asd.mk k_s; have Ls := k_s.lt; have cs0 := k_s.cell 0 rfl; have fs0 := k_s.frozen 0; have cs1 := k_s.cell 1 rfl; have fs1 := k_s.frozen 1; have cs2 := k_s.cell 2 rfl; have fs2 := k_s.frozen 2; clear k_s
  have Ka := Asd.mk k_a; have La := k_a.lt; have ca0 := k_a.cell 0 rfl; have fa0 := k_a.frozen 0; have ca1 := k_a.cell 1 rfl; have fa1 := k_a.frozen 1; have ca2 := k_a.cell 2 rfl; have fa2 := k_a.frozen 2; clear k_a
  go_wp2_with fail
  have k_s := Ks.out.alloc (.cells #[.int .i64 x1, .int .i64 x2, .int .i64 x1] 23 (0, 0))
  have k_a := Ka.out.alloc (.cells #[.int .i64 x1, .int .i64 x2, .int .i64 x1] 23 (0, 0))
  have k_c := Blk.new w3 #[.int .i64 x1, .int .i64 x2, .int .i64 x1] 23
  have h_ := below_alloc HB.out (.cells #[.int .i64 x1, .int .i64 x2, .int .i64 x1] 23 (0, 0))
  revert k_s k_a k_c h_
  generalize (w3.alloc (.cells #[.int .i64 x1, .int .i64 x2, .int .i64 x1] 23 (0, 0))) = w4
  intro k_s k_a k_c h_
  have Dsc : w.heap.size < w3.heap.size := (by have := Ls; omega)
  have Dac : w2.heap.size < w3.heap.size := (by have := La; omega)
  clear Ks Ls cs0 fs0 cs1 fs1 cs2 fs2 Ka La ca0 fa0 ca1 fa1 ca2 fa2
  clear HB Z; have HB := Asd.mk h_; clear h_; have Z : w.heap.size ≤ w4.heap.size := HB.out.size
  have Ks := Asd.mk k_s; have Ls := k_s.lt; have cs0 := k_s.cell 0 rfl; have fs0 := k_s.frozen 0; have cs1 := k_s.cell 1 rfl; have fs1 := k_s.frozen 1; have cs2 := k_s.cell 2 rfl; have fs2 := k_s.frozen 2; clear k_s
  have Ka := Asd.mk k_a; have La := k_a.lt; have ca0 := k_a.cell 0 rfl; have fa0 := k_a.frozen 0; have ca1 := k_a.cell 1 rfl; have fa1 := k_a.frozen 1; have ca2 := k_a.cell 2 rfl; have fa2 := k_a.frozen 2; clear k_a
  have Kc := Asd.mk k_c; have Lc := k_c.lt; have cc0 := k_c.cell 0 rfl; have fc0 := k_c.frozen 0; have cc1 := k_c.cell 1 rfl; have fc1 := k_c.frozen 1; have cc2 := k_c.cell 2 rfl; have fc2 := k_c.frozen 2; clear k_c
  have k_s := Ks.out.drew
  have k_a := Ka.out.drew
  have k_c := Kc.out.drew
  have h_ := below_drew HB.out
  refine start_ (n := 40) (S := fun w' => w'.cell? ⟨w.heap.size, 0, none⟩ = some (.int .i64 e) ∧ w'.cell? ⟨w.heap.size, 1, none⟩ = some (.int .i64 b) ∧ w'.cell? ⟨w.heap.size, 2, none⟩ = some (.int .i64 p) ∧ w'.cell? ⟨w2.heap.size, 0, none⟩ = some (.int .i64 x1) ∧ w'.cell? ⟨w2.heap.size, 1, none⟩ = some (.int .i64 x2) ∧ w'.cell? ⟨w2.heap.size, 2, none⟩ = some (.int .i64 x1) ∧ w'.cell? ⟨w3.heap.size, 0, none⟩ = some (.int .i64 x1) ∧ w'.cell? ⟨w3.heap.size, 1, none⟩ = some (.int .i64 x2) ∧ w'.cell? ⟨w3.heap.size, 2, none⟩ = some (.int .i64 x1)) (ds := []) #[false, false, false, false, false, false, false, false, false, false, false, false, false, false, false, false, false, false, false, false, false, false, false, false, false, false, false, false, false, false, false, false, false, false, false, false, false, false, false, false] (by kernel_rfl) rfl rfl ⟨k_s.cell 0 rfl, k_s.cell 1 rfl, k_s.cell 2 rfl, k_a.cell 0 rfl, k_a.cell 1 rfl, k_a.cell 2 rfl, k_c.cell 0 rfl, k_c.cell 1 rfl, k_c.cell 2 rfl⟩ (fun hHeld => ?_); refine with_tabW tells3tab tells3bits (fun HT_ HW_ => ?_)
  clear HB Ks Ka Kc
  generalize w4.drew = w5 at k_s k_a k_c h_ hHeld ⊢
  have HB := Asd.mk h_; clear h_; have Ks := Asd.mk k_s; clear k_s; have Ka := Asd.mk k_a; clear k_a; have Kc := Asd.mk k_c; clear k_c
  clear Ls La Lc cs0 fs0 cs1 fs1 cs2 fs2 ca0 fa0 ca1 fa1 ca2 fa2 cc0 fc0 cc1 fc1 cc2 fc2
  refine pure_ (i := 0) (N := some 28) (v := ?_) (a' := ?_) #[true, false, false, false, false, false, false, false, false, false, false, false, false, false, false, false, false, false, false, false, false, false, false, false, false, false, false, false, false, false, false, false, false, false, false, false, false, false, false, false] rfl rfl (any_of HT_.out (by kernel_rfl)) (fun _ _ _ h => h) (Or.inl ⟨by rfl, ?_⟩) ?_ ?_
  rotate_left
  · intro w'
    go_simp
    with_reducible rfl
  rotate_left
  · simp only [Act.put, List.setIfInBounds_toArray, List.set_cons_zero, List.set_cons_succ, i64_w, i32_w]
    rfl
  refine pure_ (i := 2) (N := some 30) (v := ?_) (a' := ?_) #[true, false, true, false, false, false, false, false, false, false, false, false, false, false, false, false, false, false, false, false, false, false, false, false, false, false, false, false, false, false, false, false, false, false, false, false, false, false, false, false] rfl rfl (any_of HT_.out (by kernel_rfl)) (fun _ _ _ h => h) (Or.inl ⟨by rfl, ?_⟩) ?_ ?_
  rotate_left
  · intro w'
    go_simp
    with_reducible rfl
  rotate_left
  · simp only [Act.put, List.setIfInBounds_toArray, List.set_cons_zero, List.set_cons_succ, i64_w, i32_w]
    rfl
  refine one_ (i := 1) (N := some 29) #[true, true, true, false, false, false, false, false, false, false, false, false, false, false, false, false, false, false, false, false, false, false, false, false, false, false, false, false, false, false, false, false, false, false, false, false, false, false, false, false] rfl rfl (one_of HT_.out (by kernel_rfl)) (by decide) (fun K hK => ?_)
  refine goes_ Try.func8 (by kernel_rfl) rfl #[.int .i64 x] (by rfl) rfl rfl (by (try simp only [List.map_toArray, List.map_cons, List.map_nil]); first | done | rfl | (simp only [List.length_drop, List.length_take]; rfl)) ?_
  with_reducible refine (leader_any _ _).mono ?_
  rintro en w_ ⟨rfl, rfl⟩
  refine ⟨_, rfl, ?_⟩
  refine hK.out _ _ ⟨Ks.out.cell 0 rfl, Ks.out.cell 1 rfl, Ks.out.cell 2 rfl, Ka.out.cell 0 rfl, Ka.out.cell 1 rfl, Ka.out.cell 2 rfl, Kc.out.cell 0 rfl, Kc.out.cell 1 rfl, Kc.out.cell 2 rfl⟩ (fun hHeld => ?_)
  clear hK K
  refine norm_ (a' := ?_) ?_ ?_
  rotate_left
  · show Act.put _ (some 29) _ = _
    simp only [Act.put, List.setIfInBounds_toArray, List.set_cons_zero, List.set_cons_succ, i64_w, i32_w]
    rfl
  refine one_ (i := 3) (N := some 31) #[true, true, true, true, false, false, false, false, false, false, false, false, false, false, false, false, false, false, false, false, false, false, false, false, false, false, false, false, false, false, false, false, false, false, false, false, false, false, false, false] rfl rfl (one_of HT_.out (by kernel_rfl)) (by decide) (fun K hK => ?_)
  refine goes_ Try.func13 (by kernel_rfl) rfl #[.int .i64 x] (by rfl) rfl rfl (by (try simp only [List.map_toArray, List.map_cons, List.map_nil]); first | done | rfl | (simp only [List.length_drop, List.length_take]; rfl)) ?_
  with_reducible refine (leader_ref _ _).mono ?_
  rintro en w_ ⟨rfl, rfl⟩
  refine ⟨_, rfl, ?_⟩
  refine hK.out _ _ ⟨Ks.out.cell 0 rfl, Ks.out.cell 1 rfl, Ks.out.cell 2 rfl, Ka.out.cell 0 rfl, Ka.out.cell 1 rfl, Ka.out.cell 2 rfl, Kc.out.cell 0 rfl, Kc.out.cell 1 rfl, Kc.out.cell 2 rfl⟩ (fun hHeld => ?_)
  clear hK K
  refine norm_ (a' := ?_) ?_ ?_
  rotate_left
  · show Act.put _ (some 31) _ = _
    simp only [Act.put, List.setIfInBounds_toArray, List.set_cons_zero, List.set_cons_succ, i64_w, i32_w]
    rfl
  refine pure_ (i := 4) (N := some 32) (v := ?_) (a' := ?_) #[true, true, true, true, true, false, false, false, false, false, false, false, false, false, false, false, false, false, false, false, false, false, false, false, false, false, false, false, false, false, false, false, false, false, false, false, false, false, false, false] rfl rfl (any_of HT_.out (by kernel_rfl)) (fun _ _ _ h => h) (Or.inl ⟨by rfl, ?_⟩) ?_ ?_
  rotate_left
  · intro w'
    go_simp
    with_reducible rfl
  rotate_left
  · simp only [Act.put, List.setIfInBounds_toArray, List.set_cons_zero, List.set_cons_succ, i64_w, i32_w]
    rfl
  refine pure_ (i := 5) (N := some 33) (v := ?_) (a' := ?_) #[true, true, true, true, true, true, false, false, false, false, false, false, false, false, false, false, false, false, false, false, false, false, false, false, false, false, false, false, false, false, false, false, false, false, false, false, false, false, false, false] rfl rfl (any_of HT_.out (by kernel_rfl)) (fun _ _ _ h => h) (Or.inl ⟨by rfl, ?_⟩) ?_ ?_
  rotate_left
  · intro w'
    go_simp
    with_reducible rfl
  rotate_left
  · simp only [Act.put, List.setIfInBounds_toArray, List.set_cons_zero, List.set_cons_succ, i64_w, i32_w]
    rfl
  refine pure_ (i := 8) (N := some 36) (v := ?_) (a' := ?_) #[true, true, true, true, true, true, false, false, true, false, false, false, false, false, false, false, false, false, false, false, false, false, false, false, false, false, false, false, false, false, false, false, false, false, false, false, false, false, false, false] rfl rfl (any_of HT_.out (by kernel_rfl)) (fun _ _ _ h => h) (Or.inl ⟨by rfl, ?_⟩) ?_ ?_
  rotate_left
  · intro w'
    go_simp
    with_reducible rfl
  rotate_left
  · simp only [Act.put, List.setIfInBounds_toArray, List.set_cons_zero, List.set_cons_succ, i64_w, i32_w]
    rfl
  refine pure_ (i := 11) (N := some 39) (v := ?_) (a' := ?_) #[true, true, true, true, true, true, false, false, true, false, false, true, false, false, false, false, false, false, false, false, false, false, false, false, false, false, false, false, false, false, false, false, false, false, false, false, false, false, false, false] rfl rfl (any_of HT_.out (by kernel_rfl)) (fun _ _ _ h => h) (Or.inl ⟨by rfl, ?_⟩) ?_ ?_
  rotate_left
  · intro w'
    go_simp
    with_reducible rfl
  rotate_left
  · simp only [Act.put, List.setIfInBounds_toArray, List.set_cons_zero, List.set_cons_succ, i64_w, i32_w]
    rfl
  refine take_ (i := 6) (N := some 34) (v := ?_) (a' := ?_) #[true, true, true, true, true, true, true, false, true, false, false, true, false, false, false, false, false, false, false, false, false, false, false, false, false, false, false, false, false, false, false, false, false, false, false, false, false, false, false, false] rfl rfl (take_ofW HT_.out HW_.out (by kernel_rfl)) (fun _ _ _ h => h) (Or.inl ⟨by rfl, ?_⟩) hHeld ?_ ?_
  rotate_left
  · rintro w' ⟨s0, s1, s2, s3, s4, s5, s6, s7, s8⟩
    go_simp
    with_reducible rfl
  rotate_left
  · simp only [Act.put, List.setIfInBounds_toArray, List.set_cons_zero, List.set_cons_succ, i64_w, i32_w]
    rfl
  refine take_ (i := 10) (N := some 38) (v := ?_) (a' := ?_) #[true, true, true, true, true, true, true, false, true, false, true, true, false, false, false, false, false, false, false, false, false, false, false, false, false, false, false, false, false, false, false, false, false, false, false, false, false, false, false, false] rfl rfl (take_ofW HT_.out HW_.out (by kernel_rfl)) (fun _ _ _ h => h) (Or.inl ⟨by rfl, ?_⟩) hHeld ?_ ?_
  rotate_left
  · rintro w' ⟨s0, s1, s2, s3, s4, s5, s6, s7, s8⟩
    go_simp
    with_reducible rfl
  rotate_left
  · simp only [Act.put, List.setIfInBounds_toArray, List.set_cons_zero, List.set_cons_succ, i64_w, i32_w]
    rfl
  refine one_ (i := 7) (N := some 35) #[true, true, true, true, true, true, true, true, true, false, true, true, false, false, false, false, false, false, false, false, false, false, false, false, false, false, false, false, false, false, false, false, false, false, false, false, false, false, false, false] rfl rfl (one_of HT_.out (by kernel_rfl)) (by decide) (fun K hK => ?_)
  refine goes_ Try.func10 (by kernel_rfl) rfl #[.agg #[.int .i64 e, .int .i64 b, .int .i64 p]] (by rfl) rfl rfl (by (try simp only [List.map_toArray, List.map_cons, List.map_nil]); first | done | rfl | (simp only [List.length_drop, List.length_take]; rfl)) ?_
  with_reducible refine (to_any _ _ _ _).mono ?_
  rintro en w6 ⟨he, hb6⟩; unfold Agg3 at he; subst he
  refine ⟨_, rfl, ?_⟩
  have k_s := Ks.out.below hb6
  have k_a := Ka.out.below hb6
  have k_c := Kc.out.below hb6
  have h_ := below_step HB.out hb6
  clear HB hb6 Ks Ka Kc; have HB := Asd.mk h_; clear h_; have Ks := Asd.mk k_s; clear k_s; have Ka := Asd.mk k_a; clear k_a; have Kc := Asd.mk k_c; clear k_c
  refine hK.out _ _ ⟨Ks.out.cell 0 rfl, Ks.out.cell 1 rfl, Ks.out.cell 2 rfl, Ka.out.cell 0 rfl, Ka.out.cell 1 rfl, Ka.out.cell 2 rfl, Kc.out.cell 0 rfl, Kc.out.cell 1 rfl, Kc.out.cell 2 rfl⟩ (fun hHeld => ?_)
  clear hK K
  refine norm_ (a' := ?_) ?_ ?_
  rotate_left
  · show Act.put _ (some 35) _ = _
    simp only [Act.put, List.setIfInBounds_toArray, List.set_cons_zero, List.set_cons_succ, i64_w, i32_w]
    rfl
  refine one_ (i := 9) (N := some 37) #[true, true, true, true, true, true, true, true, true, true, true, true, false, false, false, false, false, false, false, false, false, false, false, false, false, false, false, false, false, false, false, false, false, false, false, false, false, false, false, false] rfl rfl (one_of HT_.out (by kernel_rfl)) (by decide) (fun K hK => ?_)
  refine goes_ Try.func14 (by kernel_rfl) rfl #[.agg #[.int .i64 e, .int .i64 b, .int .i64 p], .int .i64 n] (by rfl) rfl rfl (by (try simp only [List.map_toArray, List.map_cons, List.map_nil]); first | done | rfl | (simp only [List.length_drop, List.length_take]; rfl)) ?_
  with_reducible refine (writes_any _ _ _ _ _).mono ?_
  rintro en w7 ⟨rfl, hb7⟩
  refine ⟨_, rfl, ?_⟩
  have k_s := Ks.out.below hb7
  have k_a := Ka.out.below hb7
  have k_c := Kc.out.below hb7
  have h_ := below_step HB.out hb7
  clear HB hb7 Ks Ka Kc; have HB := Asd.mk h_; clear h_; have Ks := Asd.mk k_s; clear k_s; have Ka := Asd.mk k_a; clear k_a; have Kc := Asd.mk k_c; clear k_c
  refine hK.out _ _ ⟨Ks.out.cell 0 rfl, Ks.out.cell 1 rfl, Ks.out.cell 2 rfl, Ka.out.cell 0 rfl, Ka.out.cell 1 rfl, Ka.out.cell 2 rfl, Kc.out.cell 0 rfl, Kc.out.cell 1 rfl, Kc.out.cell 2 rfl⟩ (fun hHeld => ?_)
  clear hK K
  refine norm_ (a' := ?_) ?_ ?_
  rotate_left
  · show Act.put _ (some 37) _ = _
    simp only [Act.put, List.setIfInBounds_toArray, List.set_cons_zero, List.set_cons_succ, i64_w, i32_w]
    rfl
  refine one_ (i := 12) (N := some 40) #[true, true, true, true, true, true, true, true, true, true, true, true, true, false, false, false, false, false, false, false, false, false, false, false, false, false, false, false, false, false, false, false, false, false, false, false, false, false, false, false] rfl rfl (one_of HT_.out (by kernel_rfl)) (by decide) (fun K hK => ?_)
  refine goes_ Try.func15 (by kernel_rfl) rfl #[.agg #[.int .i64 e, .int .i64 b, .int .i64 p], .int .i64 n] (by rfl) rfl rfl (by (try simp only [List.map_toArray, List.map_cons, List.map_nil]); first | done | rfl | (simp only [List.length_drop, List.length_take]; rfl)) ?_
  with_reducible refine (writes_ref _ _ _ _ _).mono ?_
  rintro en w8 ⟨rfl, hb8⟩
  refine ⟨_, rfl, ?_⟩
  have k_s := Ks.out.below hb8
  have k_a := Ka.out.below hb8
  have k_c := Kc.out.below hb8
  have h_ := below_step HB.out hb8
  clear HB hb8 Ks Ka Kc; have HB := Asd.mk h_; clear h_; have Ks := Asd.mk k_s; clear k_s; have Ka := Asd.mk k_a; clear k_a; have Kc := Asd.mk k_c; clear k_c
  refine hK.out _ _ ⟨Ks.out.cell 0 rfl, Ks.out.cell 1 rfl, Ks.out.cell 2 rfl, Ka.out.cell 0 rfl, Ka.out.cell 1 rfl, Ka.out.cell 2 rfl, Kc.out.cell 0 rfl, Kc.out.cell 1 rfl, Kc.out.cell 2 rfl⟩ (fun hHeld => ?_)
  clear hK K
  refine norm_ (a' := ?_) ?_ ?_
  rotate_left
  · show Act.put _ (some 40) _ = _
    simp only [Act.put, List.setIfInBounds_toArray, List.set_cons_zero, List.set_cons_succ, i64_w, i32_w]
    rfl
  refine pure_ (i := 13) (N := some 41) (v := ?_) (a' := ?_) #[true, true, true, true, true, true, true, true, true, true, true, true, true, true, false, false, false, false, false, false, false, false, false, false, false, false, false, false, false, false, false, false, false, false, false, false, false, false, false, false] rfl rfl (any_of HT_.out (by kernel_rfl)) (fun _ _ _ h => h) (Or.inl ⟨by rfl, ?_⟩) ?_ ?_
  rotate_left
  · intro w'
    go_simp
    with_reducible rfl
  rotate_left
  · simp only [Act.put, List.setIfInBounds_toArray, List.set_cons_zero, List.set_cons_succ, i64_w, i32_w]
    rfl
  refine pure_ (i := 14) (N := some 42) (v := ?_) (a' := ?_) #[true, true, true, true, true, true, true, true, true, true, true, true, true, true, true, false, false, false, false, false, false, false, false, false, false, false, false, false, false, false, false, false, false, false, false, false, false, false, false, false] rfl rfl (any_of HT_.out (by kernel_rfl)) (fun _ _ _ h => h) (Or.inl ⟨by rfl, ?_⟩) ?_ ?_
  rotate_left
  · intro w'
    go_simp
    with_reducible rfl
  rotate_left
  · simp only [Act.put, List.setIfInBounds_toArray, List.set_cons_zero, List.set_cons_succ, i64_w, i32_w]
    rfl
  refine pure_ (i := 15) (N := some 43) (v := ?_) (a' := ?_) #[true, true, true, true, true, true, true, true, true, true, true, true, true, true, true, true, false, false, false, false, false, false, false, false, false, false, false, false, false, false, false, false, false, false, false, false, false, false, false, false] rfl rfl (any_of HT_.out (by kernel_rfl)) (fun _ _ _ h => h) (Or.inl ⟨by rfl, ?_⟩) ?_ ?_
  rotate_left
  · intro w'
    go_simp
    with_reducible rfl
  rotate_left
  · simp only [Act.put, List.setIfInBounds_toArray, List.set_cons_zero, List.set_cons_succ, i64_w, i32_w]
    rfl
  refine pure_ (i := 18) (N := some 46) (v := ?_) (a' := ?_) #[true, true, true, true, true, true, true, true, true, true, true, true, true, true, true, true, false, false, true, false, false, false, false, false, false, false, false, false, false, false, false, false, false, false, false, false, false, false, false, false] rfl rfl (any_of HT_.out (by kernel_rfl)) (fun _ _ _ h => h) (Or.inl ⟨by rfl, ?_⟩) ?_ ?_
  rotate_left
  · intro w'
    go_simp
    with_reducible rfl
  rotate_left
  · simp only [Act.put, List.setIfInBounds_toArray, List.set_cons_zero, List.set_cons_succ, i64_w, i32_w]
    rfl
  refine pure_ (i := 19) (N := some 47) (v := ?_) (a' := ?_) #[true, true, true, true, true, true, true, true, true, true, true, true, true, true, true, true, false, false, true, true, false, false, false, false, false, false, false, false, false, false, false, false, false, false, false, false, false, false, false, false] rfl rfl (any_of HT_.out (by kernel_rfl)) (fun _ _ _ h => h) (Or.inl ⟨by rfl, ?_⟩) ?_ ?_
  rotate_left
  · intro w'
    go_simp
    with_reducible rfl
  rotate_left
  · simp only [Act.put, List.setIfInBounds_toArray, List.set_cons_zero, List.set_cons_succ, i64_w, i32_w]
    rfl
  refine pure_ (i := 20) (N := some 48) (v := ?_) (a' := ?_) #[true, true, true, true, true, true, true, true, true, true, true, true, true, true, true, true, false, false, true, true, true, false, false, false, false, false, false, false, false, false, false, false, false, false, false, false, false, false, false, false] rfl rfl (any_of HT_.out (by kernel_rfl)) (fun _ _ _ h => h) (Or.inl ⟨by rfl, ?_⟩) ?_ ?_
  rotate_left
  · intro w'
    go_simp
    with_reducible rfl
  rotate_left
  · simp only [Act.put, List.setIfInBounds_toArray, List.set_cons_zero, List.set_cons_succ, i64_w, i32_w]
    rfl
  refine pure_ (i := 23) (N := some 51) (v := ?_) (a' := ?_) #[true, true, true, true, true, true, true, true, true, true, true, true, true, true, true, true, false, false, true, true, true, false, false, true, false, false, false, false, false, false, false, false, false, false, false, false, false, false, false, false] rfl rfl (any_of HT_.out (by kernel_rfl)) (fun _ _ _ h => h) (Or.inl ⟨by rfl, ?_⟩) ?_ ?_
  rotate_left
  · intro w'
    go_simp
    with_reducible rfl
  rotate_left
  · simp only [Act.put, List.setIfInBounds_toArray, List.set_cons_zero, List.set_cons_succ, i64_w, i32_w]
    rfl
  refine pure_ (i := 24) (N := some 52) (v := ?_) (a' := ?_) #[true, true, true, true, true, true, true, true, true, true, true, true, true, true, true, true, false, false, true, true, true, false, false, true, true, false, false, false, false, false, false, false, false, false, false, false, false, false, false, false] rfl rfl (any_of HT_.out (by kernel_rfl)) (fun _ _ _ h => h) (Or.inl ⟨by rfl, ?_⟩) ?_ ?_
  rotate_left
  · intro w'
    go_simp
    with_reducible rfl
  rotate_left
  · simp only [Act.put, List.setIfInBounds_toArray, List.set_cons_zero, List.set_cons_succ, i64_w, i32_w]
    rfl
  refine pure_ (i := 25) (N := some 53) (v := ?_) (a' := ?_) #[true, true, true, true, true, true, true, true, true, true, true, true, true, true, true, true, false, false, true, true, true, false, false, true, true, true, false, false, false, false, false, false, false, false, false, false, false, false, false, false] rfl rfl (any_of HT_.out (by kernel_rfl)) (fun _ _ _ h => h) (Or.inl ⟨by rfl, ?_⟩) ?_ ?_
  rotate_left
  · intro w'
    go_simp
    with_reducible rfl
  rotate_left
  · simp only [Act.put, List.setIfInBounds_toArray, List.set_cons_zero, List.set_cons_succ, i64_w, i32_w]
    rfl
  refine take_ (i := 16) (N := some 44) (v := ?_) (a' := ?_) #[true, true, true, true, true, true, true, true, true, true, true, true, true, true, true, true, true, false, true, true, true, false, false, true, true, true, false, false, false, false, false, false, false, false, false, false, false, false, false, false] rfl rfl (take_ofW HT_.out HW_.out (by kernel_rfl)) (fun _ _ _ h => h) (Or.inl ⟨by rfl, ?_⟩) hHeld ?_ ?_
  rotate_left
  · rintro w' ⟨s0, s1, s2, s3, s4, s5, s6, s7, s8⟩
    go_simp
    with_reducible rfl
  rotate_left
  · simp only [Act.put, List.setIfInBounds_toArray, List.set_cons_zero, List.set_cons_succ, i64_w, i32_w]
    rfl
  refine take_ (i := 22) (N := some 50) (v := ?_) (a' := ?_) #[true, true, true, true, true, true, true, true, true, true, true, true, true, true, true, true, true, false, true, true, true, false, true, true, true, true, false, false, false, false, false, false, false, false, false, false, false, false, false, false] rfl rfl (take_ofW HT_.out HW_.out (by kernel_rfl)) (fun _ _ _ h => h) (Or.inl ⟨by rfl, ?_⟩) hHeld ?_ ?_
  rotate_left
  · rintro w' ⟨s0, s1, s2, s3, s4, s5, s6, s7, s8⟩
    go_simp
    with_reducible rfl
  rotate_left
  · simp only [Act.put, List.setIfInBounds_toArray, List.set_cons_zero, List.set_cons_succ, i64_w, i32_w]
    rfl
  refine one_ (i := 17) (N := some 45) #[true, true, true, true, true, true, true, true, true, true, true, true, true, true, true, true, true, true, true, true, true, false, true, true, true, true, false, false, false, false, false, false, false, false, false, false, false, false, false, false] rfl rfl (one_of HT_.out (by kernel_rfl)) (by decide) (fun K hK => ?_)
  refine goes_ Try.func10 (by kernel_rfl) rfl #[.agg #[.int .i64 e, .int .i64 b, .int .i64 p]] (by rfl) rfl rfl (by (try simp only [List.map_toArray, List.map_cons, List.map_nil]); first | done | rfl | (simp only [List.length_drop, List.length_take]; rfl)) ?_
  with_reducible refine (to_any _ _ _ _).mono ?_
  rintro en w9 ⟨he, hb9⟩; unfold Agg3 at he; subst he
  refine ⟨_, rfl, ?_⟩
  have k_s := Ks.out.below hb9
  have k_a := Ka.out.below hb9
  have k_c := Kc.out.below hb9
  have h_ := below_step HB.out hb9
  clear HB hb9 Ks Ka Kc; have HB := Asd.mk h_; clear h_; have Ks := Asd.mk k_s; clear k_s; have Ka := Asd.mk k_a; clear k_a; have Kc := Asd.mk k_c; clear k_c
  refine hK.out _ _ ⟨Ks.out.cell 0 rfl, Ks.out.cell 1 rfl, Ks.out.cell 2 rfl, Ka.out.cell 0 rfl, Ka.out.cell 1 rfl, Ka.out.cell 2 rfl, Kc.out.cell 0 rfl, Kc.out.cell 1 rfl, Kc.out.cell 2 rfl⟩ (fun hHeld => ?_)
  clear hK K
  refine norm_ (a' := ?_) ?_ ?_
  rotate_left
  · show Act.put _ (some 45) _ = _
    simp only [Act.put, List.setIfInBounds_toArray, List.set_cons_zero, List.set_cons_succ, i64_w, i32_w]
    rfl
  refine one_ (i := 21) (N := some 49) #[true, true, true, true, true, true, true, true, true, true, true, true, true, true, true, true, true, true, true, true, true, true, true, true, true, true, false, false, false, false, false, false, false, false, false, false, false, false, false, false] rfl rfl (one_of HT_.out (by kernel_rfl)) (by decide) (fun K hK => ?_)
  refine goes_ Try.func16 (by kernel_rfl) rfl #[.agg #[.int .i64 e, .int .i64 b, .int .i64 p], .int .i64 n, .int .i64 x, .bool t] (by rfl) rfl rfl (by (try simp only [List.map_toArray, List.map_cons, List.map_nil]); first | done | rfl | (simp only [List.length_drop, List.length_take]; rfl)) ?_
  with_reducible refine (judge_any _ _ _ _ _ _ _).mono ?_
  rintro en w10 ⟨rfl, hb10⟩
  refine ⟨_, rfl, ?_⟩
  have k_s := Ks.out.below hb10
  have k_a := Ka.out.below hb10
  have k_c := Kc.out.below hb10
  have h_ := below_step HB.out hb10
  clear HB hb10 Ks Ka Kc; have HB := Asd.mk h_; clear h_; have Ks := Asd.mk k_s; clear k_s; have Ka := Asd.mk k_a; clear k_a; have Kc := Asd.mk k_c; clear k_c
  refine hK.out _ _ ⟨Ks.out.cell 0 rfl, Ks.out.cell 1 rfl, Ks.out.cell 2 rfl, Ka.out.cell 0 rfl, Ka.out.cell 1 rfl, Ka.out.cell 2 rfl, Kc.out.cell 0 rfl, Kc.out.cell 1 rfl, Kc.out.cell 2 rfl⟩ (fun hHeld => ?_)
  clear hK K
  refine norm_ (a' := ?_) ?_ ?_
  rotate_left
  · show Act.put _ (some 49) _ = _
    simp only [Act.put, List.setIfInBounds_toArray, List.set_cons_zero, List.set_cons_succ, i64_w, i32_w]
    rfl
  refine one_ (i := 26) (N := some 54) #[true, true, true, true, true, true, true, true, true, true, true, true, true, true, true, true, true, true, true, true, true, true, true, true, true, true, true, false, false, false, false, false, false, false, false, false, false, false, false, false] rfl rfl (one_of HT_.out (by kernel_rfl)) (by decide) (fun K hK => ?_)
  refine goes_ Try.func17 (by kernel_rfl) rfl #[.agg #[.int .i64 e, .int .i64 b, .int .i64 p], .int .i64 n, .int .i64 x, .bool t] (by rfl) rfl rfl (by (try simp only [List.map_toArray, List.map_cons, List.map_nil]); first | done | rfl | (simp only [List.length_drop, List.length_take]; rfl)) ?_
  with_reducible refine (judge_ref _ _ _ _ _ _ _).mono ?_
  rintro en w11 ⟨rfl, hb11⟩
  refine ⟨_, rfl, ?_⟩
  have k_s := Ks.out.below hb11
  have k_a := Ka.out.below hb11
  have k_c := Kc.out.below hb11
  have h_ := below_step HB.out hb11
  clear HB hb11 Ks Ka Kc; have HB := Asd.mk h_; clear h_; have Ks := Asd.mk k_s; clear k_s; have Ka := Asd.mk k_a; clear k_a; have Kc := Asd.mk k_c; clear k_c
  refine hK.out _ _ ⟨Ks.out.cell 0 rfl, Ks.out.cell 1 rfl, Ks.out.cell 2 rfl, Ka.out.cell 0 rfl, Ka.out.cell 1 rfl, Ka.out.cell 2 rfl, Kc.out.cell 0 rfl, Kc.out.cell 1 rfl, Kc.out.cell 2 rfl⟩ (fun hHeld => ?_)
  clear hK K
  refine norm_ (a' := ?_) ?_ ?_
  rotate_left
  · show Act.put _ (some 54) _ = _
    simp only [Act.put, List.setIfInBounds_toArray, List.set_cons_zero, List.set_cons_succ, i64_w, i32_w]
    rfl
  refine pure_ (i := 27) (N := some 55) (v := ?_) (a' := ?_) #[true, true, true, true, true, true, true, true, true, true, true, true, true, true, true, true, true, true, true, true, true, true, true, true, true, true, true, true, false, false, false, false, false, false, false, false, false, false, false, false] rfl rfl (any_of HT_.out (by kernel_rfl)) (fun _ _ _ h => h) (Or.inl ⟨by rfl, ?_⟩) ?_ ?_
  rotate_left
  · intro w'
    go_simp
    with_reducible rfl
  rotate_left
  · simp only [Act.put, List.setIfInBounds_toArray, List.set_cons_zero, List.set_cons_succ, i64_w, i32_w]
    rfl
  refine pure_ (i := 28) (N := some 56) (v := ?_) (a' := ?_) #[true, true, true, true, true, true, true, true, true, true, true, true, true, true, true, true, true, true, true, true, true, true, true, true, true, true, true, true, true, false, false, false, false, false, false, false, false, false, false, false] rfl rfl (any_of HT_.out (by kernel_rfl)) (fun _ _ _ h => h) (Or.inl ⟨by rfl, ?_⟩) ?_ ?_
  rotate_left
  · intro w'
    go_simp
    with_reducible rfl
  rotate_left
  · simp only [Act.put, List.setIfInBounds_toArray, List.set_cons_zero, List.set_cons_succ, i64_w, i32_w]
    rfl
  refine pure_ (i := 29) (N := some 57) (v := ?_) (a' := ?_) #[true, true, true, true, true, true, true, true, true, true, true, true, true, true, true, true, true, true, true, true, true, true, true, true, true, true, true, true, true, true, false, false, false, false, false, false, false, false, false, false] rfl rfl (any_of HT_.out (by kernel_rfl)) (fun _ _ _ h => h) (Or.inl ⟨by rfl, ?_⟩) ?_ ?_
  rotate_left
  · intro w'
    go_simp
    with_reducible rfl
  rotate_left
  · simp only [Act.put, List.setIfInBounds_toArray, List.set_cons_zero, List.set_cons_succ, i64_w, i32_w]
    rfl
  refine take_ (i := 30) (N := some 58) (v := ?_) (a' := ?_) #[true, true, true, true, true, true, true, true, true, true, true, true, true, true, true, true, true, true, true, true, true, true, true, true, true, true, true, true, true, true, true, false, false, false, false, false, false, false, false, false] rfl rfl (take_ofW HT_.out HW_.out (by kernel_rfl)) (fun _ _ _ h => h) (Or.inl ⟨by rfl, ?_⟩) hHeld ?_ ?_
  rotate_left
  · rintro w' ⟨s0, s1, s2, s3, s4, s5, s6, s7, s8⟩
    go_simp
    with_reducible rfl
  rotate_left
  · simp only [Act.put, List.setIfInBounds_toArray, List.set_cons_zero, List.set_cons_succ, i64_w, i32_w]
    rfl
  refine take_ (i := 32) (N := some 60) (v := ?_) (a' := ?_) #[true, true, true, true, true, true, true, true, true, true, true, true, true, true, true, true, true, true, true, true, true, true, true, true, true, true, true, true, true, true, true, false, true, false, false, false, false, false, false, false] rfl rfl (take_ofW HT_.out HW_.out (by kernel_rfl)) (fun _ _ _ h => h) (Or.inl ⟨by rfl, ?_⟩) hHeld ?_ ?_
  rotate_left
  · rintro w' ⟨s0, s1, s2, s3, s4, s5, s6, s7, s8⟩
    go_simp
    with_reducible rfl
  rotate_left
  · simp only [Act.put, List.setIfInBounds_toArray, List.set_cons_zero, List.set_cons_succ, i64_w, i32_w]
    rfl
  refine one_ (i := 31) (N := some 59) #[true, true, true, true, true, true, true, true, true, true, true, true, true, true, true, true, true, true, true, true, true, true, true, true, true, true, true, true, true, true, true, true, true, false, false, false, false, false, false, false] rfl rfl (one_of HT_.out (by kernel_rfl)) (by decide) (fun K hK => ?_)
  refine goes_ Try.func18 (by kernel_rfl) rfl #[.agg #[.int .i64 x1, .int .i64 x2, .int .i64 x1]] (by rfl) rfl rfl (by (try simp only [List.map_toArray, List.map_cons, List.map_nil]); first | done | rfl | (simp only [List.length_drop, List.length_take]; rfl)) ?_
  with_reducible refine (from_any _ _ _ _).mono ?_
  rintro en w12 ⟨he, hb12⟩; unfold Agg3 at he; subst he
  refine ⟨_, rfl, ?_⟩
  have k_s := Ks.out.below hb12
  have k_a := Ka.out.below hb12
  have k_c := Kc.out.below hb12
  have h_ := below_step HB.out hb12
  clear HB hb12 Ks Ka Kc; have HB := Asd.mk h_; clear h_; have Ks := Asd.mk k_s; clear k_s; have Ka := Asd.mk k_a; clear k_a; have Kc := Asd.mk k_c; clear k_c
  refine hK.out _ _ ⟨Ks.out.cell 0 rfl, Ks.out.cell 1 rfl, Ks.out.cell 2 rfl, Ka.out.cell 0 rfl, Ka.out.cell 1 rfl, Ka.out.cell 2 rfl, Kc.out.cell 0 rfl, Kc.out.cell 1 rfl, Kc.out.cell 2 rfl⟩ (fun hHeld => ?_)
  clear hK K
  refine norm_ (a' := ?_) ?_ ?_
  rotate_left
  · show Act.put _ (some 59) _ = _
    simp only [Act.put, List.setIfInBounds_toArray, List.set_cons_zero, List.set_cons_succ, i64_w, i32_w]
    rfl
  refine pure_ (i := 33) (N := some 61) (v := ?_) (a' := ?_) #[true, true, true, true, true, true, true, true, true, true, true, true, true, true, true, true, true, true, true, true, true, true, true, true, true, true, true, true, true, true, true, true, true, true, false, false, false, false, false, false] rfl rfl (any_of HT_.out (by kernel_rfl)) (fun _ _ _ h => h) (Or.inl ⟨by rfl, ?_⟩) ?_ ?_
  rotate_left
  · intro w'
    go_simp
    with_reducible rfl
  rotate_left
  · simp only [Act.put, List.setIfInBounds_toArray, List.set_cons_zero, List.set_cons_succ, i64_w, i32_w]
    rfl
  refine pure_ (i := 34) (N := some 62) (v := ?_) (a' := ?_) #[true, true, true, true, true, true, true, true, true, true, true, true, true, true, true, true, true, true, true, true, true, true, true, true, true, true, true, true, true, true, true, true, true, true, true, false, false, false, false, false] rfl rfl (any_of HT_.out (by kernel_rfl)) (fun _ _ _ h => h) (Or.inl ⟨by rfl, ?_⟩) ?_ ?_
  rotate_left
  · intro w'
    go_simp
    with_reducible rfl
  rotate_left
  · simp only [Act.put, List.setIfInBounds_toArray, List.set_cons_zero, List.set_cons_succ, i64_w, i32_w]
    rfl
  refine pure_ (i := 35) (N := some 63) (v := ?_) (a' := ?_) #[true, true, true, true, true, true, true, true, true, true, true, true, true, true, true, true, true, true, true, true, true, true, true, true, true, true, true, true, true, true, true, true, true, true, true, true, false, false, false, false] rfl rfl (any_of HT_.out (by kernel_rfl)) (fun _ _ _ h => h) (Or.inl ⟨by rfl, ?_⟩) ?_ ?_
  rotate_left
  · intro w'
    go_simp
    with_reducible rfl
  rotate_left
  · simp only [Act.put, List.setIfInBounds_toArray, List.set_cons_zero, List.set_cons_succ, i64_w, i32_w]
    rfl
  refine pure_ (i := 36) (N := some 64) (v := ?_) (a' := ?_) #[true, true, true, true, true, true, true, true, true, true, true, true, true, true, true, true, true, true, true, true, true, true, true, true, true, true, true, true, true, true, true, true, true, true, true, true, true, false, false, false] rfl rfl (any_of HT_.out (by kernel_rfl)) (fun _ _ _ h => h) (Or.inl ⟨by rfl, ?_⟩) ?_ ?_
  rotate_left
  · intro w'
    go_simp
    with_reducible rfl
  rotate_left
  · simp only [Act.put, List.setIfInBounds_toArray, List.set_cons_zero, List.set_cons_succ, i64_w, i32_w]
    rfl
  refine pure_ (i := 37) (N := some 65) (v := ?_) (a' := ?_) #[true, true, true, true, true, true, true, true, true, true, true, true, true, true, true, true, true, true, true, true, true, true, true, true, true, true, true, true, true, true, true, true, true, true, true, true, true, true, false, false] rfl rfl (any_of HT_.out (by kernel_rfl)) (fun _ _ _ h => h) (Or.inl ⟨by rfl, ?_⟩) ?_ ?_
  rotate_left
  · intro w'
    go_simp
    with_reducible rfl
  rotate_left
  · simp only [Act.put, List.setIfInBounds_toArray, List.set_cons_zero, List.set_cons_succ, i64_w, i32_w]
    rfl
  refine pure_ (i := 38) (N := some 66) (v := ?_) (a' := ?_) #[true, true, true, true, true, true, true, true, true, true, true, true, true, true, true, true, true, true, true, true, true, true, true, true, true, true, true, true, true, true, true, true, true, true, true, true, true, true, true, false] rfl rfl (any_of HT_.out (by kernel_rfl)) (fun _ _ _ h => h) (Or.inl ⟨by rfl, ?_⟩) ?_ ?_
  rotate_left
  · intro w'
    go_simp
    with_reducible rfl
  rotate_left
  · simp only [Act.put, List.setIfInBounds_toArray, List.set_cons_zero, List.set_cons_succ, i64_w, i32_w]
    rfl
  refine pure_ (i := 39) (N := some 67) (v := ?_) (a' := ?_) #[true, true, true, true, true, true, true, true, true, true, true, true, true, true, true, true, true, true, true, true, true, true, true, true, true, true, true, true, true, true, true, true, true, true, true, true, true, true, true, true] rfl rfl (any_of HT_.out (by kernel_rfl)) (fun _ _ _ h => h) (Or.inl ⟨by rfl, ?_⟩) ?_ ?_
  rotate_left
  · intro w'
    go_simp
    with_reducible rfl
  rotate_left
  · simp only [Act.put, List.setIfInBounds_toArray, List.set_cons_zero, List.set_cons_succ, i64_w, i32_w]
    rfl
  refine done_ (done_of HT_.out (by kernel_rfl)) ?_
  have Z : w.heap.size ≤ w12.heap.size := HB.out.size
  have Ls := Ks.out.lt; have cs0 := Ks.out.cell 0 rfl; have fs0 := Ks.out.frozen 0; have cs1 := Ks.out.cell 1 rfl; have fs1 := Ks.out.frozen 1; have cs2 := Ks.out.cell 2 rfl; have fs2 := Ks.out.frozen 2
  have La := Ka.out.lt; have ca0 := Ka.out.cell 0 rfl; have fa0 := Ka.out.frozen 0; have ca1 := Ka.out.cell 1 rfl; have fa1 := Ka.out.frozen 1; have ca2 := Ka.out.cell 2 rfl; have fa2 := Ka.out.frozen 2
  have Lc := Kc.out.lt; have cc0 := Kc.out.cell 0 rfl; have fc0 := Kc.out.frozen 0; have cc1 := Kc.out.cell 1 rfl; have fc1 := Kc.out.frozen 1; have cc2 := Kc.out.cell 2 rfl; have fc2 := Kc.out.frozen 2
  cases hr : rightB e b p
  · go_wp2_with fail
    have k_s := Ks.out.drew
    have k_a := Ka.out.drew
    have k_c := Kc.out.drew
    have h_ := below_drew HB.out
    refine start_ (n := 24) (S := fun w' => w'.cell? ⟨w.heap.size, 0, none⟩ = some (.int .i64 e) ∧ w'.cell? ⟨w.heap.size, 1, none⟩ = some (.int .i64 b) ∧ w'.cell? ⟨w.heap.size, 2, none⟩ = some (.int .i64 p) ∧ w'.cell? ⟨w2.heap.size, 0, none⟩ = some (.int .i64 x1) ∧ w'.cell? ⟨w2.heap.size, 1, none⟩ = some (.int .i64 x2) ∧ w'.cell? ⟨w2.heap.size, 2, none⟩ = some (.int .i64 x1) ∧ w'.cell? ⟨w3.heap.size, 0, none⟩ = some (.int .i64 x1) ∧ w'.cell? ⟨w3.heap.size, 1, none⟩ = some (.int .i64 x2) ∧ w'.cell? ⟨w3.heap.size, 2, none⟩ = some (.int .i64 x1)) (ds := []) #[false, false, false, false, false, false, false, false, false, false, false, false, false, false, false, false, false, false, false, false, false, false, false, false] (by kernel_rfl) rfl rfl ⟨k_s.cell 0 rfl, k_s.cell 1 rfl, k_s.cell 2 rfl, k_a.cell 0 rfl, k_a.cell 1 rfl, k_a.cell 2 rfl, k_c.cell 0 rfl, k_c.cell 1 rfl, k_c.cell 2 rfl⟩ (fun hHeld => ?_); refine with_tabW tells5tab tells5bits (fun HT_ HW_ => ?_)
    clear HB Ks Ka Kc
    generalize w12.drew = w13 at k_s k_a k_c h_ hHeld ⊢
    have HB := Asd.mk h_; clear h_; have Ks := Asd.mk k_s; clear k_s; have Ka := Asd.mk k_a; clear k_a; have Kc := Asd.mk k_c; clear k_c
    clear Ls La Lc cs0 fs0 cs1 fs1 cs2 fs2 ca0 fa0 ca1 fa1 ca2 fa2 cc0 fc0 cc1 fc1 cc2 fc2
    refine take_ (i := 0) (N := some 68) (v := ?_) (a' := ?_) #[true, false, false, false, false, false, false, false, false, false, false, false, false, false, false, false, false, false, false, false, false, false, false, false] rfl rfl (take_ofW HT_.out HW_.out (by kernel_rfl)) (fun _ _ _ h => h) (Or.inl ⟨by rfl, ?_⟩) hHeld ?_ ?_
    rotate_left
    · rintro w' ⟨s0, s1, s2, s3, s4, s5, s6, s7, s8⟩
      go_simp
      with_reducible rfl
    rotate_left
    · simp only [Act.put, List.setIfInBounds_toArray, List.set_cons_zero, List.set_cons_succ, i64_w, i32_w]
      rfl
    refine one_ (i := 1) (N := some 69) #[true, true, false, false, false, false, false, false, false, false, false, false, false, false, false, false, false, false, false, false, false, false, false, false] rfl rfl (one_of HT_.out (by kernel_rfl)) (by decide) (fun K hK => ?_)
    refine goes_ Try.func11 (by kernel_rfl) rfl #[.agg #[.int .i64 e, .int .i64 b, .int .i64 p]] (by rfl) rfl rfl (by (try simp only [List.map_toArray, List.map_cons, List.map_nil]); first | done | rfl | (simp only [List.length_drop, List.length_take]; rfl)) ?_
    with_reducible refine (right_ref_at hr _).mono ?_
    rintro en w14 ⟨rfl, hb14⟩
    refine ⟨_, rfl, ?_⟩
    have k_s := Ks.out.below hb14
    have k_a := Ka.out.below hb14
    have k_c := Kc.out.below hb14
    have h_ := below_step HB.out hb14
    clear HB hb14 Ks Ka Kc; have HB := Asd.mk h_; clear h_; have Ks := Asd.mk k_s; clear k_s; have Ka := Asd.mk k_a; clear k_a; have Kc := Asd.mk k_c; clear k_c
    refine hK.out _ _ ⟨Ks.out.cell 0 rfl, Ks.out.cell 1 rfl, Ks.out.cell 2 rfl, Ka.out.cell 0 rfl, Ka.out.cell 1 rfl, Ka.out.cell 2 rfl, Kc.out.cell 0 rfl, Kc.out.cell 1 rfl, Kc.out.cell 2 rfl⟩ (fun hHeld => ?_)
    clear hK K
    refine norm_ (a' := ?_) ?_ ?_
    rotate_left
    · show Act.put _ (some 69) _ = _
      simp only [Act.put, List.setIfInBounds_toArray, List.set_cons_zero, List.set_cons_succ, i64_w, i32_w]
      rfl
    refine pure_ (i := 2) (N := some 70) (v := ?_) (a' := ?_) #[true, true, true, false, false, false, false, false, false, false, false, false, false, false, false, false, false, false, false, false, false, false, false, false] rfl rfl (any_of HT_.out (by kernel_rfl)) (fun _ _ _ h => h) (Or.inl ⟨by rfl, ?_⟩) ?_ ?_
    rotate_left
    · intro w'
      go_simp
      with_reducible rfl
    rotate_left
    · simp only [Act.put, List.setIfInBounds_toArray, List.set_cons_zero, List.set_cons_succ, i64_w, i32_w]
      rfl
    refine pure_ (i := 3) (N := some 71) (v := ?_) (a' := ?_) #[true, true, true, true, false, false, false, false, false, false, false, false, false, false, false, false, false, false, false, false, false, false, false, false] rfl rfl (any_of HT_.out (by kernel_rfl)) (fun _ _ _ h => h) (Or.inl ⟨by rfl, ?_⟩) ?_ ?_
    rotate_left
    · intro w'
      go_simp
      with_reducible rfl
    rotate_left
    · simp only [Act.put, List.setIfInBounds_toArray, List.set_cons_zero, List.set_cons_succ, i64_w, i32_w]
      rfl
    refine pure_ (i := 4) (N := some 72) (v := undef) (a' := ?_) #[true, true, true, true, true, false, false, false, false, false, false, false, false, false, false, false, false, false, false, false, false, false, false, false] rfl rfl (any_of HT_.out (by kernel_rfl)) (fun _ _ _ h => h) (Or.inr ⟨by rfl, rfl⟩) ?_ ?_
    rotate_left
    · simp only [Act.put, List.setIfInBounds_toArray, List.set_cons_zero, List.set_cons_succ, i64_w, i32_w]
      rfl
    refine pure_ (i := 5) (N := some 73) (v := undef) (a' := ?_) #[true, true, true, true, true, true, false, false, false, false, false, false, false, false, false, false, false, false, false, false, false, false, false, false] rfl rfl (any_of HT_.out (by kernel_rfl)) (fun _ _ _ h => h) (Or.inr ⟨by rfl, rfl⟩) ?_ ?_
    rotate_left
    · simp only [Act.put, List.setIfInBounds_toArray, List.set_cons_zero, List.set_cons_succ, i64_w, i32_w]
      rfl
    refine pure_ (i := 6) (N := some 74) (v := undef) (a' := ?_) #[true, true, true, true, true, true, true, false, false, false, false, false, false, false, false, false, false, false, false, false, false, false, false, false] rfl rfl (any_of HT_.out (by kernel_rfl)) (fun _ _ _ h => h) (Or.inr ⟨by rfl, rfl⟩) ?_ ?_
    rotate_left
    · simp only [Act.put, List.setIfInBounds_toArray, List.set_cons_zero, List.set_cons_succ, i64_w, i32_w]
      rfl
    refine pure_ (i := 7) (N := some 75) (v := undef) (a' := ?_) #[true, true, true, true, true, true, true, true, false, false, false, false, false, false, false, false, false, false, false, false, false, false, false, false] rfl rfl (any_of HT_.out (by kernel_rfl)) (fun _ _ _ h => h) (Or.inr ⟨by rfl, rfl⟩) ?_ ?_
    rotate_left
    · simp only [Act.put, List.setIfInBounds_toArray, List.set_cons_zero, List.set_cons_succ, i64_w, i32_w]
      rfl
    refine pure_ (i := 8) (N := some 76) (v := undef) (a' := ?_) #[true, true, true, true, true, true, true, true, true, false, false, false, false, false, false, false, false, false, false, false, false, false, false, false] rfl rfl (any_of HT_.out (by kernel_rfl)) (fun _ _ _ h => h) (Or.inr ⟨by rfl, rfl⟩) ?_ ?_
    rotate_left
    · simp only [Act.put, List.setIfInBounds_toArray, List.set_cons_zero, List.set_cons_succ, i64_w, i32_w]
      rfl
    refine pure_ (i := 9) (N := some 77) (v := undef) (a' := ?_) #[true, true, true, true, true, true, true, true, true, true, false, false, false, false, false, false, false, false, false, false, false, false, false, false] rfl rfl (any_of HT_.out (by kernel_rfl)) (fun _ _ _ h => h) (Or.inr ⟨by rfl, rfl⟩) ?_ ?_
    rotate_left
    · simp only [Act.put, List.setIfInBounds_toArray, List.set_cons_zero, List.set_cons_succ, i64_w, i32_w]
      rfl
    refine pure_ (i := 10) (N := some 78) (v := undef) (a' := ?_) #[true, true, true, true, true, true, true, true, true, true, true, false, false, false, false, false, false, false, false, false, false, false, false, false] rfl rfl (any_of HT_.out (by kernel_rfl)) (fun _ _ _ h => h) (Or.inr ⟨by rfl, rfl⟩) ?_ ?_
    rotate_left
    · simp only [Act.put, List.setIfInBounds_toArray, List.set_cons_zero, List.set_cons_succ, i64_w, i32_w]
      rfl
    refine pure_ (i := 11) (N := some 79) (v := undef) (a' := ?_) #[true, true, true, true, true, true, true, true, true, true, true, true, false, false, false, false, false, false, false, false, false, false, false, false] rfl rfl (any_of HT_.out (by kernel_rfl)) (fun _ _ _ h => h) (Or.inr ⟨by rfl, rfl⟩) ?_ ?_
    rotate_left
    · simp only [Act.put, List.setIfInBounds_toArray, List.set_cons_zero, List.set_cons_succ, i64_w, i32_w]
      rfl
    refine pure_ (i := 12) (N := some 80) (v := undef) (a' := ?_) #[true, true, true, true, true, true, true, true, true, true, true, true, true, false, false, false, false, false, false, false, false, false, false, false] rfl rfl (any_of HT_.out (by kernel_rfl)) (fun _ _ _ h => h) (Or.inr ⟨by rfl, rfl⟩) ?_ ?_
    rotate_left
    · simp only [Act.put, List.setIfInBounds_toArray, List.set_cons_zero, List.set_cons_succ, i64_w, i32_w]
      rfl
    refine pure_ (i := 13) (N := some 81) (v := undef) (a' := ?_) #[true, true, true, true, true, true, true, true, true, true, true, true, true, true, false, false, false, false, false, false, false, false, false, false] rfl rfl (any_of HT_.out (by kernel_rfl)) (fun _ _ _ h => h) (Or.inr ⟨by rfl, rfl⟩) ?_ ?_
    rotate_left
    · simp only [Act.put, List.setIfInBounds_toArray, List.set_cons_zero, List.set_cons_succ, i64_w, i32_w]
      rfl
    refine pure_ (i := 14) (N := some 82) (v := undef) (a' := ?_) #[true, true, true, true, true, true, true, true, true, true, true, true, true, true, true, false, false, false, false, false, false, false, false, false] rfl rfl (any_of HT_.out (by kernel_rfl)) (fun _ _ _ h => h) (Or.inr ⟨by rfl, rfl⟩) ?_ ?_
    rotate_left
    · simp only [Act.put, List.setIfInBounds_toArray, List.set_cons_zero, List.set_cons_succ, i64_w, i32_w]
      rfl
    refine pure_ (i := 15) (N := some 83) (v := undef) (a' := ?_) #[true, true, true, true, true, true, true, true, true, true, true, true, true, true, true, true, false, false, false, false, false, false, false, false] rfl rfl (any_of HT_.out (by kernel_rfl)) (fun _ _ _ h => h) (Or.inr ⟨by rfl, rfl⟩) ?_ ?_
    rotate_left
    · simp only [Act.put, List.setIfInBounds_toArray, List.set_cons_zero, List.set_cons_succ, i64_w, i32_w]
      rfl
    refine pure_ (i := 16) (N := some 84) (v := undef) (a' := ?_) #[true, true, true, true, true, true, true, true, true, true, true, true, true, true, true, true, true, false, false, false, false, false, false, false] rfl rfl (any_of HT_.out (by kernel_rfl)) (fun _ _ _ h => h) (Or.inr ⟨by rfl, rfl⟩) ?_ ?_
    rotate_left
    · simp only [Act.put, List.setIfInBounds_toArray, List.set_cons_zero, List.set_cons_succ, i64_w, i32_w]
      rfl
    refine pure_ (i := 17) (N := some 85) (v := undef) (a' := ?_) #[true, true, true, true, true, true, true, true, true, true, true, true, true, true, true, true, true, true, false, false, false, false, false, false] rfl rfl (any_of HT_.out (by kernel_rfl)) (fun _ _ _ h => h) (Or.inr ⟨by rfl, rfl⟩) ?_ ?_
    rotate_left
    · simp only [Act.put, List.setIfInBounds_toArray, List.set_cons_zero, List.set_cons_succ, i64_w, i32_w]
      rfl
    refine pure_ (i := 18) (N := some 86) (v := undef) (a' := ?_) #[true, true, true, true, true, true, true, true, true, true, true, true, true, true, true, true, true, true, true, false, false, false, false, false] rfl rfl (any_of HT_.out (by kernel_rfl)) (fun _ _ _ h => h) (Or.inr ⟨by rfl, rfl⟩) ?_ ?_
    rotate_left
    · simp only [Act.put, List.setIfInBounds_toArray, List.set_cons_zero, List.set_cons_succ, i64_w, i32_w]
      rfl
    refine pure_ (i := 19) (N := some 87) (v := undef) (a' := ?_) #[true, true, true, true, true, true, true, true, true, true, true, true, true, true, true, true, true, true, true, true, false, false, false, false] rfl rfl (any_of HT_.out (by kernel_rfl)) (fun _ _ _ h => h) (Or.inr ⟨by rfl, rfl⟩) ?_ ?_
    rotate_left
    · simp only [Act.put, List.setIfInBounds_toArray, List.set_cons_zero, List.set_cons_succ, i64_w, i32_w]
      rfl
    refine pure_ (i := 20) (N := some 88) (v := undef) (a' := ?_) #[true, true, true, true, true, true, true, true, true, true, true, true, true, true, true, true, true, true, true, true, true, false, false, false] rfl rfl (any_of HT_.out (by kernel_rfl)) (fun _ _ _ h => h) (Or.inr ⟨by rfl, rfl⟩) ?_ ?_
    rotate_left
    · simp only [Act.put, List.setIfInBounds_toArray, List.set_cons_zero, List.set_cons_succ, i64_w, i32_w]
      rfl
    refine pure_ (i := 21) (N := some 89) (v := undef) (a' := ?_) #[true, true, true, true, true, true, true, true, true, true, true, true, true, true, true, true, true, true, true, true, true, true, false, false] rfl rfl (any_of HT_.out (by kernel_rfl)) (fun _ _ _ h => h) (Or.inr ⟨by rfl, rfl⟩) ?_ ?_
    rotate_left
    · simp only [Act.put, List.setIfInBounds_toArray, List.set_cons_zero, List.set_cons_succ, i64_w, i32_w]
      rfl
    refine pure_ (i := 22) (N := some 90) (v := ?_) (a' := ?_) #[true, true, true, true, true, true, true, true, true, true, true, true, true, true, true, true, true, true, true, true, true, true, true, false] rfl rfl (any_of HT_.out (by kernel_rfl)) (fun _ _ _ h => h) (Or.inl ⟨by rfl, ?_⟩) ?_ ?_
    rotate_left
    · intro w'
      go_simp
      with_reducible rfl
    rotate_left
    · simp only [Act.put, List.setIfInBounds_toArray, List.set_cons_zero, List.set_cons_succ, i64_w, i32_w]
      rfl
    refine pure_ (i := 23) (N := some 8) (v := ?_) (a' := ?_) #[true, true, true, true, true, true, true, true, true, true, true, true, true, true, true, true, true, true, true, true, true, true, true, true] rfl rfl (any_of HT_.out (by kernel_rfl)) (fun _ _ _ h => h) (Or.inl ⟨by rfl, ?_⟩) ?_ ?_
    rotate_left
    · intro w'
      go_simp
      with_reducible rfl
    rotate_left
    · simp only [Act.put, List.setIfInBounds_toArray, List.set_cons_zero, List.set_cons_succ, i64_w, i32_w]
      rfl
    refine done_ (done_of HT_.out (by kernel_rfl)) ?_
    have Z : w.heap.size ≤ w14.heap.size := HB.out.size
    have Ls := Ks.out.lt; have cs0 := Ks.out.cell 0 rfl; have fs0 := Ks.out.frozen 0; have cs1 := Ks.out.cell 1 rfl; have fs1 := Ks.out.frozen 1; have cs2 := Ks.out.cell 2 rfl; have fs2 := Ks.out.frozen 2
    have La := Ka.out.lt; have ca0 := Ka.out.cell 0 rfl; have fa0 := Ka.out.frozen 0; have ca1 := Ka.out.cell 1 rfl; have fa1 := Ka.out.frozen 1; have ca2 := Ka.out.cell 2 rfl; have fa2 := Ka.out.frozen 2
    have Lc := Kc.out.lt; have cc0 := Kc.out.cell 0 rfl; have fc0 := Kc.out.frozen 0; have cc1 := Kc.out.cell 1 rfl; have fc1 := Kc.out.frozen 1; have cc2 := Kc.out.cell 2 rfl; have fc2 := Kc.out.frozen 2
    go_wp2_with fail
    go_ret
    exact ⟨rfl, HB.out⟩
  · go_wp2_with fail
    have k_s := Ks.out.drew
    have k_a := Ka.out.drew
    have k_c := Kc.out.drew
    have h_ := below_drew HB.out
    refine start_ (n := 24) (S := fun w' => w'.cell? ⟨w.heap.size, 0, none⟩ = some (.int .i64 e) ∧ w'.cell? ⟨w.heap.size, 1, none⟩ = some (.int .i64 b) ∧ w'.cell? ⟨w.heap.size, 2, none⟩ = some (.int .i64 p) ∧ w'.cell? ⟨w2.heap.size, 0, none⟩ = some (.int .i64 x1) ∧ w'.cell? ⟨w2.heap.size, 1, none⟩ = some (.int .i64 x2) ∧ w'.cell? ⟨w2.heap.size, 2, none⟩ = some (.int .i64 x1) ∧ w'.cell? ⟨w3.heap.size, 0, none⟩ = some (.int .i64 x1) ∧ w'.cell? ⟨w3.heap.size, 1, none⟩ = some (.int .i64 x2) ∧ w'.cell? ⟨w3.heap.size, 2, none⟩ = some (.int .i64 x1)) (ds := []) #[false, false, false, false, false, false, false, false, false, false, false, false, false, false, false, false, false, false, false, false, false, false, false, false] (by kernel_rfl) rfl rfl ⟨k_s.cell 0 rfl, k_s.cell 1 rfl, k_s.cell 2 rfl, k_a.cell 0 rfl, k_a.cell 1 rfl, k_a.cell 2 rfl, k_c.cell 0 rfl, k_c.cell 1 rfl, k_c.cell 2 rfl⟩ (fun hHeld => ?_); refine with_tabW tells5tab tells5bits (fun HT_ HW_ => ?_)
    clear HB Ks Ka Kc
    generalize w12.drew = w13 at k_s k_a k_c h_ hHeld ⊢
    have HB := Asd.mk h_; clear h_; have Ks := Asd.mk k_s; clear k_s; have Ka := Asd.mk k_a; clear k_a; have Kc := Asd.mk k_c; clear k_c
    clear Ls La Lc cs0 fs0 cs1 fs1 cs2 fs2 ca0 fa0 ca1 fa1 ca2 fa2 cc0 fc0 cc1 fc1 cc2 fc2
    refine take_ (i := 0) (N := some 68) (v := ?_) (a' := ?_) #[true, false, false, false, false, false, false, false, false, false, false, false, false, false, false, false, false, false, false, false, false, false, false, false] rfl rfl (take_ofW HT_.out HW_.out (by kernel_rfl)) (fun _ _ _ h => h) (Or.inl ⟨by rfl, ?_⟩) hHeld ?_ ?_
    rotate_left
    · rintro w' ⟨s0, s1, s2, s3, s4, s5, s6, s7, s8⟩
      go_simp
      with_reducible rfl
    rotate_left
    · simp only [Act.put, List.setIfInBounds_toArray, List.set_cons_zero, List.set_cons_succ, i64_w, i32_w]
      rfl
    refine one_ (i := 1) (N := some 69) #[true, true, false, false, false, false, false, false, false, false, false, false, false, false, false, false, false, false, false, false, false, false, false, false] rfl rfl (one_of HT_.out (by kernel_rfl)) (by decide) (fun K hK => ?_)
    refine goes_ Try.func11 (by kernel_rfl) rfl #[.agg #[.int .i64 e, .int .i64 b, .int .i64 p]] (by rfl) rfl rfl (by (try simp only [List.map_toArray, List.map_cons, List.map_nil]); first | done | rfl | (simp only [List.length_drop, List.length_take]; rfl)) ?_
    with_reducible refine (right_ref_at hr _).mono ?_
    rintro en w14 ⟨rfl, hb14⟩
    refine ⟨_, rfl, ?_⟩
    have k_s := Ks.out.below hb14
    have k_a := Ka.out.below hb14
    have k_c := Kc.out.below hb14
    have h_ := below_step HB.out hb14
    clear HB hb14 Ks Ka Kc; have HB := Asd.mk h_; clear h_; have Ks := Asd.mk k_s; clear k_s; have Ka := Asd.mk k_a; clear k_a; have Kc := Asd.mk k_c; clear k_c
    refine hK.out _ _ ⟨Ks.out.cell 0 rfl, Ks.out.cell 1 rfl, Ks.out.cell 2 rfl, Ka.out.cell 0 rfl, Ka.out.cell 1 rfl, Ka.out.cell 2 rfl, Kc.out.cell 0 rfl, Kc.out.cell 1 rfl, Kc.out.cell 2 rfl⟩ (fun hHeld => ?_)
    clear hK K
    refine norm_ (a' := ?_) ?_ ?_
    rotate_left
    · show Act.put _ (some 69) _ = _
      simp only [Act.put, List.setIfInBounds_toArray, List.set_cons_zero, List.set_cons_succ, i64_w, i32_w]
      rfl
    refine pure_ (i := 2) (N := some 70) (v := ?_) (a' := ?_) #[true, true, true, false, false, false, false, false, false, false, false, false, false, false, false, false, false, false, false, false, false, false, false, false] rfl rfl (any_of HT_.out (by kernel_rfl)) (fun _ _ _ h => h) (Or.inl ⟨by rfl, ?_⟩) ?_ ?_
    rotate_left
    · intro w'
      go_simp
      with_reducible rfl
    rotate_left
    · simp only [Act.put, List.setIfInBounds_toArray, List.set_cons_zero, List.set_cons_succ, i64_w, i32_w]
      rfl
    refine pure_ (i := 3) (N := some 71) (v := ?_) (a' := ?_) #[true, true, true, true, false, false, false, false, false, false, false, false, false, false, false, false, false, false, false, false, false, false, false, false] rfl rfl (any_of HT_.out (by kernel_rfl)) (fun _ _ _ h => h) (Or.inl ⟨by rfl, ?_⟩) ?_ ?_
    rotate_left
    · intro w'
      go_simp
      with_reducible rfl
    rotate_left
    · simp only [Act.put, List.setIfInBounds_toArray, List.set_cons_zero, List.set_cons_succ, i64_w, i32_w]
      rfl
    refine take_ (i := 4) (N := some 72) (v := ?_) (a' := ?_) #[true, true, true, true, true, false, false, false, false, false, false, false, false, false, false, false, false, false, false, false, false, false, false, false] rfl rfl (take_ofW HT_.out HW_.out (by kernel_rfl)) (fun _ _ _ h => h) (Or.inl ⟨by rfl, ?_⟩) hHeld ?_ ?_
    rotate_left
    · rintro w' ⟨s0, s1, s2, s3, s4, s5, s6, s7, s8⟩
      go_simp
      with_reducible rfl
    rotate_left
    · simp only [Act.put, List.setIfInBounds_toArray, List.set_cons_zero, List.set_cons_succ, i64_w, i32_w]
      rfl
    refine take_ (i := 8) (N := some 76) (v := ?_) (a' := ?_) #[true, true, true, true, true, false, false, false, true, false, false, false, false, false, false, false, false, false, false, false, false, false, false, false] rfl rfl (take_ofW HT_.out HW_.out (by kernel_rfl)) (fun _ _ _ h => h) (Or.inl ⟨by rfl, ?_⟩) hHeld ?_ ?_
    rotate_left
    · rintro w' ⟨s0, s1, s2, s3, s4, s5, s6, s7, s8⟩
      go_simp
      with_reducible rfl
    rotate_left
    · simp only [Act.put, List.setIfInBounds_toArray, List.set_cons_zero, List.set_cons_succ, i64_w, i32_w]
      rfl
    refine one_ (i := 5) (N := some 73) #[true, true, true, true, true, true, false, false, true, false, false, false, false, false, false, false, false, false, false, false, false, false, false, false] rfl rfl (one_of HT_.out (by kernel_rfl)) (by decide) (fun K hK => ?_)
    refine goes_ Try.func10 (by kernel_rfl) rfl #[.agg #[.int .i64 e, .int .i64 b, .int .i64 p]] (by rfl) rfl rfl (by (try simp only [List.map_toArray, List.map_cons, List.map_nil]); first | done | rfl | (simp only [List.length_drop, List.length_take]; rfl)) ?_
    with_reducible refine (to_any _ _ _ _).mono ?_
    rintro en w15 ⟨he, hb15⟩; unfold Agg3 at he; subst he
    refine ⟨_, rfl, ?_⟩
    have k_s := Ks.out.below hb15
    have k_a := Ka.out.below hb15
    have k_c := Kc.out.below hb15
    have h_ := below_step HB.out hb15
    clear HB hb15 Ks Ka Kc; have HB := Asd.mk h_; clear h_; have Ks := Asd.mk k_s; clear k_s; have Ka := Asd.mk k_a; clear k_a; have Kc := Asd.mk k_c; clear k_c
    refine hK.out _ _ ⟨Ks.out.cell 0 rfl, Ks.out.cell 1 rfl, Ks.out.cell 2 rfl, Ka.out.cell 0 rfl, Ka.out.cell 1 rfl, Ka.out.cell 2 rfl, Kc.out.cell 0 rfl, Kc.out.cell 1 rfl, Kc.out.cell 2 rfl⟩ (fun hHeld => ?_)
    clear hK K
    refine norm_ (a' := ?_) ?_ ?_
    rotate_left
    · show Act.put _ (some 73) _ = _
      simp only [Act.put, List.setIfInBounds_toArray, List.set_cons_zero, List.set_cons_succ, i64_w, i32_w]
      rfl
    refine one_ (i := 6) (N := some 74) #[true, true, true, true, true, true, true, false, true, false, false, false, false, false, false, false, false, false, false, false, false, false, false, false] rfl rfl (one_of HT_.out (by kernel_rfl)) (by decide) (fun K hK => ?_)
    refine goes_ Try.func19 (by kernel_rfl) rfl #[.agg #[.int .i64 e, .int .i64 b, .int .i64 p]] (by rfl) rfl rfl (by (try simp only [List.map_toArray, List.map_cons, List.map_nil]); first | done | rfl | (simp only [List.length_drop, List.length_take]; rfl)) ?_
    with_reducible refine (promises_any _ _ _ _).mono ?_
    rintro en w16 ⟨he, hb16⟩; unfold Agg3 at he; subst he
    refine ⟨_, rfl, ?_⟩
    have k_s := Ks.out.below hb16
    have k_a := Ka.out.below hb16
    have k_c := Kc.out.below hb16
    have h_ := below_step HB.out hb16
    clear HB hb16 Ks Ka Kc; have HB := Asd.mk h_; clear h_; have Ks := Asd.mk k_s; clear k_s; have Ka := Asd.mk k_a; clear k_a; have Kc := Asd.mk k_c; clear k_c
    refine hK.out _ _ ⟨Ks.out.cell 0 rfl, Ks.out.cell 1 rfl, Ks.out.cell 2 rfl, Ka.out.cell 0 rfl, Ka.out.cell 1 rfl, Ka.out.cell 2 rfl, Kc.out.cell 0 rfl, Kc.out.cell 1 rfl, Kc.out.cell 2 rfl⟩ (fun hHeld => ?_)
    clear hK K
    refine norm_ (a' := ?_) ?_ ?_
    rotate_left
    · show Act.put _ (some 74) _ = _
      simp only [Act.put, List.setIfInBounds_toArray, List.set_cons_zero, List.set_cons_succ, i64_w, i32_w]
      rfl
    refine one_ (i := 7) (N := some 75) #[true, true, true, true, true, true, true, true, true, false, false, false, false, false, false, false, false, false, false, false, false, false, false, false] rfl rfl (one_of HT_.out (by kernel_rfl)) (by decide) (fun K hK => ?_)
    refine goes_ Try.func18 (by kernel_rfl) rfl #[.agg #[.int .i64 e, .int .i64 b, .int .i64 (wrap64 (e + 1))]] (by rfl) rfl rfl (by (try simp only [List.map_toArray, List.map_cons, List.map_nil]); first | done | rfl | (simp only [List.length_drop, List.length_take]; rfl)) ?_
    with_reducible refine (from_any _ _ _ _).mono ?_
    rintro en w17 ⟨he, hb17⟩; unfold Agg3 at he; subst he
    refine ⟨_, rfl, ?_⟩
    have k_s := Ks.out.below hb17
    have k_a := Ka.out.below hb17
    have k_c := Kc.out.below hb17
    have h_ := below_step HB.out hb17
    clear HB hb17 Ks Ka Kc; have HB := Asd.mk h_; clear h_; have Ks := Asd.mk k_s; clear k_s; have Ka := Asd.mk k_a; clear k_a; have Kc := Asd.mk k_c; clear k_c
    refine hK.out _ _ ⟨Ks.out.cell 0 rfl, Ks.out.cell 1 rfl, Ks.out.cell 2 rfl, Ka.out.cell 0 rfl, Ka.out.cell 1 rfl, Ka.out.cell 2 rfl, Kc.out.cell 0 rfl, Kc.out.cell 1 rfl, Kc.out.cell 2 rfl⟩ (fun hHeld => ?_)
    clear hK K
    refine norm_ (a' := ?_) ?_ ?_
    rotate_left
    · show Act.put _ (some 75) _ = _
      simp only [Act.put, List.setIfInBounds_toArray, List.set_cons_zero, List.set_cons_succ, i64_w, i32_w]
      rfl
    refine one_ (i := 9) (N := some 77) #[true, true, true, true, true, true, true, true, true, true, false, false, false, false, false, false, false, false, false, false, false, false, false, false] rfl rfl (one_of HT_.out (by kernel_rfl)) (by decide) (fun K hK => ?_)
    refine goes_ Try.func20 (by kernel_rfl) rfl #[.agg #[.int .i64 e, .int .i64 b, .int .i64 p]] (by rfl) rfl rfl (by (try simp only [List.map_toArray, List.map_cons, List.map_nil]); first | done | rfl | (simp only [List.length_drop, List.length_take]; rfl)) ?_
    with_reducible refine (promises_ref _ _ _ _).mono ?_
    rintro en w18 ⟨he, hb18⟩; unfold Agg3 at he; subst he
    refine ⟨_, rfl, ?_⟩
    have k_s := Ks.out.below hb18
    have k_a := Ka.out.below hb18
    have k_c := Kc.out.below hb18
    have h_ := below_step HB.out hb18
    clear HB hb18 Ks Ka Kc; have HB := Asd.mk h_; clear h_; have Ks := Asd.mk k_s; clear k_s; have Ka := Asd.mk k_a; clear k_a; have Kc := Asd.mk k_c; clear k_c
    refine hK.out _ _ ⟨Ks.out.cell 0 rfl, Ks.out.cell 1 rfl, Ks.out.cell 2 rfl, Ka.out.cell 0 rfl, Ka.out.cell 1 rfl, Ka.out.cell 2 rfl, Kc.out.cell 0 rfl, Kc.out.cell 1 rfl, Kc.out.cell 2 rfl⟩ (fun hHeld => ?_)
    clear hK K
    refine norm_ (a' := ?_) ?_ ?_
    rotate_left
    · show Act.put _ (some 77) _ = _
      simp only [Act.put, List.setIfInBounds_toArray, List.set_cons_zero, List.set_cons_succ, i64_w, i32_w]
      rfl
    refine pure_ (i := 10) (N := some 78) (v := ?_) (a' := ?_) #[true, true, true, true, true, true, true, true, true, true, true, false, false, false, false, false, false, false, false, false, false, false, false, false] rfl rfl (any_of HT_.out (by kernel_rfl)) (fun _ _ _ h => h) (Or.inl ⟨by rfl, ?_⟩) ?_ ?_
    rotate_left
    · intro w'
      go_simp
      with_reducible rfl
    rotate_left
    · simp only [Act.put, List.setIfInBounds_toArray, List.set_cons_zero, List.set_cons_succ, i64_w, i32_w]
      rfl
    refine pure_ (i := 11) (N := some 79) (v := ?_) (a' := ?_) #[true, true, true, true, true, true, true, true, true, true, true, true, false, false, false, false, false, false, false, false, false, false, false, false] rfl rfl (any_of HT_.out (by kernel_rfl)) (fun _ _ _ h => h) (Or.inl ⟨by rfl, ?_⟩) ?_ ?_
    rotate_left
    · intro w'
      go_simp
      with_reducible rfl
    rotate_left
    · simp only [Act.put, List.setIfInBounds_toArray, List.set_cons_zero, List.set_cons_succ, i64_w, i32_w]
      rfl
    refine pure_ (i := 14) (N := some 82) (v := ?_) (a' := ?_) #[true, true, true, true, true, true, true, true, true, true, true, true, false, false, true, false, false, false, false, false, false, false, false, false] rfl rfl (any_of HT_.out (by kernel_rfl)) (fun _ _ _ h => h) (Or.inl ⟨by rfl, ?_⟩) ?_ ?_
    rotate_left
    · intro w'
      go_simp
      with_reducible rfl
    rotate_left
    · simp only [Act.put, List.setIfInBounds_toArray, List.set_cons_zero, List.set_cons_succ, i64_w, i32_w]
      rfl
    refine pure_ (i := 18) (N := some 86) (v := ?_) (a' := ?_) #[true, true, true, true, true, true, true, true, true, true, true, true, false, false, true, false, false, false, true, false, false, false, false, false] rfl rfl (any_of HT_.out (by kernel_rfl)) (fun _ _ _ h => h) (Or.inl ⟨by rfl, ?_⟩) ?_ ?_
    rotate_left
    · intro w'
      go_simp
      with_reducible rfl
    rotate_left
    · simp only [Act.put, List.setIfInBounds_toArray, List.set_cons_zero, List.set_cons_succ, i64_w, i32_w]
      rfl
    refine take_ (i := 12) (N := some 80) (v := ?_) (a' := ?_) #[true, true, true, true, true, true, true, true, true, true, true, true, true, false, true, false, false, false, true, false, false, false, false, false] rfl rfl (take_ofW HT_.out HW_.out (by kernel_rfl)) (fun _ _ _ h => h) (Or.inl ⟨by rfl, ?_⟩) hHeld ?_ ?_
    rotate_left
    · rintro w' ⟨s0, s1, s2, s3, s4, s5, s6, s7, s8⟩
      go_simp
      with_reducible rfl
    rotate_left
    · simp only [Act.put, List.setIfInBounds_toArray, List.set_cons_zero, List.set_cons_succ, i64_w, i32_w]
      rfl
    refine take_ (i := 17) (N := some 85) (v := ?_) (a' := ?_) #[true, true, true, true, true, true, true, true, true, true, true, true, true, false, true, false, false, true, true, false, false, false, false, false] rfl rfl (take_ofW HT_.out HW_.out (by kernel_rfl)) (fun _ _ _ h => h) (Or.inl ⟨by rfl, ?_⟩) hHeld ?_ ?_
    rotate_left
    · rintro w' ⟨s0, s1, s2, s3, s4, s5, s6, s7, s8⟩
      go_simp
      with_reducible rfl
    rotate_left
    · simp only [Act.put, List.setIfInBounds_toArray, List.set_cons_zero, List.set_cons_succ, i64_w, i32_w]
      rfl
    refine one_ (i := 13) (N := some 81) #[true, true, true, true, true, true, true, true, true, true, true, true, true, true, true, false, false, true, true, false, false, false, false, false] rfl rfl (one_of HT_.out (by kernel_rfl)) (by decide) (fun K hK => ?_)
    refine goes_ Try.func10 (by kernel_rfl) rfl #[.agg #[.int .i64 e, .int .i64 b, .int .i64 p]] (by rfl) rfl rfl (by (try simp only [List.map_toArray, List.map_cons, List.map_nil]); first | done | rfl | (simp only [List.length_drop, List.length_take]; rfl)) ?_
    with_reducible refine (to_any _ _ _ _).mono ?_
    rintro en w19 ⟨he, hb19⟩; unfold Agg3 at he; subst he
    refine ⟨_, rfl, ?_⟩
    have k_s := Ks.out.below hb19
    have k_a := Ka.out.below hb19
    have k_c := Kc.out.below hb19
    have h_ := below_step HB.out hb19
    clear HB hb19 Ks Ka Kc; have HB := Asd.mk h_; clear h_; have Ks := Asd.mk k_s; clear k_s; have Ka := Asd.mk k_a; clear k_a; have Kc := Asd.mk k_c; clear k_c
    refine hK.out _ _ ⟨Ks.out.cell 0 rfl, Ks.out.cell 1 rfl, Ks.out.cell 2 rfl, Ka.out.cell 0 rfl, Ka.out.cell 1 rfl, Ka.out.cell 2 rfl, Kc.out.cell 0 rfl, Kc.out.cell 1 rfl, Kc.out.cell 2 rfl⟩ (fun hHeld => ?_)
    clear hK K
    refine norm_ (a' := ?_) ?_ ?_
    rotate_left
    · show Act.put _ (some 81) _ = _
      simp only [Act.put, List.setIfInBounds_toArray, List.set_cons_zero, List.set_cons_succ, i64_w, i32_w]
      rfl
    refine one_ (i := 15) (N := some 83) #[true, true, true, true, true, true, true, true, true, true, true, true, true, true, true, true, false, true, true, false, false, false, false, false] rfl rfl (one_of HT_.out (by kernel_rfl)) (by decide) (fun K hK => ?_)
    refine goes_ Try.func21 (by kernel_rfl) rfl #[.agg #[.int .i64 e, .int .i64 b, .int .i64 p], .int .i64 x] (by rfl) rfl rfl (by (try simp only [List.map_toArray, List.map_cons, List.map_nil]); first | done | rfl | (simp only [List.length_drop, List.length_take]; rfl)) ?_
    with_reducible refine (adopt_any _ _ _ _ _).mono ?_
    rintro en w20 ⟨he, hb20⟩; unfold Agg3 at he; subst he
    refine ⟨_, rfl, ?_⟩
    have k_s := Ks.out.below hb20
    have k_a := Ka.out.below hb20
    have k_c := Kc.out.below hb20
    have h_ := below_step HB.out hb20
    clear HB hb20 Ks Ka Kc; have HB := Asd.mk h_; clear h_; have Ks := Asd.mk k_s; clear k_s; have Ka := Asd.mk k_a; clear k_a; have Kc := Asd.mk k_c; clear k_c
    refine hK.out _ _ ⟨Ks.out.cell 0 rfl, Ks.out.cell 1 rfl, Ks.out.cell 2 rfl, Ka.out.cell 0 rfl, Ka.out.cell 1 rfl, Ka.out.cell 2 rfl, Kc.out.cell 0 rfl, Kc.out.cell 1 rfl, Kc.out.cell 2 rfl⟩ (fun hHeld => ?_)
    clear hK K
    refine norm_ (a' := ?_) ?_ ?_
    rotate_left
    · show Act.put _ (some 83) _ = _
      simp only [Act.put, List.setIfInBounds_toArray, List.set_cons_zero, List.set_cons_succ, i64_w, i32_w]
      rfl
    refine one_ (i := 16) (N := some 84) #[true, true, true, true, true, true, true, true, true, true, true, true, true, true, true, true, true, true, true, false, false, false, false, false] rfl rfl (one_of HT_.out (by kernel_rfl)) (by decide) (fun K hK => ?_)
    refine goes_ Try.func18 (by kernel_rfl) rfl #[.agg #[.int .i64 (wrap64 (e + 1)), .int .i64 x, .int .i64 (wrap64 (e + 1))]] (by rfl) rfl rfl (by (try simp only [List.map_toArray, List.map_cons, List.map_nil]); first | done | rfl | (simp only [List.length_drop, List.length_take]; rfl)) ?_
    with_reducible refine (from_any _ _ _ _).mono ?_
    rintro en w21 ⟨he, hb21⟩; unfold Agg3 at he; subst he
    refine ⟨_, rfl, ?_⟩
    have k_s := Ks.out.below hb21
    have k_a := Ka.out.below hb21
    have k_c := Kc.out.below hb21
    have h_ := below_step HB.out hb21
    clear HB hb21 Ks Ka Kc; have HB := Asd.mk h_; clear h_; have Ks := Asd.mk k_s; clear k_s; have Ka := Asd.mk k_a; clear k_a; have Kc := Asd.mk k_c; clear k_c
    refine hK.out _ _ ⟨Ks.out.cell 0 rfl, Ks.out.cell 1 rfl, Ks.out.cell 2 rfl, Ka.out.cell 0 rfl, Ka.out.cell 1 rfl, Ka.out.cell 2 rfl, Kc.out.cell 0 rfl, Kc.out.cell 1 rfl, Kc.out.cell 2 rfl⟩ (fun hHeld => ?_)
    clear hK K
    refine norm_ (a' := ?_) ?_ ?_
    rotate_left
    · show Act.put _ (some 84) _ = _
      simp only [Act.put, List.setIfInBounds_toArray, List.set_cons_zero, List.set_cons_succ, i64_w, i32_w]
      rfl
    refine one_ (i := 19) (N := some 87) #[true, true, true, true, true, true, true, true, true, true, true, true, true, true, true, true, true, true, true, true, false, false, false, false] rfl rfl (one_of HT_.out (by kernel_rfl)) (by decide) (fun K hK => ?_)
    refine goes_ Try.func22 (by kernel_rfl) rfl #[.agg #[.int .i64 e, .int .i64 b, .int .i64 p], .int .i64 x] (by rfl) rfl rfl (by (try simp only [List.map_toArray, List.map_cons, List.map_nil]); first | done | rfl | (simp only [List.length_drop, List.length_take]; rfl)) ?_
    with_reducible refine (adopt_ref _ _ _ _ _).mono ?_
    rintro en w22 ⟨he, hb22⟩; unfold Agg3 at he; subst he
    refine ⟨_, rfl, ?_⟩
    have k_s := Ks.out.below hb22
    have k_a := Ka.out.below hb22
    have k_c := Kc.out.below hb22
    have h_ := below_step HB.out hb22
    clear HB hb22 Ks Ka Kc; have HB := Asd.mk h_; clear h_; have Ks := Asd.mk k_s; clear k_s; have Ka := Asd.mk k_a; clear k_a; have Kc := Asd.mk k_c; clear k_c
    refine hK.out _ _ ⟨Ks.out.cell 0 rfl, Ks.out.cell 1 rfl, Ks.out.cell 2 rfl, Ka.out.cell 0 rfl, Ka.out.cell 1 rfl, Ka.out.cell 2 rfl, Kc.out.cell 0 rfl, Kc.out.cell 1 rfl, Kc.out.cell 2 rfl⟩ (fun hHeld => ?_)
    clear hK K
    refine norm_ (a' := ?_) ?_ ?_
    rotate_left
    · show Act.put _ (some 87) _ = _
      simp only [Act.put, List.setIfInBounds_toArray, List.set_cons_zero, List.set_cons_succ, i64_w, i32_w]
      rfl
    refine pure_ (i := 20) (N := some 88) (v := ?_) (a' := ?_) #[true, true, true, true, true, true, true, true, true, true, true, true, true, true, true, true, true, true, true, true, true, false, false, false] rfl rfl (any_of HT_.out (by kernel_rfl)) (fun _ _ _ h => h) (Or.inl ⟨by rfl, ?_⟩) ?_ ?_
    rotate_left
    · intro w'
      go_simp
      with_reducible rfl
    rotate_left
    · simp only [Act.put, List.setIfInBounds_toArray, List.set_cons_zero, List.set_cons_succ, i64_w, i32_w]
      rfl
    refine pure_ (i := 21) (N := some 89) (v := ?_) (a' := ?_) #[true, true, true, true, true, true, true, true, true, true, true, true, true, true, true, true, true, true, true, true, true, true, false, false] rfl rfl (any_of HT_.out (by kernel_rfl)) (fun _ _ _ h => h) (Or.inl ⟨by rfl, ?_⟩) ?_ ?_
    rotate_left
    · intro w'
      go_simp
      with_reducible rfl
    rotate_left
    · simp only [Act.put, List.setIfInBounds_toArray, List.set_cons_zero, List.set_cons_succ, i64_w, i32_w]
      rfl
    refine pure_ (i := 22) (N := some 90) (v := ?_) (a' := ?_) #[true, true, true, true, true, true, true, true, true, true, true, true, true, true, true, true, true, true, true, true, true, true, true, false] rfl rfl (any_of HT_.out (by kernel_rfl)) (fun _ _ _ h => h) (Or.inl ⟨by rfl, ?_⟩) ?_ ?_
    rotate_left
    · intro w'
      go_simp
      with_reducible rfl
    rotate_left
    · simp only [Act.put, List.setIfInBounds_toArray, List.set_cons_zero, List.set_cons_succ, i64_w, i32_w]
      rfl
    refine pure_ (i := 23) (N := some 8) (v := ?_) (a' := ?_) #[true, true, true, true, true, true, true, true, true, true, true, true, true, true, true, true, true, true, true, true, true, true, true, true] rfl rfl (any_of HT_.out (by kernel_rfl)) (fun _ _ _ h => h) (Or.inl ⟨by rfl, ?_⟩) ?_ ?_
    rotate_left
    · intro w'
      go_simp
      with_reducible rfl
    rotate_left
    · simp only [Act.put, List.setIfInBounds_toArray, List.set_cons_zero, List.set_cons_succ, i64_w, i32_w]
      rfl
    refine done_ (done_of HT_.out (by kernel_rfl)) ?_
    have Z : w.heap.size ≤ w22.heap.size := HB.out.size
    have Ls := Ks.out.lt; have cs0 := Ks.out.cell 0 rfl; have fs0 := Ks.out.frozen 0; have cs1 := Ks.out.cell 1 rfl; have fs1 := Ks.out.frozen 1; have cs2 := Ks.out.cell 2 rfl; have fs2 := Ks.out.frozen 2
    have La := Ka.out.lt; have ca0 := Ka.out.cell 0 rfl; have fa0 := Ka.out.frozen 0; have ca1 := Ka.out.cell 1 rfl; have fa1 := Ka.out.frozen 1; have ca2 := Ka.out.cell 2 rfl; have fa2 := Ka.out.frozen 2
    have Lc := Kc.out.lt; have cc0 := Kc.out.cell 0 rfl; have fc0 := Kc.out.frozen 0; have cc1 := Kc.out.cell 1 rfl; have fc1 := Kc.out.frozen 1; have cc2 := Kc.out.cell 2 rfl; have fc2 := Kc.out.frozen 2
    go_wp2_with fail
    go_ret
    exact ⟨rfl, HB.out⟩
theorem tells_any (e b p n x : Int) (t : Bool) (w : World) :
    Calls Try.prog 4 #[.agg #[.int .i64 e, .int .i64 b, .int .i64 p], .int .i64 n, .int .i64 x, .bool t] w fun en w' => en = .returned (.bool true) ∧ Below w.heap.size w w' :=
  tells_core e b p n x _ _ _ t w ⟨rfl⟩ ⟨rfl⟩ ⟨rfl⟩
end Go.Proofs.Ytlokgfoobjepdaa.Fx
