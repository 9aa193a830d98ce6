/- The law FenceOne as a contract. -/
import Derived.Test.YtlokgfoobjepdaaFx8
import Derived.Deep.LoopGhost
import Derived.Deep.DeepCutAuto
import Derived.Deep.CutBlock
import Derived.Deep.RegionHeld3
import Derived.Deep.QuietTactic
import Derived.BigQuiet
import Derived.Test.YtlokgfoobjepdaaFx9a
namespace Go.Proofs.Ytlokgfoobjepdaa.Fx
open Go.RowKit
open Go.Proofs.Ytlokgfoobjepdaa.Xb (Asd Blk below_alloc below_drew below_drewN below_step below_set)
open Go.Proofs.YtlokgfoobjepdaaW.PrintLast (start_ take_ pure_ one_ two_ last_ norm_ goes_ done_ done_of any_of one_of two_of take_ofW with_tabW rtab waitsOk opsOf i64_w i32_w)
set_option linter.unusedSimpArgs false
set_option linter.unusedVariables false
set_option maxHeartbeats 40000000 in
set_option maxRecDepth 100000 in
theorem one_core (aA : Option Addr) (len cap : Nat) (w : World) (RA : Asd (Acts w aA len)) :
    Calls Try.prog 5 #[.slice aA len cap] w fun en w' => en = .returned (.bool true) ∧ Below w.heap.size w w' := by
 go_enter Try.func5, Try.ntmps5
 have HB : Asd (Below w.heap.size w w) := ⟨Below.refl _ _⟩
 go_wp2_with fail
 refine (works_any _).mono ?_; rintro en w1 ⟨rfl, hb1⟩
 have h_ : Below w.heap.size w w1 := below_step (by repeat (first | exact HB.out | apply below_alloc | apply below_drewN | apply below_drew | refine below_set ?_ (by have := HB.out.size; omega))) hb1
 clear HB hb1; have HB := Asd.mk h_; clear h_; have Z : w.heap.size ≤ w1.heap.size := HB.out.size
 go_wp2_with fail
 have k_n := Blk.new w1 #[.int .i64 1, .int .i64 0, .int .i64 1, .int .i64 1, .int .i64 0, .int .i64 1] 27
 have h_ := below_alloc HB.out (.cells #[.int .i64 1, .int .i64 0, .int .i64 1, .int .i64 1, .int .i64 0, .int .i64 1] 27 (0, 0))
 revert k_n h_
 generalize (w1.alloc (.cells #[.int .i64 1, .int .i64 0, .int .i64 1, .int .i64 1, .int .i64 0, .int .i64 1] 27 (0, 0))) = w2
 intro k_n h_
 have Gn : w.heap.size ≤ w1.heap.size := (by have := HB.out.size; omega)
 clear HB Z; have HB := Asd.mk h_; clear h_; have Z : w.heap.size ≤ w2.heap.size := HB.out.size
 have Kn := Asd.mk k_n; have Ln := k_n.lt; have cn0 := k_n.cell 0 rfl; have fn0 := k_n.frozen 0; have cn1 := k_n.cell 1 rfl; have fn1 := k_n.frozen 1; have cn2 := k_n.cell 2 rfl; have fn2 := k_n.frozen 2; have cn3 := k_n.cell 3 rfl; have fn3 := k_n.frozen 3; have cn4 := k_n.cell 4 rfl; have fn4 := k_n.frozen 4; have cn5 := k_n.cell 5 rfl; have fn5 := k_n.frozen 5; clear k_n
 go_loopg [4] 101 (fun q i wr => ∃ (k : Nat) (A0 B0 P0 A1 B1 P1 : Int), i = .int .i64 (k : Int) ∧ OneRel w1.heap.size q k A0 B0 P0 A1 B1 P1 w wr)
 case atStart => exact ⟨0, 1, 0, 1, 1, 0, 1, rfl, by omega, by omega, bothOk_start, Kn.out, HB.out⟩
 case round =>
  obtain ⟨k, A0, B0, P0, A1, B1, P1, rfl, r1, r2, r3, r4, r5⟩ := hrel
  have R2 := Asd.mk r2; clear r2; have R3 := Asd.mk r3
  obtain ⟨⟨a1, a2, a3, a4, a5, a6⟩, ⟨b1, b2, b3, b4, b5, b6⟩, d1, d2, d3, d4⟩ := r3
  clear Kn cn0 fn0 cn1 fn1 cn2 fn2 cn3 fn3 cn4 fn4 cn5 fn5 Ln HB Z
  have HB := Asd.mk r5; clear r5; have Z : w.heap.size ≤ wr.heap.size := HB.out.size; have k_n : Blk wr (w1.heap.size) #[.int .i64 A0, .int .i64 B0, .int .i64 P0, .int .i64 A1, .int .i64 B1, .int .i64 P1] 27 := r4; clear r4
  have Kn := Asd.mk k_n; have Ln := k_n.lt; have cn0 := k_n.cell 0 rfl; have fn0 := k_n.frozen 0; have cn1 := k_n.cell 1 rfl; have fn1 := k_n.frozen 1; have cn2 := k_n.cell 2 rfl; have fn2 := k_n.frozen 2; have cn3 := k_n.cell 3 rfl; have fn3 := k_n.frozen 3; have cn4 := k_n.cell 4 rfl; have fn4 := k_n.frozen 4; have cn5 := k_n.cell 5 rfl; have fn5 := k_n.frozen 5; clear k_n
  by_cases hl : k < len
  ·
   by_cases hlt : k < 100
   ·
    obtain ⟨bA, oA, v0, v1, v2, rfl, d0', d1', d2'⟩ := RA.out k hl
    have g0 := keepcell HB.out d0'; clear d0'
    have g1 := keepcell HB.out d1'; clear d1'
    have g2 := keepcell HB.out d2'; clear d2'
    obtain ⟨c, hc, c1, c2⟩ := cut_num v0 2 (by omega) (by omega)
    by_cases hc0 : c = 0
    ·
     obtain rfl : c = 0 := hc0
     as_aux_lemma =>
      go_upto_block 2 with fail
      simp only [hc]
      clear hc
      have k_n := (((Kn.out.alloc (.cells #[.int .i64 v0, .int .i64 v1, .int .i64 v2] 48 (0, 0))).alloc (.cells #[.int .i64 A0, .int .i64 B0, .int .i64 P0] 27 (0, 0))).alloc (.cells #[.int .i64 A1, .int .i64 B1, .int .i64 P1] 27 (0, 0)))
      have k_o : Blk (((wr.alloc (.cells #[.int .i64 v0, .int .i64 v1, .int .i64 v2] 48 (0, 0))).alloc (.cells #[.int .i64 A0, .int .i64 B0, .int .i64 P0] 27 (0, 0))).alloc (.cells #[.int .i64 A1, .int .i64 B1, .int .i64 P1] 27 (0, 0))) (wr.heap.size) #[.int .i64 v0, .int .i64 v1, .int .i64 v2] 48 := (by have h := Blk.new wr #[.int .i64 v0, .int .i64 v1, .int .i64 v2] 48; (try rw [show wr.heap.size = wr.heap.size from by simp] at h); exact ((h.alloc (.cells #[.int .i64 A0, .int .i64 B0, .int .i64 P0] 27 (0, 0))).alloc (.cells #[.int .i64 A1, .int .i64 B1, .int .i64 P1] 27 (0, 0))))
      have k_a : Blk (((wr.alloc (.cells #[.int .i64 v0, .int .i64 v1, .int .i64 v2] 48 (0, 0))).alloc (.cells #[.int .i64 A0, .int .i64 B0, .int .i64 P0] 27 (0, 0))).alloc (.cells #[.int .i64 A1, .int .i64 B1, .int .i64 P1] 27 (0, 0))) (wr.heap.size + 1) #[.int .i64 A0, .int .i64 B0, .int .i64 P0] 27 := (by have h := Blk.new (wr.alloc (.cells #[.int .i64 v0, .int .i64 v1, .int .i64 v2] 48 (0, 0))) #[.int .i64 A0, .int .i64 B0, .int .i64 P0] 27; (try rw [show (wr.alloc (.cells #[.int .i64 v0, .int .i64 v1, .int .i64 v2] 48 (0, 0))).heap.size = wr.heap.size + 1 from by simp] at h); exact (h.alloc (.cells #[.int .i64 A1, .int .i64 B1, .int .i64 P1] 27 (0, 0))))
      have k_b : Blk (((wr.alloc (.cells #[.int .i64 v0, .int .i64 v1, .int .i64 v2] 48 (0, 0))).alloc (.cells #[.int .i64 A0, .int .i64 B0, .int .i64 P0] 27 (0, 0))).alloc (.cells #[.int .i64 A1, .int .i64 B1, .int .i64 P1] 27 (0, 0))) (wr.heap.size + 1 + 1) #[.int .i64 A1, .int .i64 B1, .int .i64 P1] 27 := (by have h := Blk.new ((wr.alloc (.cells #[.int .i64 v0, .int .i64 v1, .int .i64 v2] 48 (0, 0))).alloc (.cells #[.int .i64 A0, .int .i64 B0, .int .i64 P0] 27 (0, 0))) #[.int .i64 A1, .int .i64 B1, .int .i64 P1] 27; (try rw [show ((wr.alloc (.cells #[.int .i64 v0, .int .i64 v1, .int .i64 v2] 48 (0, 0))).alloc (.cells #[.int .i64 A0, .int .i64 B0, .int .i64 P0] 27 (0, 0))).heap.size = wr.heap.size + 1 + 1 from by simp] at h); exact h)
      have h_ := below_alloc (below_alloc (below_alloc (HB.out) (.cells #[.int .i64 v0, .int .i64 v1, .int .i64 v2] 48 (0, 0))) (.cells #[.int .i64 A0, .int .i64 B0, .int .i64 P0] 27 (0, 0))) (.cells #[.int .i64 A1, .int .i64 B1, .int .i64 P1] 27 (0, 0))
      revert k_n k_o k_a k_b h_
      generalize (((wr.alloc (.cells #[.int .i64 v0, .int .i64 v1, .int .i64 v2] 48 (0, 0))).alloc (.cells #[.int .i64 A0, .int .i64 B0, .int .i64 P0] 27 (0, 0))).alloc (.cells #[.int .i64 A1, .int .i64 B1, .int .i64 P1] 27 (0, 0))) = w3
      intro k_n k_o k_a k_b h_
      have Dno : w1.heap.size < wr.heap.size := (by have := Ln; omega)
      have Dna : w1.heap.size < wr.heap.size + 1 := (by have := Ln; omega)
      have Dnb : w1.heap.size < wr.heap.size + 1 + 1 := (by have := Ln; omega)
      have Doa : wr.heap.size < wr.heap.size + 1 := (by omega)
      have Dob : wr.heap.size < wr.heap.size + 1 + 1 := (by omega)
      have Go : w.heap.size ≤ wr.heap.size := (by have := HB.out.size; omega)
      have Dab : wr.heap.size + 1 < wr.heap.size + 1 + 1 := (by omega)
      have Ga : w.heap.size ≤ wr.heap.size + 1 := (by have := HB.out.size; omega)
      have Gb : w.heap.size ≤ wr.heap.size + 1 + 1 := (by have := HB.out.size; omega)
      clear Kn Ln cn0 fn0 cn1 fn1 cn2 fn2 cn3 fn3 cn4 fn4 cn5 fn5 HB Z; have HB := Asd.mk h_; clear h_; have Z : w.heap.size ≤ w3.heap.size := HB.out.size
      have Kn := Asd.mk k_n; have Ln := k_n.lt; have cn0 := k_n.cell 0 rfl; have fn0 := k_n.frozen 0; have cn1 := k_n.cell 1 rfl; have fn1 := k_n.frozen 1; have cn2 := k_n.cell 2 rfl; have fn2 := k_n.frozen 2; have cn3 := k_n.cell 3 rfl; have fn3 := k_n.frozen 3; have cn4 := k_n.cell 4 rfl; have fn4 := k_n.frozen 4; have cn5 := k_n.cell 5 rfl; have fn5 := k_n.frozen 5; clear k_n
      have Ko := Asd.mk k_o; have Lo := k_o.lt; have co0 := k_o.cell 0 rfl; have fo0 := k_o.frozen 0; have co1 := k_o.cell 1 rfl; have fo1 := k_o.frozen 1; have co2 := k_o.cell 2 rfl; have fo2 := k_o.frozen 2; clear k_o
      have Ka := Asd.mk k_a; have La := k_a.lt; have ca0 := k_a.cell 0 rfl; have fa0 := k_a.frozen 0; have ca1 := k_a.cell 1 rfl; have fa1 := k_a.frozen 1; have ca2 := k_a.cell 2 rfl; have fa2 := k_a.frozen 2; clear k_a
      have Kb := Asd.mk k_b; have Lb := k_b.lt; have cb0 := k_b.cell 0 rfl; have fb0 := k_b.frozen 0; have cb1 := k_b.cell 1 rfl; have fb1 := k_b.frozen 1; have cb2 := k_b.cell 2 rfl; have fb2 := k_b.frozen 2; clear k_b
      go_cut [] (fun wx => ∃ (E0 F0 Q0 E1 F1 Q1 : Int), MidRel 0 w1.heap.size (wr.heap.size + 1) k A0 B0 P0 A1 B1 P1 E0 F0 Q0 E1 F1 Q1 w wx)
      case first =>
       as_aux_lemma =>
        by_cases hk0 : v1 = 0
        ·
         have hkk : (v1 == 0) = true := beq_iff_eq.2 hk0
         obtain ⟨l, hl_, l1, l2⟩ := cut_num v2 1000 (by omega) (by omega)
         have hl1 : IntKind.i64.wrap ((IntKind.u64.wrap v2).tmod 1000) = l := (i64_w _).trans hl_; clear hl_ hk0
         by_cases hp : pOK A0 B0 P0 0 l = 0
         ·
          have hw : wrap64 (A0 + 1) = A0 + 1 := by unfold wrap64; omega
          as_aux_lemma =>
           have h1 := Asd.mk (show pE A0 B0 P0 0 l = A0 + 1 by unfold pE; rw [if_pos hp, hw]); have h2 := Asd.mk (show pB A0 B0 P0 0 l = l by unfold pB; rw [if_pos hp]); have h3 := Asd.mk hp; clear hp hw
           go_wp2_with fail
           have k_n := Kn.out.drew
           have k_o := Ko.out.drew
           have k_a := Ka.out.drew
           have k_b := Kb.out.drew
           have h_ := below_drew HB.out
           refine start_ (n := 17) (S := fun w' => w'.cell? ⟨w1.heap.size, 0, none⟩ = some (.int .i64 A0) ∧ w'.cell? ⟨w1.heap.size, 1, none⟩ = some (.int .i64 B0) ∧ w'.cell? ⟨w1.heap.size, 2, none⟩ = some (.int .i64 P0) ∧ w'.cell? ⟨w1.heap.size, 3, none⟩ = some (.int .i64 A1) ∧ w'.cell? ⟨w1.heap.size, 4, none⟩ = some (.int .i64 B1) ∧ w'.cell? ⟨w1.heap.size, 5, none⟩ = some (.int .i64 P1) ∧ w'.cell? ⟨wr.heap.size, 0, none⟩ = some (.int .i64 v0) ∧ w'.cell? ⟨wr.heap.size, 1, none⟩ = some (.int .i64 v1) ∧ w'.cell? ⟨wr.heap.size, 2, none⟩ = some (.int .i64 v2) ∧ w'.cell? ⟨wr.heap.size + 1, 0, none⟩ = some (.int .i64 A0) ∧ w'.cell? ⟨wr.heap.size + 1, 1, none⟩ = some (.int .i64 B0) ∧ w'.cell? ⟨wr.heap.size + 1, 2, none⟩ = some (.int .i64 P0) ∧ w'.cell? ⟨wr.heap.size + 1 + 1, 0, none⟩ = some (.int .i64 A1) ∧ w'.cell? ⟨wr.heap.size + 1 + 1, 1, none⟩ = some (.int .i64 B1) ∧ w'.cell? ⟨wr.heap.size + 1 + 1, 2, none⟩ = some (.int .i64 P1)) (ds := []) X0 (by kernel_rfl) rfl rfl ⟨k_n.cell 0 rfl, k_n.cell 1 rfl, k_n.cell 2 rfl, k_n.cell 3 rfl, k_n.cell 4 rfl, k_n.cell 5 rfl, k_o.cell 0 rfl, k_o.cell 1 rfl, k_o.cell 2 rfl, k_a.cell 0 rfl, k_a.cell 1 rfl, k_a.cell 2 rfl, k_b.cell 0 rfl, k_b.cell 1 rfl, k_b.cell 2 rfl⟩ (fun hHeld => ?_); refine with_tabW one13tab one13bits (fun HT_ HW_ => ?_)
           clear HB Kn Ko Ka Kb
           generalize w3.drew = w4 at k_n k_o k_a k_b h_ hHeld ⊢
           have HB := Asd.mk h_; clear h_; have Kn := Asd.mk k_n; clear k_n; have Ko := Asd.mk k_o; clear k_o; have Ka := Asd.mk k_a; clear k_a; have Kb := Asd.mk k_b; clear k_b
           clear Ln Lo La Lb cn0 fn0 cn1 fn1 cn2 fn2 cn3 fn3 cn4 fn4 cn5 fn5 co0 fo0 co1 fo1 co2 fo2 ca0 fa0 ca1 fa1 ca2 fa2 cb0 fb0 cb1 fb1 cb2 fb2
           refine pure_ (i := 0) (N := some 50) (v := ?_) (a' := ?_) X1 rfl rfl (any_of HT_.out (by kernel_rfl)) (fun _ _ _ h => h) (Or.inl ⟨by rfl, ?_⟩) ?_ ?_
           rotate_left
           ·
            intro w'
            go_simp
            with_reducible rfl
           rotate_left
           ·
            simp only [Act.put, List.setIfInBounds_toArray, List.set_cons_zero, List.set_cons_succ, i64_w, i32_w]
            rfl
           refine pure_ (i := 1) (N := some 51) (v := ?_) (a' := ?_) X2 rfl rfl (any_of HT_.out (by kernel_rfl)) (fun _ _ _ h => h) (Or.inl ⟨by rfl, ?_⟩) ?_ ?_
           rotate_left
           ·
            intro w'
            go_simp
            with_reducible rfl
           rotate_left
           ·
            simp only [Act.put, List.setIfInBounds_toArray, List.set_cons_zero, List.set_cons_succ, i64_w, i32_w]
            rfl
           refine pure_ (i := 2) (N := some 52) (v := ?_) (a' := ?_) X3 rfl rfl (any_of HT_.out (by kernel_rfl)) (fun _ _ _ h => h) (Or.inl ⟨by rfl, ?_⟩) ?_ ?_
           rotate_left
           ·
            intro w'
            go_simp
            with_reducible rfl
           rotate_left
           ·
            simp only [Act.put, List.setIfInBounds_toArray, List.set_cons_zero, List.set_cons_succ, i64_w, i32_w]
            rfl
           refine pure_ (i := 4) (N := some 54) (v := ?_) (a' := ?_) X4 rfl rfl (any_of HT_.out (by kernel_rfl)) (fun _ _ _ h => h) (Or.inl ⟨by rfl, ?_⟩) ?_ ?_
           rotate_left
           ·
            intro w'
            go_simp
            with_reducible rfl
           rotate_left
           ·
            simp only [Act.put, List.setIfInBounds_toArray, List.set_cons_zero, List.set_cons_succ, i64_w, i32_w]
            rfl
           refine pure_ (i := 5) (N := some 55) (v := ?_) (a' := ?_) X5 rfl rfl (any_of HT_.out (by kernel_rfl)) (fun _ _ _ h => h) (Or.inl ⟨by rfl, ?_⟩) ?_ ?_
           rotate_left
           ·
            intro w'
            go_simp
            with_reducible rfl
           rotate_left
           ·
            simp only [Act.put, List.setIfInBounds_toArray, List.set_cons_zero, List.set_cons_succ, i64_w, i32_w]
            rfl
           refine take_ (i := 3) (N := some 53) (v := ?_) (a' := ?_) X6 rfl rfl (take_ofW HT_.out HW_.out (by kernel_rfl)) (fun _ _ _ h => h) (Or.inl ⟨by rfl, ?_⟩) hHeld ?_ ?_
           rotate_left
           ·
            rintro w' ⟨s0, s1, s2, s3, s4, s5, s6, s7, s8, s9, s10, s11, s12, s13, s14⟩
            go_simp
            with_reducible rfl
           rotate_left
           ·
            simp only [Act.put, List.setIfInBounds_toArray, List.set_cons_zero, List.set_cons_succ, i64_w, i32_w]
            rfl
           refine take_ (i := 6) (N := some 56) (v := ?_) (a' := ?_) X7 rfl rfl (take_ofW HT_.out HW_.out (by kernel_rfl)) (fun _ _ _ h => h) (Or.inl ⟨by rfl, ?_⟩) hHeld ?_ ?_
           rotate_left
           ·
            rintro w' ⟨s0, s1, s2, s3, s4, s5, s6, s7, s8, s9, s10, s11, s12, s13, s14⟩
            go_simp
            with_reducible rfl
           rotate_left
           ·
            simp only [Act.put, List.setIfInBounds_toArray, List.set_cons_zero, List.set_cons_succ, i64_w, i32_w]
            rfl
           refine pure_ (i := 7) (N := some 57) (v := ?_) (a' := ?_) X8 rfl rfl (any_of HT_.out (by kernel_rfl)) (fun _ _ _ h => h) (Or.inl ⟨by rfl, ?_⟩) ?_ ?_
           rotate_left
           ·
            intro w'
            go_simp
            with_reducible rfl
           rotate_left
           ·
            simp only [Act.put, List.setIfInBounds_toArray, List.set_cons_zero, List.set_cons_succ, i64_w, i32_w]
            rfl
           refine pure_ (i := 8) (N := some 58) (v := ?_) (a' := ?_) X9 rfl rfl (any_of HT_.out (by kernel_rfl)) (fun _ _ _ h => h) (Or.inl ⟨by rfl, ?_⟩) ?_ ?_
           rotate_left
           ·
            intro w'
            go_simp
            with_reducible rfl
           rotate_left
           ·
            simp only [Act.put, List.setIfInBounds_toArray, List.set_cons_zero, List.set_cons_succ, i64_w, i32_w]
            rfl
           refine pure_ (i := 9) (N := some 59) (v := ?_) (a' := ?_) X10 rfl rfl (any_of HT_.out (by kernel_rfl)) (fun _ _ _ h => h) (Or.inl ⟨by rfl, ?_⟩) ?_ ?_
           rotate_left
           ·
            intro w'
            go_simp
            with_reducible rfl
           rotate_left
           ·
            simp only [Act.put, List.setIfInBounds_toArray, List.set_cons_zero, List.set_cons_succ, i64_w, i32_w]
            rfl
           refine two_ (i := 10) (j := 14) (Ni := some 60) (Nj := some 9) X11 X12 rfl rfl rfl rfl (two_of HT_.out (by kernel_rfl)) (by decide) (by decide) (fun K hK => ?_) (fun K hK => ?_)
           ·
            skip
            refine goes_ Try.func9 (by kernel_rfl) rfl #[.agg #[.int .i64 A0, .int .i64 B0, .int .i64 P0], .int .i64 0, .int .i64 l] (by rfl) rfl rfl (by (try simp only [List.map_toArray, List.map_cons, List.map_nil]); first | done | rfl | (simp only [List.length_drop, List.length_take]; rfl)) ?_
            with_reducible refine (promote_at (e := A0) (b := B0) (p := P0) (n := 0) (l := l) (r1 := A0 + 1) (r2 := l) (r4 := 0) h1.out h2.out h3.out _).mono ?_
            rintro en w5 ⟨rfl, hb5⟩
            refine ⟨_, rfl, ?_⟩
            have k_n := Kn.out.below hb5
            have k_o := Ko.out.below hb5
            have k_a := Ka.out.below hb5
            have k_b := Kb.out.below hb5
            have h_ := below_step HB.out hb5
            clear HB hb5 Kn Ko Ka Kb; have HB := Asd.mk h_; clear h_; have Kn := Asd.mk k_n; clear k_n; have Ko := Asd.mk k_o; clear k_o; have Ka := Asd.mk k_a; clear k_a; have Kb := Asd.mk k_b; clear k_b
            refine hK.out _ _ ⟨Kn.out.cell 0 rfl, Kn.out.cell 1 rfl, Kn.out.cell 2 rfl, Kn.out.cell 3 rfl, Kn.out.cell 4 rfl, Kn.out.cell 5 rfl, Ko.out.cell 0 rfl, Ko.out.cell 1 rfl, Ko.out.cell 2 rfl, Ka.out.cell 0 rfl, Ka.out.cell 1 rfl, Ka.out.cell 2 rfl, Kb.out.cell 0 rfl, Kb.out.cell 1 rfl, Kb.out.cell 2 rfl⟩ (fun hHeld => ?_)
            clear hK K
            refine norm_ (a' := ?_) ?_ ?_
            rotate_left
            ·
             (try show Act.put _ (some 60) _ = _)
             first | rfl | (simp only [Act.put, List.setIfInBounds_toArray, List.set_cons_zero, List.set_cons_succ, i64_w, i32_w]; rfl)
            refine pure_ (i := 11) (N := some 49) (v := ?_) (a' := ?_) X13 rfl rfl (any_of HT_.out (by kernel_rfl)) (fun _ _ _ h => h) (Or.inl ⟨by rfl, ?_⟩) ?_ ?_
            rotate_left
            ·
             intro w'
             go_simp
             with_reducible rfl
            rotate_left
            ·
             simp only [Act.put, List.setIfInBounds_toArray, List.set_cons_zero, List.set_cons_succ, i64_w, i32_w]
             rfl
            refine pure_ (i := 12) (N := some 61) (v := ?_) (a' := ?_) X14 rfl rfl (any_of HT_.out (by kernel_rfl)) (fun _ _ _ h => h) (Or.inl ⟨by rfl, ?_⟩) ?_ ?_
            rotate_left
            ·
             intro w'
             go_simp
             with_reducible rfl
            rotate_left
            ·
             simp only [Act.put, List.setIfInBounds_toArray, List.set_cons_zero, List.set_cons_succ, i64_w, i32_w]
             rfl
            refine pure_ (i := 13) (N := some 62) (v := ?_) (a' := ?_) X15 rfl rfl (any_of HT_.out (by kernel_rfl)) (fun _ _ _ h => h) (Or.inl ⟨by rfl, ?_⟩) ?_ ?_
            rotate_left
            ·
             intro w'
             go_simp
             with_reducible rfl
            rotate_left
            ·
             simp only [Act.put, List.setIfInBounds_toArray, List.set_cons_zero, List.set_cons_succ, i64_w, i32_w]
             rfl
            refine one_ (i := 14) (N := some 9) X16 rfl rfl (one_of HT_.out (by kernel_rfl)) (by decide) (fun K hK => ?_)
            go_simp
            have k_n := Kn.out.alloc (.cells #[.int .i64 0, .int .i64 0, .int .i64 0] 27 (0, 0)); have Dnx : w1.heap.size < w5.heap.size := Kn.out.lt
            have k_o := Ko.out.alloc (.cells #[.int .i64 0, .int .i64 0, .int .i64 0] 27 (0, 0)); have Dox : wr.heap.size < w5.heap.size := Ko.out.lt
            have k_a := Ka.out.alloc (.cells #[.int .i64 0, .int .i64 0, .int .i64 0] 27 (0, 0)); have Dax : wr.heap.size + 1 < w5.heap.size := Ka.out.lt
            have k_b := Kb.out.alloc (.cells #[.int .i64 0, .int .i64 0, .int .i64 0] 27 (0, 0)); have Dbx : wr.heap.size + 1 + 1 < w5.heap.size := Kb.out.lt
            have k_x := Blk.new w5 #[.int .i64 0, .int .i64 0, .int .i64 0] 27
            have h_ := below_alloc HB.out (.cells #[.int .i64 0, .int .i64 0, .int .i64 0] 27 (0, 0)); have Gx : w.heap.size ≤ w5.heap.size := HB.out.size
            refine hK.out _ _ ⟨k_n.cell 0 rfl, k_n.cell 1 rfl, k_n.cell 2 rfl, k_n.cell 3 rfl, k_n.cell 4 rfl, k_n.cell 5 rfl, k_o.cell 0 rfl, k_o.cell 1 rfl, k_o.cell 2 rfl, k_a.cell 0 rfl, k_a.cell 1 rfl, k_a.cell 2 rfl, k_b.cell 0 rfl, k_b.cell 1 rfl, k_b.cell 2 rfl⟩ (fun hHeld => ?_)
            clear hK K
            clear HB Kn Ko Ka Kb
            generalize w5.alloc (.cells #[.int .i64 0, .int .i64 0, .int .i64 0] 27 (0, 0)) = w6 at k_n k_o k_a k_b k_x h_ hHeld ⊢
            have HB := Asd.mk h_; clear h_; have Kn := Asd.mk k_n; clear k_n; have Ko := Asd.mk k_o; clear k_o; have Ka := Asd.mk k_a; clear k_a; have Kb := Asd.mk k_b; clear k_b; have Kx := Asd.mk k_x; clear k_x
            refine norm_ (a' := ?_) ?_ ?_
            rotate_left
            ·
             (try show Act.put _ (some 9) _ = _)
             first | rfl | (simp only [Act.put, List.setIfInBounds_toArray, List.set_cons_zero, List.set_cons_succ, i64_w, i32_w]; rfl)
            refine one_ (i := 15) (N := none) X17 rfl rfl (one_of HT_.out (by kernel_rfl)) (by decide) (fun K hK => ?_)
            have z_0 := Kx.out.cell 0 rfl; have y_0 := Kx.out.frozen 0
            have z_1 := Kx.out.cell 1 rfl; have y_1 := Kx.out.frozen 1
            have z_2 := Kx.out.cell 2 rfl; have y_2 := Kx.out.frozen 2
            go_simp
            clear z_0 y_0 z_1 y_1 z_2 y_2
            have k_n := (((Kn.out.far (g2 := w5.heap.size) (i := 0) (by omega) (.int .i64 (A0 + 1))).far (g2 := w5.heap.size) (i := 1) (by omega) (.int .i64 l)).far (g2 := w5.heap.size) (i := 2) (by omega) (.int .i64 (A0 + 1)))
            have k_o := (((Ko.out.far (g2 := w5.heap.size) (i := 0) (by omega) (.int .i64 (A0 + 1))).far (g2 := w5.heap.size) (i := 1) (by omega) (.int .i64 l)).far (g2 := w5.heap.size) (i := 2) (by omega) (.int .i64 (A0 + 1)))
            have k_a := (((Ka.out.far (g2 := w5.heap.size) (i := 0) (by omega) (.int .i64 (A0 + 1))).far (g2 := w5.heap.size) (i := 1) (by omega) (.int .i64 l)).far (g2 := w5.heap.size) (i := 2) (by omega) (.int .i64 (A0 + 1)))
            have k_b := (((Kb.out.far (g2 := w5.heap.size) (i := 0) (by omega) (.int .i64 (A0 + 1))).far (g2 := w5.heap.size) (i := 1) (by omega) (.int .i64 l)).far (g2 := w5.heap.size) (i := 2) (by omega) (.int .i64 (A0 + 1)))
            have k_x := (((Kx.out.put 0 (.int .i64 (A0 + 1)) rfl).put 1 (.int .i64 l) rfl).put 2 (.int .i64 (A0 + 1)) rfl)
            have h_ := below_set (below_set (below_set (HB.out) (j := 0) (v := .int .i64 (A0 + 1)) (g := w5.heap.size) (by omega)) (j := 1) (v := .int .i64 l) (g := w5.heap.size) (by omega)) (j := 2) (v := .int .i64 (A0 + 1)) (g := w5.heap.size) (by omega)
            refine hK.out _ _ ⟨k_n.cell 0 rfl, k_n.cell 1 rfl, k_n.cell 2 rfl, k_n.cell 3 rfl, k_n.cell 4 rfl, k_n.cell 5 rfl, k_o.cell 0 rfl, k_o.cell 1 rfl, k_o.cell 2 rfl, k_a.cell 0 rfl, k_a.cell 1 rfl, k_a.cell 2 rfl, k_b.cell 0 rfl, k_b.cell 1 rfl, k_b.cell 2 rfl⟩ (fun hHeld => ?_)
            clear hK K
            clear HB Kn Ko Ka Kb Kx
            generalize (((w6).setCell ⟨w5.heap.size, 0, none⟩ (.int .i64 (A0 + 1))).setCell ⟨w5.heap.size, 1, none⟩ (.int .i64 l)).setCell ⟨w5.heap.size, 2, none⟩ (.int .i64 (A0 + 1)) = w7 at k_n k_o k_a k_b k_x h_ hHeld ⊢
            have HB := Asd.mk h_; clear h_; have Kn := Asd.mk k_n; clear k_n; have Ko := Asd.mk k_o; clear k_o; have Ka := Asd.mk k_a; clear k_a; have Kb := Asd.mk k_b; clear k_b; have Kx := Asd.mk k_x; clear k_x
            refine pure_ (i := 16) (N := some 10) (v := ?_) (a' := ?_) X18 rfl rfl (any_of HT_.out (by kernel_rfl)) (fun _ _ _ h => h) (Or.inl ⟨by rfl, ?_⟩) ?_ ?_
            rotate_left
            ·
             intro w'
             go_simp
             with_reducible rfl
            rotate_left
            ·
             simp only [Act.put, List.setIfInBounds_toArray, List.set_cons_zero, List.set_cons_succ, i64_w, i32_w]
             rfl
            refine done_ (done_of HT_.out (by kernel_rfl)) ?_
            have Z : w.heap.size ≤ w7.heap.size := HB.out.size
            have Ln := Kn.out.lt; have cn0 := Kn.out.cell 0 rfl; have fn0 := Kn.out.frozen 0; have cn1 := Kn.out.cell 1 rfl; have fn1 := Kn.out.frozen 1; have cn2 := Kn.out.cell 2 rfl; have fn2 := Kn.out.frozen 2; have cn3 := Kn.out.cell 3 rfl; have fn3 := Kn.out.frozen 3; have cn4 := Kn.out.cell 4 rfl; have fn4 := Kn.out.frozen 4; have cn5 := Kn.out.cell 5 rfl; have fn5 := Kn.out.frozen 5
            have Lo := Ko.out.lt; have co0 := Ko.out.cell 0 rfl; have fo0 := Ko.out.frozen 0; have co1 := Ko.out.cell 1 rfl; have fo1 := Ko.out.frozen 1; have co2 := Ko.out.cell 2 rfl; have fo2 := Ko.out.frozen 2
            have La := Ka.out.lt; have ca0 := Ka.out.cell 0 rfl; have fa0 := Ka.out.frozen 0; have ca1 := Ka.out.cell 1 rfl; have fa1 := Ka.out.frozen 1; have ca2 := Ka.out.cell 2 rfl; have fa2 := Ka.out.frozen 2
            have Lb := Kb.out.lt; have cb0 := Kb.out.cell 0 rfl; have fb0 := Kb.out.frozen 0; have cb1 := Kb.out.cell 1 rfl; have fb1 := Kb.out.frozen 1; have cb2 := Kb.out.cell 2 rfl; have fb2 := Kb.out.frozen 2
            have Lx := Kx.out.lt; have cx0 := Kx.out.cell 0 rfl; have fx0 := Kx.out.frozen 0; have cx1 := Kx.out.cell 1 rfl; have fx1 := Kx.out.frozen 1; have cx2 := Kx.out.cell 2 rfl; have fx2 := Kx.out.frozen 2
            go_wp2
            go_meet
            case rel => exact ⟨(A0 + 1), l, (A0 + 1), A1, B1, P1, mid_promote0 R3.out h3.out (by omega) (by omega), (fun _ => ⟨by omega, (by repeat (first | exact Ka.out | refine Blk.far ?_ (by omega) _))⟩), (fun h_ => absurd h_ (by decide)), ((Kn.out.put 0 _ rfl).put 1 _ rfl).put 2 _ rfl, below_set (below_set (below_set HB.out (by omega)) (by omega)) (by omega)⟩
           ·
            skip
            go_simp
            have k_n := Kn.out.alloc (.cells #[.int .i64 0, .int .i64 0, .int .i64 0] 27 (0, 0)); have Dnx : w1.heap.size < w4.heap.size := Kn.out.lt
            have k_o := Ko.out.alloc (.cells #[.int .i64 0, .int .i64 0, .int .i64 0] 27 (0, 0)); have Dox : wr.heap.size < w4.heap.size := Ko.out.lt
            have k_a := Ka.out.alloc (.cells #[.int .i64 0, .int .i64 0, .int .i64 0] 27 (0, 0)); have Dax : wr.heap.size + 1 < w4.heap.size := Ka.out.lt
            have k_b := Kb.out.alloc (.cells #[.int .i64 0, .int .i64 0, .int .i64 0] 27 (0, 0)); have Dbx : wr.heap.size + 1 + 1 < w4.heap.size := Kb.out.lt
            have k_x := Blk.new w4 #[.int .i64 0, .int .i64 0, .int .i64 0] 27
            have h_ := below_alloc HB.out (.cells #[.int .i64 0, .int .i64 0, .int .i64 0] 27 (0, 0)); have Gx : w.heap.size ≤ w4.heap.size := HB.out.size
            refine hK.out _ _ ⟨k_n.cell 0 rfl, k_n.cell 1 rfl, k_n.cell 2 rfl, k_n.cell 3 rfl, k_n.cell 4 rfl, k_n.cell 5 rfl, k_o.cell 0 rfl, k_o.cell 1 rfl, k_o.cell 2 rfl, k_a.cell 0 rfl, k_a.cell 1 rfl, k_a.cell 2 rfl, k_b.cell 0 rfl, k_b.cell 1 rfl, k_b.cell 2 rfl⟩ (fun hHeld => ?_)
            clear hK K
            clear HB Kn Ko Ka Kb
            generalize w4.alloc (.cells #[.int .i64 0, .int .i64 0, .int .i64 0] 27 (0, 0)) = w5 at k_n k_o k_a k_b k_x h_ hHeld ⊢
            have HB := Asd.mk h_; clear h_; have Kn := Asd.mk k_n; clear k_n; have Ko := Asd.mk k_o; clear k_o; have Ka := Asd.mk k_a; clear k_a; have Kb := Asd.mk k_b; clear k_b; have Kx := Asd.mk k_x; clear k_x
            refine norm_ (a' := ?_) ?_ ?_
            rotate_left
            ·
             (try show Act.put _ (some 9) _ = _)
             first | rfl | (simp only [Act.put, List.setIfInBounds_toArray, List.set_cons_zero, List.set_cons_succ, i64_w, i32_w]; rfl)
            refine one_ (i := 10) (N := some 60) X19 rfl rfl (one_of HT_.out (by kernel_rfl)) (by decide) (fun K hK => ?_)
            refine goes_ Try.func9 (by kernel_rfl) rfl #[.agg #[.int .i64 A0, .int .i64 B0, .int .i64 P0], .int .i64 0, .int .i64 l] (by rfl) rfl rfl (by (try simp only [List.map_toArray, List.map_cons, List.map_nil]); first | done | rfl | (simp only [List.length_drop, List.length_take]; rfl)) ?_
            with_reducible refine (promote_at (e := A0) (b := B0) (p := P0) (n := 0) (l := l) (r1 := A0 + 1) (r2 := l) (r4 := 0) h1.out h2.out h3.out _).mono ?_
            rintro en w6 ⟨rfl, hb6⟩
            refine ⟨_, rfl, ?_⟩
            have k_n := Kn.out.below hb6
            have k_o := Ko.out.below hb6
            have k_a := Ka.out.below hb6
            have k_b := Kb.out.below hb6
            have k_x := Kx.out.below hb6
            have h_ := below_step HB.out hb6
            clear HB hb6 Kn Ko Ka Kb Kx; have HB := Asd.mk h_; clear h_; have Kn := Asd.mk k_n; clear k_n; have Ko := Asd.mk k_o; clear k_o; have Ka := Asd.mk k_a; clear k_a; have Kb := Asd.mk k_b; clear k_b; have Kx := Asd.mk k_x; clear k_x
            refine hK.out _ _ ⟨Kn.out.cell 0 rfl, Kn.out.cell 1 rfl, Kn.out.cell 2 rfl, Kn.out.cell 3 rfl, Kn.out.cell 4 rfl, Kn.out.cell 5 rfl, Ko.out.cell 0 rfl, Ko.out.cell 1 rfl, Ko.out.cell 2 rfl, Ka.out.cell 0 rfl, Ka.out.cell 1 rfl, Ka.out.cell 2 rfl, Kb.out.cell 0 rfl, Kb.out.cell 1 rfl, Kb.out.cell 2 rfl⟩ (fun hHeld => ?_)
            clear hK K
            refine norm_ (a' := ?_) ?_ ?_
            rotate_left
            ·
             (try show Act.put _ (some 60) _ = _)
             first | rfl | (simp only [Act.put, List.setIfInBounds_toArray, List.set_cons_zero, List.set_cons_succ, i64_w, i32_w]; rfl)
            refine pure_ (i := 11) (N := some 49) (v := ?_) (a' := ?_) X20 rfl rfl (any_of HT_.out (by kernel_rfl)) (fun _ _ _ h => h) (Or.inl ⟨by rfl, ?_⟩) ?_ ?_
            rotate_left
            ·
             intro w'
             go_simp
             with_reducible rfl
            rotate_left
            ·
             simp only [Act.put, List.setIfInBounds_toArray, List.set_cons_zero, List.set_cons_succ, i64_w, i32_w]
             rfl
            refine pure_ (i := 12) (N := some 61) (v := ?_) (a' := ?_) X21 rfl rfl (any_of HT_.out (by kernel_rfl)) (fun _ _ _ h => h) (Or.inl ⟨by rfl, ?_⟩) ?_ ?_
            rotate_left
            ·
             intro w'
             go_simp
             with_reducible rfl
            rotate_left
            ·
             simp only [Act.put, List.setIfInBounds_toArray, List.set_cons_zero, List.set_cons_succ, i64_w, i32_w]
             rfl
            refine pure_ (i := 13) (N := some 62) (v := ?_) (a' := ?_) X16 rfl rfl (any_of HT_.out (by kernel_rfl)) (fun _ _ _ h => h) (Or.inl ⟨by rfl, ?_⟩) ?_ ?_
            rotate_left
            ·
             intro w'
             go_simp
             with_reducible rfl
            rotate_left
            ·
             simp only [Act.put, List.setIfInBounds_toArray, List.set_cons_zero, List.set_cons_succ, i64_w, i32_w]
             rfl
            refine one_ (i := 15) (N := none) X17 rfl rfl (one_of HT_.out (by kernel_rfl)) (by decide) (fun K hK => ?_)
            have z_0 := Kx.out.cell 0 rfl; have y_0 := Kx.out.frozen 0
            have z_1 := Kx.out.cell 1 rfl; have y_1 := Kx.out.frozen 1
            have z_2 := Kx.out.cell 2 rfl; have y_2 := Kx.out.frozen 2
            go_simp
            clear z_0 y_0 z_1 y_1 z_2 y_2
            have k_n := (((Kn.out.far (g2 := w4.heap.size) (i := 0) (by omega) (.int .i64 (A0 + 1))).far (g2 := w4.heap.size) (i := 1) (by omega) (.int .i64 l)).far (g2 := w4.heap.size) (i := 2) (by omega) (.int .i64 (A0 + 1)))
            have k_o := (((Ko.out.far (g2 := w4.heap.size) (i := 0) (by omega) (.int .i64 (A0 + 1))).far (g2 := w4.heap.size) (i := 1) (by omega) (.int .i64 l)).far (g2 := w4.heap.size) (i := 2) (by omega) (.int .i64 (A0 + 1)))
            have k_a := (((Ka.out.far (g2 := w4.heap.size) (i := 0) (by omega) (.int .i64 (A0 + 1))).far (g2 := w4.heap.size) (i := 1) (by omega) (.int .i64 l)).far (g2 := w4.heap.size) (i := 2) (by omega) (.int .i64 (A0 + 1)))
            have k_b := (((Kb.out.far (g2 := w4.heap.size) (i := 0) (by omega) (.int .i64 (A0 + 1))).far (g2 := w4.heap.size) (i := 1) (by omega) (.int .i64 l)).far (g2 := w4.heap.size) (i := 2) (by omega) (.int .i64 (A0 + 1)))
            have k_x := (((Kx.out.put 0 (.int .i64 (A0 + 1)) rfl).put 1 (.int .i64 l) rfl).put 2 (.int .i64 (A0 + 1)) rfl)
            have h_ := below_set (below_set (below_set (HB.out) (j := 0) (v := .int .i64 (A0 + 1)) (g := w4.heap.size) (by omega)) (j := 1) (v := .int .i64 l) (g := w4.heap.size) (by omega)) (j := 2) (v := .int .i64 (A0 + 1)) (g := w4.heap.size) (by omega)
            refine hK.out _ _ ⟨k_n.cell 0 rfl, k_n.cell 1 rfl, k_n.cell 2 rfl, k_n.cell 3 rfl, k_n.cell 4 rfl, k_n.cell 5 rfl, k_o.cell 0 rfl, k_o.cell 1 rfl, k_o.cell 2 rfl, k_a.cell 0 rfl, k_a.cell 1 rfl, k_a.cell 2 rfl, k_b.cell 0 rfl, k_b.cell 1 rfl, k_b.cell 2 rfl⟩ (fun hHeld => ?_)
            clear hK K
            clear HB Kn Ko Ka Kb Kx
            generalize (((w6).setCell ⟨w4.heap.size, 0, none⟩ (.int .i64 (A0 + 1))).setCell ⟨w4.heap.size, 1, none⟩ (.int .i64 l)).setCell ⟨w4.heap.size, 2, none⟩ (.int .i64 (A0 + 1)) = w7 at k_n k_o k_a k_b k_x h_ hHeld ⊢
            have HB := Asd.mk h_; clear h_; have Kn := Asd.mk k_n; clear k_n; have Ko := Asd.mk k_o; clear k_o; have Ka := Asd.mk k_a; clear k_a; have Kb := Asd.mk k_b; clear k_b; have Kx := Asd.mk k_x; clear k_x
            refine pure_ (i := 16) (N := some 10) (v := ?_) (a' := ?_) X18 rfl rfl (any_of HT_.out (by kernel_rfl)) (fun _ _ _ h => h) (Or.inl ⟨by rfl, ?_⟩) ?_ ?_
            rotate_left
            ·
             intro w'
             go_simp
             with_reducible rfl
            rotate_left
            ·
             simp only [Act.put, List.setIfInBounds_toArray, List.set_cons_zero, List.set_cons_succ, i64_w, i32_w]
             rfl
            refine done_ (done_of HT_.out (by kernel_rfl)) ?_
            have Z : w.heap.size ≤ w7.heap.size := HB.out.size
            have Ln := Kn.out.lt; have cn0 := Kn.out.cell 0 rfl; have fn0 := Kn.out.frozen 0; have cn1 := Kn.out.cell 1 rfl; have fn1 := Kn.out.frozen 1; have cn2 := Kn.out.cell 2 rfl; have fn2 := Kn.out.frozen 2; have cn3 := Kn.out.cell 3 rfl; have fn3 := Kn.out.frozen 3; have cn4 := Kn.out.cell 4 rfl; have fn4 := Kn.out.frozen 4; have cn5 := Kn.out.cell 5 rfl; have fn5 := Kn.out.frozen 5
            have Lo := Ko.out.lt; have co0 := Ko.out.cell 0 rfl; have fo0 := Ko.out.frozen 0; have co1 := Ko.out.cell 1 rfl; have fo1 := Ko.out.frozen 1; have co2 := Ko.out.cell 2 rfl; have fo2 := Ko.out.frozen 2
            have La := Ka.out.lt; have ca0 := Ka.out.cell 0 rfl; have fa0 := Ka.out.frozen 0; have ca1 := Ka.out.cell 1 rfl; have fa1 := Ka.out.frozen 1; have ca2 := Ka.out.cell 2 rfl; have fa2 := Ka.out.frozen 2
            have Lb := Kb.out.lt; have cb0 := Kb.out.cell 0 rfl; have fb0 := Kb.out.frozen 0; have cb1 := Kb.out.cell 1 rfl; have fb1 := Kb.out.frozen 1; have cb2 := Kb.out.cell 2 rfl; have fb2 := Kb.out.frozen 2
            have Lx := Kx.out.lt; have cx0 := Kx.out.cell 0 rfl; have fx0 := Kx.out.frozen 0; have cx1 := Kx.out.cell 1 rfl; have fx1 := Kx.out.frozen 1; have cx2 := Kx.out.cell 2 rfl; have fx2 := Kx.out.frozen 2
            go_wp2
            go_meet
            case rel => exact ⟨(A0 + 1), l, (A0 + 1), A1, B1, P1, mid_promote0 R3.out h3.out (by omega) (by omega), (fun _ => ⟨by omega, (by repeat (first | exact Ka.out | refine Blk.far ?_ (by omega) _))⟩), (fun h_ => absurd h_ (by decide)), ((Kn.out.put 0 _ rfl).put 1 _ rfl).put 2 _ rfl, below_set (below_set (below_set HB.out (by omega)) (by omega)) (by omega)⟩
         ·
          obtain ⟨r0, hr0⟩ : ∃ r0, pOK A0 B0 P0 0 l = r0 := ⟨_, rfl⟩
          as_aux_lemma =>
           have hrr : (r0 == 0) = false := beq_eq_false_iff_ne.2 (by rw [← hr0]; exact hp)
           obtain ⟨r1, h1_⟩ : ∃ r, pE A0 B0 P0 0 l = r := ⟨_, rfl⟩; obtain ⟨r2, h2_⟩ : ∃ r, pB A0 B0 P0 0 l = r := ⟨_, rfl⟩
           have h1 := Asd.mk h1_; have h2 := Asd.mk h2_; have h3 := Asd.mk hr0; clear h1_ h2_ hr0 hp
           go_wp2_with fail
           have k_n := Kn.out.drew
           have k_o := Ko.out.drew
           have k_a := Ka.out.drew
           have k_b := Kb.out.drew
           have h_ := below_drew HB.out
           refine start_ (n := 17) (S := fun w' => w'.cell? ⟨w1.heap.size, 0, none⟩ = some (.int .i64 A0) ∧ w'.cell? ⟨w1.heap.size, 1, none⟩ = some (.int .i64 B0) ∧ w'.cell? ⟨w1.heap.size, 2, none⟩ = some (.int .i64 P0) ∧ w'.cell? ⟨w1.heap.size, 3, none⟩ = some (.int .i64 A1) ∧ w'.cell? ⟨w1.heap.size, 4, none⟩ = some (.int .i64 B1) ∧ w'.cell? ⟨w1.heap.size, 5, none⟩ = some (.int .i64 P1) ∧ w'.cell? ⟨wr.heap.size, 0, none⟩ = some (.int .i64 v0) ∧ w'.cell? ⟨wr.heap.size, 1, none⟩ = some (.int .i64 v1) ∧ w'.cell? ⟨wr.heap.size, 2, none⟩ = some (.int .i64 v2) ∧ w'.cell? ⟨wr.heap.size + 1, 0, none⟩ = some (.int .i64 A0) ∧ w'.cell? ⟨wr.heap.size + 1, 1, none⟩ = some (.int .i64 B0) ∧ w'.cell? ⟨wr.heap.size + 1, 2, none⟩ = some (.int .i64 P0) ∧ w'.cell? ⟨wr.heap.size + 1 + 1, 0, none⟩ = some (.int .i64 A1) ∧ w'.cell? ⟨wr.heap.size + 1 + 1, 1, none⟩ = some (.int .i64 B1) ∧ w'.cell? ⟨wr.heap.size + 1 + 1, 2, none⟩ = some (.int .i64 P1)) (ds := []) X0 (by kernel_rfl) rfl rfl ⟨k_n.cell 0 rfl, k_n.cell 1 rfl, k_n.cell 2 rfl, k_n.cell 3 rfl, k_n.cell 4 rfl, k_n.cell 5 rfl, k_o.cell 0 rfl, k_o.cell 1 rfl, k_o.cell 2 rfl, k_a.cell 0 rfl, k_a.cell 1 rfl, k_a.cell 2 rfl, k_b.cell 0 rfl, k_b.cell 1 rfl, k_b.cell 2 rfl⟩ (fun hHeld => ?_); refine with_tabW one13tab one13bits (fun HT_ HW_ => ?_)
           clear HB Kn Ko Ka Kb
           generalize w3.drew = w4 at k_n k_o k_a k_b h_ hHeld ⊢
           have HB := Asd.mk h_; clear h_; have Kn := Asd.mk k_n; clear k_n; have Ko := Asd.mk k_o; clear k_o; have Ka := Asd.mk k_a; clear k_a; have Kb := Asd.mk k_b; clear k_b
           clear Ln Lo La Lb cn0 fn0 cn1 fn1 cn2 fn2 cn3 fn3 cn4 fn4 cn5 fn5 co0 fo0 co1 fo1 co2 fo2 ca0 fa0 ca1 fa1 ca2 fa2 cb0 fb0 cb1 fb1 cb2 fb2
           refine pure_ (i := 0) (N := some 50) (v := ?_) (a' := ?_) X1 rfl rfl (any_of HT_.out (by kernel_rfl)) (fun _ _ _ h => h) (Or.inl ⟨by rfl, ?_⟩) ?_ ?_
           rotate_left
           ·
            intro w'
            go_simp
            with_reducible rfl
           rotate_left
           ·
            simp only [Act.put, List.setIfInBounds_toArray, List.set_cons_zero, List.set_cons_succ, i64_w, i32_w]
            rfl
           refine pure_ (i := 1) (N := some 51) (v := ?_) (a' := ?_) X2 rfl rfl (any_of HT_.out (by kernel_rfl)) (fun _ _ _ h => h) (Or.inl ⟨by rfl, ?_⟩) ?_ ?_
           rotate_left
           ·
            intro w'
            go_simp
            with_reducible rfl
           rotate_left
           ·
            simp only [Act.put, List.setIfInBounds_toArray, List.set_cons_zero, List.set_cons_succ, i64_w, i32_w]
            rfl
           refine pure_ (i := 2) (N := some 52) (v := ?_) (a' := ?_) X3 rfl rfl (any_of HT_.out (by kernel_rfl)) (fun _ _ _ h => h) (Or.inl ⟨by rfl, ?_⟩) ?_ ?_
           rotate_left
           ·
            intro w'
            go_simp
            with_reducible rfl
           rotate_left
           ·
            simp only [Act.put, List.setIfInBounds_toArray, List.set_cons_zero, List.set_cons_succ, i64_w, i32_w]
            rfl
           refine pure_ (i := 4) (N := some 54) (v := ?_) (a' := ?_) X4 rfl rfl (any_of HT_.out (by kernel_rfl)) (fun _ _ _ h => h) (Or.inl ⟨by rfl, ?_⟩) ?_ ?_
           rotate_left
           ·
            intro w'
            go_simp
            with_reducible rfl
           rotate_left
           ·
            simp only [Act.put, List.setIfInBounds_toArray, List.set_cons_zero, List.set_cons_succ, i64_w, i32_w]
            rfl
           refine pure_ (i := 5) (N := some 55) (v := ?_) (a' := ?_) X5 rfl rfl (any_of HT_.out (by kernel_rfl)) (fun _ _ _ h => h) (Or.inl ⟨by rfl, ?_⟩) ?_ ?_
           rotate_left
           ·
            intro w'
            go_simp
            with_reducible rfl
           rotate_left
           ·
            simp only [Act.put, List.setIfInBounds_toArray, List.set_cons_zero, List.set_cons_succ, i64_w, i32_w]
            rfl
           refine take_ (i := 3) (N := some 53) (v := ?_) (a' := ?_) X6 rfl rfl (take_ofW HT_.out HW_.out (by kernel_rfl)) (fun _ _ _ h => h) (Or.inl ⟨by rfl, ?_⟩) hHeld ?_ ?_
           rotate_left
           ·
            rintro w' ⟨s0, s1, s2, s3, s4, s5, s6, s7, s8, s9, s10, s11, s12, s13, s14⟩
            go_simp
            with_reducible rfl
           rotate_left
           ·
            simp only [Act.put, List.setIfInBounds_toArray, List.set_cons_zero, List.set_cons_succ, i64_w, i32_w]
            rfl
           refine take_ (i := 6) (N := some 56) (v := ?_) (a' := ?_) X7 rfl rfl (take_ofW HT_.out HW_.out (by kernel_rfl)) (fun _ _ _ h => h) (Or.inl ⟨by rfl, ?_⟩) hHeld ?_ ?_
           rotate_left
           ·
            rintro w' ⟨s0, s1, s2, s3, s4, s5, s6, s7, s8, s9, s10, s11, s12, s13, s14⟩
            go_simp
            with_reducible rfl
           rotate_left
           ·
            simp only [Act.put, List.setIfInBounds_toArray, List.set_cons_zero, List.set_cons_succ, i64_w, i32_w]
            rfl
           refine pure_ (i := 7) (N := some 57) (v := ?_) (a' := ?_) X8 rfl rfl (any_of HT_.out (by kernel_rfl)) (fun _ _ _ h => h) (Or.inl ⟨by rfl, ?_⟩) ?_ ?_
           rotate_left
           ·
            intro w'
            go_simp
            with_reducible rfl
           rotate_left
           ·
            simp only [Act.put, List.setIfInBounds_toArray, List.set_cons_zero, List.set_cons_succ, i64_w, i32_w]
            rfl
           refine pure_ (i := 8) (N := some 58) (v := ?_) (a' := ?_) X9 rfl rfl (any_of HT_.out (by kernel_rfl)) (fun _ _ _ h => h) (Or.inl ⟨by rfl, ?_⟩) ?_ ?_
           rotate_left
           ·
            intro w'
            go_simp
            with_reducible rfl
           rotate_left
           ·
            simp only [Act.put, List.setIfInBounds_toArray, List.set_cons_zero, List.set_cons_succ, i64_w, i32_w]
            rfl
           refine pure_ (i := 9) (N := some 59) (v := ?_) (a' := ?_) X10 rfl rfl (any_of HT_.out (by kernel_rfl)) (fun _ _ _ h => h) (Or.inl ⟨by rfl, ?_⟩) ?_ ?_
           rotate_left
           ·
            intro w'
            go_simp
            with_reducible rfl
           rotate_left
           ·
            simp only [Act.put, List.setIfInBounds_toArray, List.set_cons_zero, List.set_cons_succ, i64_w, i32_w]
            rfl
           refine two_ (i := 10) (j := 14) (Ni := some 60) (Nj := some 9) X11 X12 rfl rfl rfl rfl (two_of HT_.out (by kernel_rfl)) (by decide) (by decide) (fun K hK => ?_) (fun K hK => ?_)
           ·
            skip
            refine goes_ Try.func9 (by kernel_rfl) rfl #[.agg #[.int .i64 A0, .int .i64 B0, .int .i64 P0], .int .i64 0, .int .i64 l] (by rfl) rfl rfl (by (try simp only [List.map_toArray, List.map_cons, List.map_nil]); first | done | rfl | (simp only [List.length_drop, List.length_take]; rfl)) ?_
            with_reducible refine (promote_at (e := A0) (b := B0) (p := P0) (n := 0) (l := l) (r1 := r1) (r2 := r2) (r4 := r0) h1.out h2.out h3.out _).mono ?_
            rintro en w5 ⟨rfl, hb5⟩
            refine ⟨_, rfl, ?_⟩
            have k_n := Kn.out.below hb5
            have k_o := Ko.out.below hb5
            have k_a := Ka.out.below hb5
            have k_b := Kb.out.below hb5
            have h_ := below_step HB.out hb5
            clear HB hb5 Kn Ko Ka Kb; have HB := Asd.mk h_; clear h_; have Kn := Asd.mk k_n; clear k_n; have Ko := Asd.mk k_o; clear k_o; have Ka := Asd.mk k_a; clear k_a; have Kb := Asd.mk k_b; clear k_b
            refine hK.out _ _ ⟨Kn.out.cell 0 rfl, Kn.out.cell 1 rfl, Kn.out.cell 2 rfl, Kn.out.cell 3 rfl, Kn.out.cell 4 rfl, Kn.out.cell 5 rfl, Ko.out.cell 0 rfl, Ko.out.cell 1 rfl, Ko.out.cell 2 rfl, Ka.out.cell 0 rfl, Ka.out.cell 1 rfl, Ka.out.cell 2 rfl, Kb.out.cell 0 rfl, Kb.out.cell 1 rfl, Kb.out.cell 2 rfl⟩ (fun hHeld => ?_)
            clear hK K
            refine norm_ (a' := ?_) ?_ ?_
            rotate_left
            ·
             (try show Act.put _ (some 60) _ = _)
             first | rfl | (simp only [Act.put, List.setIfInBounds_toArray, List.set_cons_zero, List.set_cons_succ, i64_w, i32_w]; rfl)
            refine pure_ (i := 11) (N := some 49) (v := ?_) (a' := ?_) X13 rfl rfl (any_of HT_.out (by kernel_rfl)) (fun _ _ _ h => h) (Or.inl ⟨by rfl, ?_⟩) ?_ ?_
            rotate_left
            ·
             intro w'
             go_simp
             with_reducible rfl
            rotate_left
            ·
             simp only [Act.put, List.setIfInBounds_toArray, List.set_cons_zero, List.set_cons_succ, i64_w, i32_w]
             rfl
            refine pure_ (i := 12) (N := some 61) (v := ?_) (a' := ?_) X14 rfl rfl (any_of HT_.out (by kernel_rfl)) (fun _ _ _ h => h) (Or.inl ⟨by rfl, ?_⟩) ?_ ?_
            rotate_left
            ·
             intro w'
             go_simp
             with_reducible rfl
            rotate_left
            ·
             simp only [Act.put, List.setIfInBounds_toArray, List.set_cons_zero, List.set_cons_succ, i64_w, i32_w]
             rfl
            refine pure_ (i := 13) (N := some 62) (v := ?_) (a' := ?_) X15 rfl rfl (any_of HT_.out (by kernel_rfl)) (fun _ _ _ h => h) (Or.inl ⟨by rfl, ?_⟩) ?_ ?_
            rotate_left
            ·
             intro w'
             go_simp
             with_reducible rfl
            rotate_left
            ·
             simp only [Act.put, List.setIfInBounds_toArray, List.set_cons_zero, List.set_cons_succ, i64_w, i32_w]
             rfl
            refine one_ (i := 14) (N := some 9) X16 rfl rfl (one_of HT_.out (by kernel_rfl)) (by decide) (fun K hK => ?_)
            go_simp
            have k_n := Kn.out.alloc (.cells #[.int .i64 0, .int .i64 0, .int .i64 0] 27 (0, 0)); have Dnx : w1.heap.size < w5.heap.size := Kn.out.lt
            have k_o := Ko.out.alloc (.cells #[.int .i64 0, .int .i64 0, .int .i64 0] 27 (0, 0)); have Dox : wr.heap.size < w5.heap.size := Ko.out.lt
            have k_a := Ka.out.alloc (.cells #[.int .i64 0, .int .i64 0, .int .i64 0] 27 (0, 0)); have Dax : wr.heap.size + 1 < w5.heap.size := Ka.out.lt
            have k_b := Kb.out.alloc (.cells #[.int .i64 0, .int .i64 0, .int .i64 0] 27 (0, 0)); have Dbx : wr.heap.size + 1 + 1 < w5.heap.size := Kb.out.lt
            have k_x := Blk.new w5 #[.int .i64 0, .int .i64 0, .int .i64 0] 27
            have h_ := below_alloc HB.out (.cells #[.int .i64 0, .int .i64 0, .int .i64 0] 27 (0, 0)); have Gx : w.heap.size ≤ w5.heap.size := HB.out.size
            refine hK.out _ _ ⟨k_n.cell 0 rfl, k_n.cell 1 rfl, k_n.cell 2 rfl, k_n.cell 3 rfl, k_n.cell 4 rfl, k_n.cell 5 rfl, k_o.cell 0 rfl, k_o.cell 1 rfl, k_o.cell 2 rfl, k_a.cell 0 rfl, k_a.cell 1 rfl, k_a.cell 2 rfl, k_b.cell 0 rfl, k_b.cell 1 rfl, k_b.cell 2 rfl⟩ (fun hHeld => ?_)
            clear hK K
            clear HB Kn Ko Ka Kb
            generalize w5.alloc (.cells #[.int .i64 0, .int .i64 0, .int .i64 0] 27 (0, 0)) = w6 at k_n k_o k_a k_b k_x h_ hHeld ⊢
            have HB := Asd.mk h_; clear h_; have Kn := Asd.mk k_n; clear k_n; have Ko := Asd.mk k_o; clear k_o; have Ka := Asd.mk k_a; clear k_a; have Kb := Asd.mk k_b; clear k_b; have Kx := Asd.mk k_x; clear k_x
            refine norm_ (a' := ?_) ?_ ?_
            rotate_left
            ·
             (try show Act.put _ (some 9) _ = _)
             first | rfl | (simp only [Act.put, List.setIfInBounds_toArray, List.set_cons_zero, List.set_cons_succ, i64_w, i32_w]; rfl)
            refine one_ (i := 15) (N := none) X17 rfl rfl (one_of HT_.out (by kernel_rfl)) (by decide) (fun K hK => ?_)
            have z_0 := Kx.out.cell 0 rfl; have y_0 := Kx.out.frozen 0
            have z_1 := Kx.out.cell 1 rfl; have y_1 := Kx.out.frozen 1
            have z_2 := Kx.out.cell 2 rfl; have y_2 := Kx.out.frozen 2
            go_simp
            clear z_0 y_0 z_1 y_1 z_2 y_2
            have k_n := (((Kn.out.far (g2 := w5.heap.size) (i := 0) (by omega) (.int .i64 r1)).far (g2 := w5.heap.size) (i := 1) (by omega) (.int .i64 r2)).far (g2 := w5.heap.size) (i := 2) (by omega) (.int .i64 r1))
            have k_o := (((Ko.out.far (g2 := w5.heap.size) (i := 0) (by omega) (.int .i64 r1)).far (g2 := w5.heap.size) (i := 1) (by omega) (.int .i64 r2)).far (g2 := w5.heap.size) (i := 2) (by omega) (.int .i64 r1))
            have k_a := (((Ka.out.far (g2 := w5.heap.size) (i := 0) (by omega) (.int .i64 r1)).far (g2 := w5.heap.size) (i := 1) (by omega) (.int .i64 r2)).far (g2 := w5.heap.size) (i := 2) (by omega) (.int .i64 r1))
            have k_b := (((Kb.out.far (g2 := w5.heap.size) (i := 0) (by omega) (.int .i64 r1)).far (g2 := w5.heap.size) (i := 1) (by omega) (.int .i64 r2)).far (g2 := w5.heap.size) (i := 2) (by omega) (.int .i64 r1))
            have k_x := (((Kx.out.put 0 (.int .i64 r1) rfl).put 1 (.int .i64 r2) rfl).put 2 (.int .i64 r1) rfl)
            have h_ := below_set (below_set (below_set (HB.out) (j := 0) (v := .int .i64 r1) (g := w5.heap.size) (by omega)) (j := 1) (v := .int .i64 r2) (g := w5.heap.size) (by omega)) (j := 2) (v := .int .i64 r1) (g := w5.heap.size) (by omega)
            refine hK.out _ _ ⟨k_n.cell 0 rfl, k_n.cell 1 rfl, k_n.cell 2 rfl, k_n.cell 3 rfl, k_n.cell 4 rfl, k_n.cell 5 rfl, k_o.cell 0 rfl, k_o.cell 1 rfl, k_o.cell 2 rfl, k_a.cell 0 rfl, k_a.cell 1 rfl, k_a.cell 2 rfl, k_b.cell 0 rfl, k_b.cell 1 rfl, k_b.cell 2 rfl⟩ (fun hHeld => ?_)
            clear hK K
            clear HB Kn Ko Ka Kb Kx
            generalize (((w6).setCell ⟨w5.heap.size, 0, none⟩ (.int .i64 r1)).setCell ⟨w5.heap.size, 1, none⟩ (.int .i64 r2)).setCell ⟨w5.heap.size, 2, none⟩ (.int .i64 r1) = w7 at k_n k_o k_a k_b k_x h_ hHeld ⊢
            have HB := Asd.mk h_; clear h_; have Kn := Asd.mk k_n; clear k_n; have Ko := Asd.mk k_o; clear k_o; have Ka := Asd.mk k_a; clear k_a; have Kb := Asd.mk k_b; clear k_b; have Kx := Asd.mk k_x; clear k_x
            refine pure_ (i := 16) (N := some 10) (v := ?_) (a' := ?_) X18 rfl rfl (any_of HT_.out (by kernel_rfl)) (fun _ _ _ h => h) (Or.inl ⟨by rfl, ?_⟩) ?_ ?_
            rotate_left
            ·
             intro w'
             go_simp
             with_reducible rfl
            rotate_left
            ·
             simp only [Act.put, List.setIfInBounds_toArray, List.set_cons_zero, List.set_cons_succ, i64_w, i32_w]
             rfl
            refine done_ (done_of HT_.out (by kernel_rfl)) ?_
            have Z : w.heap.size ≤ w7.heap.size := HB.out.size
            have Ln := Kn.out.lt; have cn0 := Kn.out.cell 0 rfl; have fn0 := Kn.out.frozen 0; have cn1 := Kn.out.cell 1 rfl; have fn1 := Kn.out.frozen 1; have cn2 := Kn.out.cell 2 rfl; have fn2 := Kn.out.frozen 2; have cn3 := Kn.out.cell 3 rfl; have fn3 := Kn.out.frozen 3; have cn4 := Kn.out.cell 4 rfl; have fn4 := Kn.out.frozen 4; have cn5 := Kn.out.cell 5 rfl; have fn5 := Kn.out.frozen 5
            have Lo := Ko.out.lt; have co0 := Ko.out.cell 0 rfl; have fo0 := Ko.out.frozen 0; have co1 := Ko.out.cell 1 rfl; have fo1 := Ko.out.frozen 1; have co2 := Ko.out.cell 2 rfl; have fo2 := Ko.out.frozen 2
            have La := Ka.out.lt; have ca0 := Ka.out.cell 0 rfl; have fa0 := Ka.out.frozen 0; have ca1 := Ka.out.cell 1 rfl; have fa1 := Ka.out.frozen 1; have ca2 := Ka.out.cell 2 rfl; have fa2 := Ka.out.frozen 2
            have Lb := Kb.out.lt; have cb0 := Kb.out.cell 0 rfl; have fb0 := Kb.out.frozen 0; have cb1 := Kb.out.cell 1 rfl; have fb1 := Kb.out.frozen 1; have cb2 := Kb.out.cell 2 rfl; have fb2 := Kb.out.frozen 2
            have Lx := Kx.out.lt; have cx0 := Kx.out.cell 0 rfl; have fx0 := Kx.out.frozen 0; have cx1 := Kx.out.cell 1 rfl; have fx1 := Kx.out.frozen 1; have cx2 := Kx.out.cell 2 rfl; have fx2 := Kx.out.frozen 2
            go_wp2
            go_meet
            case rel => exact ⟨A0, B0, P0, A1, B1, P1, mid_same R3.out, (fun _ => ⟨by omega, Ka.out⟩), (fun h_ => absurd h_ (by decide)), Kn.out, HB.out⟩
           ·
            skip
            go_simp
            have k_n := Kn.out.alloc (.cells #[.int .i64 0, .int .i64 0, .int .i64 0] 27 (0, 0)); have Dnx : w1.heap.size < w4.heap.size := Kn.out.lt
            have k_o := Ko.out.alloc (.cells #[.int .i64 0, .int .i64 0, .int .i64 0] 27 (0, 0)); have Dox : wr.heap.size < w4.heap.size := Ko.out.lt
            have k_a := Ka.out.alloc (.cells #[.int .i64 0, .int .i64 0, .int .i64 0] 27 (0, 0)); have Dax : wr.heap.size + 1 < w4.heap.size := Ka.out.lt
            have k_b := Kb.out.alloc (.cells #[.int .i64 0, .int .i64 0, .int .i64 0] 27 (0, 0)); have Dbx : wr.heap.size + 1 + 1 < w4.heap.size := Kb.out.lt
            have k_x := Blk.new w4 #[.int .i64 0, .int .i64 0, .int .i64 0] 27
            have h_ := below_alloc HB.out (.cells #[.int .i64 0, .int .i64 0, .int .i64 0] 27 (0, 0)); have Gx : w.heap.size ≤ w4.heap.size := HB.out.size
            refine hK.out _ _ ⟨k_n.cell 0 rfl, k_n.cell 1 rfl, k_n.cell 2 rfl, k_n.cell 3 rfl, k_n.cell 4 rfl, k_n.cell 5 rfl, k_o.cell 0 rfl, k_o.cell 1 rfl, k_o.cell 2 rfl, k_a.cell 0 rfl, k_a.cell 1 rfl, k_a.cell 2 rfl, k_b.cell 0 rfl, k_b.cell 1 rfl, k_b.cell 2 rfl⟩ (fun hHeld => ?_)
            clear hK K
            clear HB Kn Ko Ka Kb
            generalize w4.alloc (.cells #[.int .i64 0, .int .i64 0, .int .i64 0] 27 (0, 0)) = w5 at k_n k_o k_a k_b k_x h_ hHeld ⊢
            have HB := Asd.mk h_; clear h_; have Kn := Asd.mk k_n; clear k_n; have Ko := Asd.mk k_o; clear k_o; have Ka := Asd.mk k_a; clear k_a; have Kb := Asd.mk k_b; clear k_b; have Kx := Asd.mk k_x; clear k_x
            refine norm_ (a' := ?_) ?_ ?_
            rotate_left
            ·
             (try show Act.put _ (some 9) _ = _)
             first | rfl | (simp only [Act.put, List.setIfInBounds_toArray, List.set_cons_zero, List.set_cons_succ, i64_w, i32_w]; rfl)
            refine one_ (i := 10) (N := some 60) X19 rfl rfl (one_of HT_.out (by kernel_rfl)) (by decide) (fun K hK => ?_)
            refine goes_ Try.func9 (by kernel_rfl) rfl #[.agg #[.int .i64 A0, .int .i64 B0, .int .i64 P0], .int .i64 0, .int .i64 l] (by rfl) rfl rfl (by (try simp only [List.map_toArray, List.map_cons, List.map_nil]); first | done | rfl | (simp only [List.length_drop, List.length_take]; rfl)) ?_
            with_reducible refine (promote_at (e := A0) (b := B0) (p := P0) (n := 0) (l := l) (r1 := r1) (r2 := r2) (r4 := r0) h1.out h2.out h3.out _).mono ?_
            rintro en w6 ⟨rfl, hb6⟩
            refine ⟨_, rfl, ?_⟩
            have k_n := Kn.out.below hb6
            have k_o := Ko.out.below hb6
            have k_a := Ka.out.below hb6
            have k_b := Kb.out.below hb6
            have k_x := Kx.out.below hb6
            have h_ := below_step HB.out hb6
            clear HB hb6 Kn Ko Ka Kb Kx; have HB := Asd.mk h_; clear h_; have Kn := Asd.mk k_n; clear k_n; have Ko := Asd.mk k_o; clear k_o; have Ka := Asd.mk k_a; clear k_a; have Kb := Asd.mk k_b; clear k_b; have Kx := Asd.mk k_x; clear k_x
            refine hK.out _ _ ⟨Kn.out.cell 0 rfl, Kn.out.cell 1 rfl, Kn.out.cell 2 rfl, Kn.out.cell 3 rfl, Kn.out.cell 4 rfl, Kn.out.cell 5 rfl, Ko.out.cell 0 rfl, Ko.out.cell 1 rfl, Ko.out.cell 2 rfl, Ka.out.cell 0 rfl, Ka.out.cell 1 rfl, Ka.out.cell 2 rfl, Kb.out.cell 0 rfl, Kb.out.cell 1 rfl, Kb.out.cell 2 rfl⟩ (fun hHeld => ?_)
            clear hK K
            refine norm_ (a' := ?_) ?_ ?_
            rotate_left
            ·
             (try show Act.put _ (some 60) _ = _)
             first | rfl | (simp only [Act.put, List.setIfInBounds_toArray, List.set_cons_zero, List.set_cons_succ, i64_w, i32_w]; rfl)
            refine pure_ (i := 11) (N := some 49) (v := ?_) (a' := ?_) X20 rfl rfl (any_of HT_.out (by kernel_rfl)) (fun _ _ _ h => h) (Or.inl ⟨by rfl, ?_⟩) ?_ ?_
            rotate_left
            ·
             intro w'
             go_simp
             with_reducible rfl
            rotate_left
            ·
             simp only [Act.put, List.setIfInBounds_toArray, List.set_cons_zero, List.set_cons_succ, i64_w, i32_w]
             rfl
            refine pure_ (i := 12) (N := some 61) (v := ?_) (a' := ?_) X21 rfl rfl (any_of HT_.out (by kernel_rfl)) (fun _ _ _ h => h) (Or.inl ⟨by rfl, ?_⟩) ?_ ?_
            rotate_left
            ·
             intro w'
             go_simp
             with_reducible rfl
            rotate_left
            ·
             simp only [Act.put, List.setIfInBounds_toArray, List.set_cons_zero, List.set_cons_succ, i64_w, i32_w]
             rfl
            refine pure_ (i := 13) (N := some 62) (v := ?_) (a' := ?_) X16 rfl rfl (any_of HT_.out (by kernel_rfl)) (fun _ _ _ h => h) (Or.inl ⟨by rfl, ?_⟩) ?_ ?_
            rotate_left
            ·
             intro w'
             go_simp
             with_reducible rfl
            rotate_left
            ·
             simp only [Act.put, List.setIfInBounds_toArray, List.set_cons_zero, List.set_cons_succ, i64_w, i32_w]
             rfl
            refine one_ (i := 15) (N := none) X17 rfl rfl (one_of HT_.out (by kernel_rfl)) (by decide) (fun K hK => ?_)
            have z_0 := Kx.out.cell 0 rfl; have y_0 := Kx.out.frozen 0
            have z_1 := Kx.out.cell 1 rfl; have y_1 := Kx.out.frozen 1
            have z_2 := Kx.out.cell 2 rfl; have y_2 := Kx.out.frozen 2
            go_simp
            clear z_0 y_0 z_1 y_1 z_2 y_2
            have k_n := (((Kn.out.far (g2 := w4.heap.size) (i := 0) (by omega) (.int .i64 r1)).far (g2 := w4.heap.size) (i := 1) (by omega) (.int .i64 r2)).far (g2 := w4.heap.size) (i := 2) (by omega) (.int .i64 r1))
            have k_o := (((Ko.out.far (g2 := w4.heap.size) (i := 0) (by omega) (.int .i64 r1)).far (g2 := w4.heap.size) (i := 1) (by omega) (.int .i64 r2)).far (g2 := w4.heap.size) (i := 2) (by omega) (.int .i64 r1))
            have k_a := (((Ka.out.far (g2 := w4.heap.size) (i := 0) (by omega) (.int .i64 r1)).far (g2 := w4.heap.size) (i := 1) (by omega) (.int .i64 r2)).far (g2 := w4.heap.size) (i := 2) (by omega) (.int .i64 r1))
            have k_b := (((Kb.out.far (g2 := w4.heap.size) (i := 0) (by omega) (.int .i64 r1)).far (g2 := w4.heap.size) (i := 1) (by omega) (.int .i64 r2)).far (g2 := w4.heap.size) (i := 2) (by omega) (.int .i64 r1))
            have k_x := (((Kx.out.put 0 (.int .i64 r1) rfl).put 1 (.int .i64 r2) rfl).put 2 (.int .i64 r1) rfl)
            have h_ := below_set (below_set (below_set (HB.out) (j := 0) (v := .int .i64 r1) (g := w4.heap.size) (by omega)) (j := 1) (v := .int .i64 r2) (g := w4.heap.size) (by omega)) (j := 2) (v := .int .i64 r1) (g := w4.heap.size) (by omega)
            refine hK.out _ _ ⟨k_n.cell 0 rfl, k_n.cell 1 rfl, k_n.cell 2 rfl, k_n.cell 3 rfl, k_n.cell 4 rfl, k_n.cell 5 rfl, k_o.cell 0 rfl, k_o.cell 1 rfl, k_o.cell 2 rfl, k_a.cell 0 rfl, k_a.cell 1 rfl, k_a.cell 2 rfl, k_b.cell 0 rfl, k_b.cell 1 rfl, k_b.cell 2 rfl⟩ (fun hHeld => ?_)
            clear hK K
            clear HB Kn Ko Ka Kb Kx
            generalize (((w6).setCell ⟨w4.heap.size, 0, none⟩ (.int .i64 r1)).setCell ⟨w4.heap.size, 1, none⟩ (.int .i64 r2)).setCell ⟨w4.heap.size, 2, none⟩ (.int .i64 r1) = w7 at k_n k_o k_a k_b k_x h_ hHeld ⊢
            have HB := Asd.mk h_; clear h_; have Kn := Asd.mk k_n; clear k_n; have Ko := Asd.mk k_o; clear k_o; have Ka := Asd.mk k_a; clear k_a; have Kb := Asd.mk k_b; clear k_b; have Kx := Asd.mk k_x; clear k_x
            refine pure_ (i := 16) (N := some 10) (v := ?_) (a' := ?_) X18 rfl rfl (any_of HT_.out (by kernel_rfl)) (fun _ _ _ h => h) (Or.inl ⟨by rfl, ?_⟩) ?_ ?_
            rotate_left
            ·
             intro w'
             go_simp
             with_reducible rfl
            rotate_left
            ·
             simp only [Act.put, List.setIfInBounds_toArray, List.set_cons_zero, List.set_cons_succ, i64_w, i32_w]
             rfl
            refine done_ (done_of HT_.out (by kernel_rfl)) ?_
            have Z : w.heap.size ≤ w7.heap.size := HB.out.size
            have Ln := Kn.out.lt; have cn0 := Kn.out.cell 0 rfl; have fn0 := Kn.out.frozen 0; have cn1 := Kn.out.cell 1 rfl; have fn1 := Kn.out.frozen 1; have cn2 := Kn.out.cell 2 rfl; have fn2 := Kn.out.frozen 2; have cn3 := Kn.out.cell 3 rfl; have fn3 := Kn.out.frozen 3; have cn4 := Kn.out.cell 4 rfl; have fn4 := Kn.out.frozen 4; have cn5 := Kn.out.cell 5 rfl; have fn5 := Kn.out.frozen 5
            have Lo := Ko.out.lt; have co0 := Ko.out.cell 0 rfl; have fo0 := Ko.out.frozen 0; have co1 := Ko.out.cell 1 rfl; have fo1 := Ko.out.frozen 1; have co2 := Ko.out.cell 2 rfl; have fo2 := Ko.out.frozen 2
            have La := Ka.out.lt; have ca0 := Ka.out.cell 0 rfl; have fa0 := Ka.out.frozen 0; have ca1 := Ka.out.cell 1 rfl; have fa1 := Ka.out.frozen 1; have ca2 := Ka.out.cell 2 rfl; have fa2 := Ka.out.frozen 2
            have Lb := Kb.out.lt; have cb0 := Kb.out.cell 0 rfl; have fb0 := Kb.out.frozen 0; have cb1 := Kb.out.cell 1 rfl; have fb1 := Kb.out.frozen 1; have cb2 := Kb.out.cell 2 rfl; have fb2 := Kb.out.frozen 2
            have Lx := Kx.out.lt; have cx0 := Kx.out.cell 0 rfl; have fx0 := Kx.out.frozen 0; have cx1 := Kx.out.cell 1 rfl; have fx1 := Kx.out.frozen 1; have cx2 := Kx.out.cell 2 rfl; have fx2 := Kx.out.frozen 2
            go_wp2
            go_meet
            case rel => exact ⟨A0, B0, P0, A1, B1, P1, mid_same R3.out, (fun _ => ⟨by omega, Ka.out⟩), (fun h_ => absurd h_ (by decide)), Kn.out, HB.out⟩
        ·
         have hkk0 : (v1 == 0) = false := beq_eq_false_iff_ne.2 hk0
         clear hk0
         by_cases hk1 : v1 = 1
         ·
          have hkk : (v1 == 1) = true := beq_iff_eq.2 hk1
          clear hk1
          by_cases hj : judgeI A0 B0 P0 0 A1 true = 2
          ·
           have h1 := Asd.mk hj; clear hj
           as_aux_lemma =>
            go_wp2_with fail
            go_region_held3 (fun w' => Below w.heap.size w w' ∧ Blk w' (w1.heap.size) #[.int .i64 A0, .int .i64 B0, .int .i64 P0, .int .i64 A1, .int .i64 B1, .int .i64 P1] 27 ∧ Blk w' (wr.heap.size) #[.int .i64 v0, .int .i64 v1, .int .i64 v2] 48 ∧ Blk w' (wr.heap.size + 1) #[.int .i64 A0, .int .i64 B0, .int .i64 P0] 27 ∧ Blk w' (wr.heap.size + 1 + 1) #[.int .i64 A1, .int .i64 B1, .int .i64 P1] 27 ∧ w'.cell? ⟨w1.heap.size, 0, none⟩ = some (.int .i64 A0) ∧ w'.cell? ⟨w1.heap.size, 1, none⟩ = some (.int .i64 B0) ∧ w'.cell? ⟨w1.heap.size, 2, none⟩ = some (.int .i64 P0) ∧ w'.cell? ⟨w1.heap.size, 3, none⟩ = some (.int .i64 A1) ∧ w'.cell? ⟨w1.heap.size, 4, none⟩ = some (.int .i64 B1) ∧ w'.cell? ⟨w1.heap.size, 5, none⟩ = some (.int .i64 P1) ∧ w'.cell? ⟨wr.heap.size, 0, none⟩ = some (.int .i64 v0) ∧ w'.cell? ⟨wr.heap.size, 1, none⟩ = some (.int .i64 v1) ∧ w'.cell? ⟨wr.heap.size, 2, none⟩ = some (.int .i64 v2) ∧ w'.cell? ⟨wr.heap.size + 1, 0, none⟩ = some (.int .i64 A0) ∧ w'.cell? ⟨wr.heap.size + 1, 1, none⟩ = some (.int .i64 B0) ∧ w'.cell? ⟨wr.heap.size + 1, 2, none⟩ = some (.int .i64 P0) ∧ w'.cell? ⟨wr.heap.size + 1 + 1, 0, none⟩ = some (.int .i64 A1) ∧ w'.cell? ⟨wr.heap.size + 1 + 1, 1, none⟩ = some (.int .i64 B1) ∧ w'.cell? ⟨wr.heap.size + 1 + 1, 2, none⟩ = some (.int .i64 P1)) (first | exact ⟨below_drew HB.out, Kn.out.drew, Ko.out.drew, Ka.out.drew, Kb.out.drew, Kn.out.drew.cell 0 rfl, Kn.out.drew.cell 1 rfl, Kn.out.drew.cell 2 rfl, Kn.out.drew.cell 3 rfl, Kn.out.drew.cell 4 rfl, Kn.out.drew.cell 5 rfl, Ko.out.drew.cell 0 rfl, Ko.out.drew.cell 1 rfl, Ko.out.drew.cell 2 rfl, Ka.out.drew.cell 0 rfl, Ka.out.drew.cell 1 rfl, Ka.out.drew.cell 2 rfl, Kb.out.drew.cell 0 rfl, Kb.out.drew.cell 1 rfl, Kb.out.drew.cell 2 rfl⟩ | (have hh := ‹Below w.heap.size w _ ∧ _›; exact ⟨below_step hh.1 hb, hh.2.1.below hb, hh.2.2.1.below hb, hh.2.2.2.1.below hb, hh.2.2.2.2.1.below hb, (hh.2.1.below hb).cell 0 rfl, (hh.2.1.below hb).cell 1 rfl, (hh.2.1.below hb).cell 2 rfl, (hh.2.1.below hb).cell 3 rfl, (hh.2.1.below hb).cell 4 rfl, (hh.2.1.below hb).cell 5 rfl, (hh.2.2.1.below hb).cell 0 rfl, (hh.2.2.1.below hb).cell 1 rfl, (hh.2.2.1.below hb).cell 2 rfl, (hh.2.2.2.1.below hb).cell 0 rfl, (hh.2.2.2.1.below hb).cell 1 rfl, (hh.2.2.2.1.below hb).cell 2 rfl, (hh.2.2.2.2.1.below hb).cell 0 rfl, (hh.2.2.2.2.1.below hb).cell 1 rfl, (hh.2.2.2.2.1.below hb).cell 2 rfl⟩) | exact ‹Below w.heap.size w _ ∧ _›) (first | (go_at_call 16; refine (judge_at (e := A0) (b := B0) (p := P0) (n := 0) (x := A1) (t := true) (r := 2) h1.out _).mono ?_; rintro en w40 ⟨rfl, hb⟩))
            obtain ⟨h_, k_n, k_o, k_a, k_b, _⟩ := ‹Below w.heap.size w w40 ∧ _›
            clear Kn Ln cn0 fn0 cn1 fn1 cn2 fn2 cn3 fn3 cn4 fn4 cn5 fn5 Ko Lo co0 fo0 co1 fo1 co2 fo2 Ka La ca0 fa0 ca1 fa1 ca2 fa2 Kb Lb cb0 fb0 cb1 fb1 cb2 fb2 HB Z; have HB := Asd.mk h_; clear h_; have Z : w.heap.size ≤ w40.heap.size := HB.out.size
            have Kn := Asd.mk k_n; have Ln := k_n.lt; have cn0 := k_n.cell 0 rfl; have fn0 := k_n.frozen 0; have cn1 := k_n.cell 1 rfl; have fn1 := k_n.frozen 1; have cn2 := k_n.cell 2 rfl; have fn2 := k_n.frozen 2; have cn3 := k_n.cell 3 rfl; have fn3 := k_n.frozen 3; have cn4 := k_n.cell 4 rfl; have fn4 := k_n.frozen 4; have cn5 := k_n.cell 5 rfl; have fn5 := k_n.frozen 5; clear k_n
            have Ko := Asd.mk k_o; have Lo := k_o.lt; have co0 := k_o.cell 0 rfl; have fo0 := k_o.frozen 0; have co1 := k_o.cell 1 rfl; have fo1 := k_o.frozen 1; have co2 := k_o.cell 2 rfl; have fo2 := k_o.frozen 2; clear k_o
            have Ka := Asd.mk k_a; have La := k_a.lt; have ca0 := k_a.cell 0 rfl; have fa0 := k_a.frozen 0; have ca1 := k_a.cell 1 rfl; have fa1 := k_a.frozen 1; have ca2 := k_a.cell 2 rfl; have fa2 := k_a.frozen 2; clear k_a
            have Kb := Asd.mk k_b; have Lb := k_b.lt; have cb0 := k_b.cell 0 rfl; have fb0 := k_b.frozen 0; have cb1 := k_b.cell 1 rfl; have fb1 := k_b.frozen 1; have cb2 := k_b.cell 2 rfl; have fb2 := k_b.frozen 2; clear k_b
            have hw := Asd.mk (show wrap64 (A0 + 1) = A0 + 1 by unfold wrap64; omega)
            go_wp2_with fail
            refine (promises_at (e := A0) (b := B0) (p := P0) (r := A0 + 1) hw.out _).mono ?_; rintro en w4 ⟨rfl, hb4⟩
            have k_n : Blk w4 (w1.heap.size) #[.int .i64 A0, .int .i64 B0, .int .i64 P0, .int .i64 A1, .int .i64 B1, .int .i64 P1] 27 := (by first | exact Kn.out.below hb4 | exact (Kn.out.alloc _).below hb4 | exact ((Kn.out.alloc _).alloc _).below hb4)
            have k_o : Blk w4 (wr.heap.size) #[.int .i64 v0, .int .i64 v1, .int .i64 v2] 48 := (by first | exact Ko.out.below hb4 | exact (Ko.out.alloc _).below hb4 | exact ((Ko.out.alloc _).alloc _).below hb4)
            have k_a : Blk w4 (wr.heap.size + 1) #[.int .i64 A0, .int .i64 B0, .int .i64 P0] 27 := (by first | exact Ka.out.below hb4 | exact (Ka.out.alloc _).below hb4 | exact ((Ka.out.alloc _).alloc _).below hb4)
            have k_b : Blk w4 (wr.heap.size + 1 + 1) #[.int .i64 A1, .int .i64 B1, .int .i64 P1] 27 := (by first | exact Kb.out.below hb4 | exact (Kb.out.alloc _).below hb4 | exact ((Kb.out.alloc _).alloc _).below hb4)
            have h_ : Below w.heap.size w w4 := below_step (by repeat (first | exact HB.out | apply below_alloc | apply below_drewN | apply below_drew | refine below_set ?_ (by have := HB.out.size; omega))) hb4
            clear Kn Ln cn0 fn0 cn1 fn1 cn2 fn2 cn3 fn3 cn4 fn4 cn5 fn5 Ko Lo co0 fo0 co1 fo1 co2 fo2 Ka La ca0 fa0 ca1 fa1 ca2 fa2 Kb Lb cb0 fb0 cb1 fb1 cb2 fb2
            clear HB hb4 Z; have HB := Asd.mk h_; clear h_; have Z : w.heap.size ≤ w4.heap.size := HB.out.size
            have Kn := Asd.mk k_n; have Ln := k_n.lt; have cn0 := k_n.cell 0 rfl; have fn0 := k_n.frozen 0; have cn1 := k_n.cell 1 rfl; have fn1 := k_n.frozen 1; have cn2 := k_n.cell 2 rfl; have fn2 := k_n.frozen 2; have cn3 := k_n.cell 3 rfl; have fn3 := k_n.frozen 3; have cn4 := k_n.cell 4 rfl; have fn4 := k_n.frozen 4; have cn5 := k_n.cell 5 rfl; have fn5 := k_n.frozen 5; clear k_n
            have Ko := Asd.mk k_o; have Lo := k_o.lt; have co0 := k_o.cell 0 rfl; have fo0 := k_o.frozen 0; have co1 := k_o.cell 1 rfl; have fo1 := k_o.frozen 1; have co2 := k_o.cell 2 rfl; have fo2 := k_o.frozen 2; clear k_o
            have Ka := Asd.mk k_a; have La := k_a.lt; have ca0 := k_a.cell 0 rfl; have fa0 := k_a.frozen 0; have ca1 := k_a.cell 1 rfl; have fa1 := k_a.frozen 1; have ca2 := k_a.cell 2 rfl; have fa2 := k_a.frozen 2; clear k_a
            have Kb := Asd.mk k_b; have Lb := k_b.lt; have cb0 := k_b.cell 0 rfl; have fb0 := k_b.frozen 0; have cb1 := k_b.cell 1 rfl; have fb1 := k_b.frozen 1; have cb2 := k_b.cell 2 rfl; have fb2 := k_b.frozen 2; clear k_b
            go_wp2
            go_meet
            case rel => exact ⟨A0, B0, (A0 + 1), A1, B1, P1, mid_promises0 R3.out h1.out, (fun _ => ⟨by omega, (by repeat (first | exact Ka.out | refine Blk.far ?_ (by omega) _))⟩), (fun h_ => absurd h_ (by decide)), ((Kn.out.put 0 _ rfl).put 1 _ rfl).put 2 _ rfl, below_set (below_set (below_set HB.out (by omega)) (by omega)) (by omega)⟩
          ·
           obtain ⟨j, hj_⟩ : ∃ j, judgeI A0 B0 P0 0 A1 true = j := ⟨_, rfl⟩
           as_aux_lemma =>
            have hjj : (j == 2) = false := beq_eq_false_iff_ne.2 (by rw [← hj_]; exact hj)
            have h1 := Asd.mk hj_; clear hj hj_
            go_wp2_with fail
            go_region_held3 (fun w' => Below w.heap.size w w' ∧ Blk w' (w1.heap.size) #[.int .i64 A0, .int .i64 B0, .int .i64 P0, .int .i64 A1, .int .i64 B1, .int .i64 P1] 27 ∧ Blk w' (wr.heap.size) #[.int .i64 v0, .int .i64 v1, .int .i64 v2] 48 ∧ Blk w' (wr.heap.size + 1) #[.int .i64 A0, .int .i64 B0, .int .i64 P0] 27 ∧ Blk w' (wr.heap.size + 1 + 1) #[.int .i64 A1, .int .i64 B1, .int .i64 P1] 27 ∧ w'.cell? ⟨w1.heap.size, 0, none⟩ = some (.int .i64 A0) ∧ w'.cell? ⟨w1.heap.size, 1, none⟩ = some (.int .i64 B0) ∧ w'.cell? ⟨w1.heap.size, 2, none⟩ = some (.int .i64 P0) ∧ w'.cell? ⟨w1.heap.size, 3, none⟩ = some (.int .i64 A1) ∧ w'.cell? ⟨w1.heap.size, 4, none⟩ = some (.int .i64 B1) ∧ w'.cell? ⟨w1.heap.size, 5, none⟩ = some (.int .i64 P1) ∧ w'.cell? ⟨wr.heap.size, 0, none⟩ = some (.int .i64 v0) ∧ w'.cell? ⟨wr.heap.size, 1, none⟩ = some (.int .i64 v1) ∧ w'.cell? ⟨wr.heap.size, 2, none⟩ = some (.int .i64 v2) ∧ w'.cell? ⟨wr.heap.size + 1, 0, none⟩ = some (.int .i64 A0) ∧ w'.cell? ⟨wr.heap.size + 1, 1, none⟩ = some (.int .i64 B0) ∧ w'.cell? ⟨wr.heap.size + 1, 2, none⟩ = some (.int .i64 P0) ∧ w'.cell? ⟨wr.heap.size + 1 + 1, 0, none⟩ = some (.int .i64 A1) ∧ w'.cell? ⟨wr.heap.size + 1 + 1, 1, none⟩ = some (.int .i64 B1) ∧ w'.cell? ⟨wr.heap.size + 1 + 1, 2, none⟩ = some (.int .i64 P1)) (first | exact ⟨below_drew HB.out, Kn.out.drew, Ko.out.drew, Ka.out.drew, Kb.out.drew, Kn.out.drew.cell 0 rfl, Kn.out.drew.cell 1 rfl, Kn.out.drew.cell 2 rfl, Kn.out.drew.cell 3 rfl, Kn.out.drew.cell 4 rfl, Kn.out.drew.cell 5 rfl, Ko.out.drew.cell 0 rfl, Ko.out.drew.cell 1 rfl, Ko.out.drew.cell 2 rfl, Ka.out.drew.cell 0 rfl, Ka.out.drew.cell 1 rfl, Ka.out.drew.cell 2 rfl, Kb.out.drew.cell 0 rfl, Kb.out.drew.cell 1 rfl, Kb.out.drew.cell 2 rfl⟩ | (have hh := ‹Below w.heap.size w _ ∧ _›; exact ⟨below_step hh.1 hb, hh.2.1.below hb, hh.2.2.1.below hb, hh.2.2.2.1.below hb, hh.2.2.2.2.1.below hb, (hh.2.1.below hb).cell 0 rfl, (hh.2.1.below hb).cell 1 rfl, (hh.2.1.below hb).cell 2 rfl, (hh.2.1.below hb).cell 3 rfl, (hh.2.1.below hb).cell 4 rfl, (hh.2.1.below hb).cell 5 rfl, (hh.2.2.1.below hb).cell 0 rfl, (hh.2.2.1.below hb).cell 1 rfl, (hh.2.2.1.below hb).cell 2 rfl, (hh.2.2.2.1.below hb).cell 0 rfl, (hh.2.2.2.1.below hb).cell 1 rfl, (hh.2.2.2.1.below hb).cell 2 rfl, (hh.2.2.2.2.1.below hb).cell 0 rfl, (hh.2.2.2.2.1.below hb).cell 1 rfl, (hh.2.2.2.2.1.below hb).cell 2 rfl⟩) | exact ‹Below w.heap.size w _ ∧ _›) (first | (go_at_call 16; refine (judge_at (e := A0) (b := B0) (p := P0) (n := 0) (x := A1) (t := true) (r := j) h1.out _).mono ?_; rintro en w40 ⟨rfl, hb⟩))
            obtain ⟨h_, k_n, k_o, k_a, k_b, _⟩ := ‹Below w.heap.size w w40 ∧ _›
            clear Kn Ln cn0 fn0 cn1 fn1 cn2 fn2 cn3 fn3 cn4 fn4 cn5 fn5 Ko Lo co0 fo0 co1 fo1 co2 fo2 Ka La ca0 fa0 ca1 fa1 ca2 fa2 Kb Lb cb0 fb0 cb1 fb1 cb2 fb2 HB Z; have HB := Asd.mk h_; clear h_; have Z : w.heap.size ≤ w40.heap.size := HB.out.size
            have Kn := Asd.mk k_n; have Ln := k_n.lt; have cn0 := k_n.cell 0 rfl; have fn0 := k_n.frozen 0; have cn1 := k_n.cell 1 rfl; have fn1 := k_n.frozen 1; have cn2 := k_n.cell 2 rfl; have fn2 := k_n.frozen 2; have cn3 := k_n.cell 3 rfl; have fn3 := k_n.frozen 3; have cn4 := k_n.cell 4 rfl; have fn4 := k_n.frozen 4; have cn5 := k_n.cell 5 rfl; have fn5 := k_n.frozen 5; clear k_n
            have Ko := Asd.mk k_o; have Lo := k_o.lt; have co0 := k_o.cell 0 rfl; have fo0 := k_o.frozen 0; have co1 := k_o.cell 1 rfl; have fo1 := k_o.frozen 1; have co2 := k_o.cell 2 rfl; have fo2 := k_o.frozen 2; clear k_o
            have Ka := Asd.mk k_a; have La := k_a.lt; have ca0 := k_a.cell 0 rfl; have fa0 := k_a.frozen 0; have ca1 := k_a.cell 1 rfl; have fa1 := k_a.frozen 1; have ca2 := k_a.cell 2 rfl; have fa2 := k_a.frozen 2; clear k_a
            have Kb := Asd.mk k_b; have Lb := k_b.lt; have cb0 := k_b.cell 0 rfl; have fb0 := k_b.frozen 0; have cb1 := k_b.cell 1 rfl; have fb1 := k_b.frozen 1; have cb2 := k_b.cell 2 rfl; have fb2 := k_b.frozen 2; clear k_b
            go_wp2
            go_meet
            case rel => exact ⟨A0, B0, P0, A1, B1, P1, mid_same R3.out, (fun _ => ⟨by omega, Ka.out⟩), (fun h_ => absurd h_ (by decide)), Kn.out, HB.out⟩
         ·
          have hkk1 : (v1 == 1) = false := beq_eq_false_iff_ne.2 hk1
          clear hk1
          by_cases hk2 : v1 = 2
          ·
           have hkk : (v1 == 2) = true := beq_iff_eq.2 hk2
           clear hk2
           by_cases hj : judgeI A0 B0 P0 0 A1 true = 2
           ·
            have h1 := Asd.mk hj; clear hj
            as_aux_lemma =>
             go_wp2_with fail
             go_region_held3 (fun w' => Below w.heap.size w w' ∧ Blk w' (w1.heap.size) #[.int .i64 A0, .int .i64 B0, .int .i64 P0, .int .i64 A1, .int .i64 B1, .int .i64 P1] 27 ∧ Blk w' (wr.heap.size) #[.int .i64 v0, .int .i64 v1, .int .i64 v2] 48 ∧ Blk w' (wr.heap.size + 1) #[.int .i64 A0, .int .i64 B0, .int .i64 P0] 27 ∧ Blk w' (wr.heap.size + 1 + 1) #[.int .i64 A1, .int .i64 B1, .int .i64 P1] 27 ∧ w'.cell? ⟨w1.heap.size, 0, none⟩ = some (.int .i64 A0) ∧ w'.cell? ⟨w1.heap.size, 1, none⟩ = some (.int .i64 B0) ∧ w'.cell? ⟨w1.heap.size, 2, none⟩ = some (.int .i64 P0) ∧ w'.cell? ⟨w1.heap.size, 3, none⟩ = some (.int .i64 A1) ∧ w'.cell? ⟨w1.heap.size, 4, none⟩ = some (.int .i64 B1) ∧ w'.cell? ⟨w1.heap.size, 5, none⟩ = some (.int .i64 P1) ∧ w'.cell? ⟨wr.heap.size, 0, none⟩ = some (.int .i64 v0) ∧ w'.cell? ⟨wr.heap.size, 1, none⟩ = some (.int .i64 v1) ∧ w'.cell? ⟨wr.heap.size, 2, none⟩ = some (.int .i64 v2) ∧ w'.cell? ⟨wr.heap.size + 1, 0, none⟩ = some (.int .i64 A0) ∧ w'.cell? ⟨wr.heap.size + 1, 1, none⟩ = some (.int .i64 B0) ∧ w'.cell? ⟨wr.heap.size + 1, 2, none⟩ = some (.int .i64 P0) ∧ w'.cell? ⟨wr.heap.size + 1 + 1, 0, none⟩ = some (.int .i64 A1) ∧ w'.cell? ⟨wr.heap.size + 1 + 1, 1, none⟩ = some (.int .i64 B1) ∧ w'.cell? ⟨wr.heap.size + 1 + 1, 2, none⟩ = some (.int .i64 P1)) (first | exact ⟨below_drew HB.out, Kn.out.drew, Ko.out.drew, Ka.out.drew, Kb.out.drew, Kn.out.drew.cell 0 rfl, Kn.out.drew.cell 1 rfl, Kn.out.drew.cell 2 rfl, Kn.out.drew.cell 3 rfl, Kn.out.drew.cell 4 rfl, Kn.out.drew.cell 5 rfl, Ko.out.drew.cell 0 rfl, Ko.out.drew.cell 1 rfl, Ko.out.drew.cell 2 rfl, Ka.out.drew.cell 0 rfl, Ka.out.drew.cell 1 rfl, Ka.out.drew.cell 2 rfl, Kb.out.drew.cell 0 rfl, Kb.out.drew.cell 1 rfl, Kb.out.drew.cell 2 rfl⟩ | (have hh := ‹Below w.heap.size w _ ∧ _›; exact ⟨below_step hh.1 hb, hh.2.1.below hb, hh.2.2.1.below hb, hh.2.2.2.1.below hb, hh.2.2.2.2.1.below hb, (hh.2.1.below hb).cell 0 rfl, (hh.2.1.below hb).cell 1 rfl, (hh.2.1.below hb).cell 2 rfl, (hh.2.1.below hb).cell 3 rfl, (hh.2.1.below hb).cell 4 rfl, (hh.2.1.below hb).cell 5 rfl, (hh.2.2.1.below hb).cell 0 rfl, (hh.2.2.1.below hb).cell 1 rfl, (hh.2.2.1.below hb).cell 2 rfl, (hh.2.2.2.1.below hb).cell 0 rfl, (hh.2.2.2.1.below hb).cell 1 rfl, (hh.2.2.2.1.below hb).cell 2 rfl, (hh.2.2.2.2.1.below hb).cell 0 rfl, (hh.2.2.2.2.1.below hb).cell 1 rfl, (hh.2.2.2.2.1.below hb).cell 2 rfl⟩) | exact ‹Below w.heap.size w _ ∧ _›) (first | (go_at_call 16; refine (judge_at (e := A0) (b := B0) (p := P0) (n := 0) (x := A1) (t := true) (r := 2) h1.out _).mono ?_; rintro en w40 ⟨rfl, hb⟩))
             obtain ⟨h_, k_n, k_o, k_a, k_b, _⟩ := ‹Below w.heap.size w w40 ∧ _›
             clear Kn Ln cn0 fn0 cn1 fn1 cn2 fn2 cn3 fn3 cn4 fn4 cn5 fn5 Ko Lo co0 fo0 co1 fo1 co2 fo2 Ka La ca0 fa0 ca1 fa1 ca2 fa2 Kb Lb cb0 fb0 cb1 fb1 cb2 fb2 HB Z; have HB := Asd.mk h_; clear h_; have Z : w.heap.size ≤ w40.heap.size := HB.out.size
             have Kn := Asd.mk k_n; have Ln := k_n.lt; have cn0 := k_n.cell 0 rfl; have fn0 := k_n.frozen 0; have cn1 := k_n.cell 1 rfl; have fn1 := k_n.frozen 1; have cn2 := k_n.cell 2 rfl; have fn2 := k_n.frozen 2; have cn3 := k_n.cell 3 rfl; have fn3 := k_n.frozen 3; have cn4 := k_n.cell 4 rfl; have fn4 := k_n.frozen 4; have cn5 := k_n.cell 5 rfl; have fn5 := k_n.frozen 5; clear k_n
             have Ko := Asd.mk k_o; have Lo := k_o.lt; have co0 := k_o.cell 0 rfl; have fo0 := k_o.frozen 0; have co1 := k_o.cell 1 rfl; have fo1 := k_o.frozen 1; have co2 := k_o.cell 2 rfl; have fo2 := k_o.frozen 2; clear k_o
             have Ka := Asd.mk k_a; have La := k_a.lt; have ca0 := k_a.cell 0 rfl; have fa0 := k_a.frozen 0; have ca1 := k_a.cell 1 rfl; have fa1 := k_a.frozen 1; have ca2 := k_a.cell 2 rfl; have fa2 := k_a.frozen 2; clear k_a
             have Kb := Asd.mk k_b; have Lb := k_b.lt; have cb0 := k_b.cell 0 rfl; have fb0 := k_b.frozen 0; have cb1 := k_b.cell 1 rfl; have fb1 := k_b.frozen 1; have cb2 := k_b.cell 2 rfl; have fb2 := k_b.frozen 2; clear k_b
             have hw := Asd.mk (show wrap64 (A0 + 1) = A0 + 1 by unfold wrap64; omega)
             go_wp2_with fail
             have k_n := Kn.out.drew
             have k_o := Ko.out.drew
             have k_a := Ka.out.drew
             have k_b := Kb.out.drew
             have h_ := below_drew HB.out
             refine start_ (n := 11) (S := fun w' => w'.cell? ⟨w1.heap.size, 0, none⟩ = some (.int .i64 A0) ∧ w'.cell? ⟨w1.heap.size, 1, none⟩ = some (.int .i64 B0) ∧ w'.cell? ⟨w1.heap.size, 2, none⟩ = some (.int .i64 P0) ∧ w'.cell? ⟨w1.heap.size, 3, none⟩ = some (.int .i64 A1) ∧ w'.cell? ⟨w1.heap.size, 4, none⟩ = some (.int .i64 B1) ∧ w'.cell? ⟨w1.heap.size, 5, none⟩ = some (.int .i64 P1) ∧ w'.cell? ⟨wr.heap.size, 0, none⟩ = some (.int .i64 v0) ∧ w'.cell? ⟨wr.heap.size, 1, none⟩ = some (.int .i64 v1) ∧ w'.cell? ⟨wr.heap.size, 2, none⟩ = some (.int .i64 v2) ∧ w'.cell? ⟨wr.heap.size + 1, 0, none⟩ = some (.int .i64 A0) ∧ w'.cell? ⟨wr.heap.size + 1, 1, none⟩ = some (.int .i64 B0) ∧ w'.cell? ⟨wr.heap.size + 1, 2, none⟩ = some (.int .i64 P0) ∧ w'.cell? ⟨wr.heap.size + 1 + 1, 0, none⟩ = some (.int .i64 A1) ∧ w'.cell? ⟨wr.heap.size + 1 + 1, 1, none⟩ = some (.int .i64 B1) ∧ w'.cell? ⟨wr.heap.size + 1 + 1, 2, none⟩ = some (.int .i64 P1)) (ds := [10]) X22 (by kernel_rfl) rfl rfl ⟨k_n.cell 0 rfl, k_n.cell 1 rfl, k_n.cell 2 rfl, k_n.cell 3 rfl, k_n.cell 4 rfl, k_n.cell 5 rfl, k_o.cell 0 rfl, k_o.cell 1 rfl, k_o.cell 2 rfl, k_a.cell 0 rfl, k_a.cell 1 rfl, k_a.cell 2 rfl, k_b.cell 0 rfl, k_b.cell 1 rfl, k_b.cell 2 rfl⟩ (fun hHeld => ?_); refine with_tabW one21tab one21bits (fun HT_ HW_ => ?_)
             clear HB Kn Ko Ka Kb
             generalize w40.drew = w4 at k_n k_o k_a k_b h_ hHeld ⊢
             have HB := Asd.mk h_; clear h_; have Kn := Asd.mk k_n; clear k_n; have Ko := Asd.mk k_o; clear k_o; have Ka := Asd.mk k_a; clear k_a; have Kb := Asd.mk k_b; clear k_b
             clear Ln Lo La Lb cn0 fn0 cn1 fn1 cn2 fn2 cn3 fn3 cn4 fn4 cn5 fn5 co0 fo0 co1 fo1 co2 fo2 ca0 fa0 ca1 fa1 ca2 fa2 cb0 fb0 cb1 fb1 cb2 fb2
             refine pure_ (i := 0) (N := some 99) (v := ?_) (a' := ?_) X23 rfl rfl (any_of HT_.out (by kernel_rfl)) (fun _ _ _ h => h) (Or.inl ⟨by rfl, ?_⟩) ?_ ?_
             rotate_left
             ·
              intro w'
              go_simp
              with_reducible rfl
             rotate_left
             ·
              simp only [Act.put, List.setIfInBounds_toArray, List.set_cons_zero, List.set_cons_succ, i64_w, i32_w]
              rfl
             refine pure_ (i := 1) (N := some 100) (v := ?_) (a' := ?_) X24 rfl rfl (any_of HT_.out (by kernel_rfl)) (fun _ _ _ h => h) (Or.inl ⟨by rfl, ?_⟩) ?_ ?_
             rotate_left
             ·
              intro w'
              go_simp
              with_reducible rfl
             rotate_left
             ·
              simp only [Act.put, List.setIfInBounds_toArray, List.set_cons_zero, List.set_cons_succ, i64_w, i32_w]
              rfl
             refine pure_ (i := 2) (N := some 101) (v := ?_) (a' := ?_) X25 rfl rfl (any_of HT_.out (by kernel_rfl)) (fun _ _ _ h => h) (Or.inl ⟨by rfl, ?_⟩) ?_ ?_
             rotate_left
             ·
              intro w'
              go_simp
              with_reducible rfl
             rotate_left
             ·
              simp only [Act.put, List.setIfInBounds_toArray, List.set_cons_zero, List.set_cons_succ, i64_w, i32_w]
              rfl
             refine pure_ (i := 3) (N := some 102) (v := ?_) (a' := ?_) X26 rfl rfl (any_of HT_.out (by kernel_rfl)) (fun _ _ _ h => h) (Or.inl ⟨by rfl, ?_⟩) ?_ ?_
             rotate_left
             ·
              intro w'
              go_simp
              with_reducible rfl
             rotate_left
             ·
              simp only [Act.put, List.setIfInBounds_toArray, List.set_cons_zero, List.set_cons_succ, i64_w, i32_w]
              rfl
             refine pure_ (i := 4) (N := some 103) (v := ?_) (a' := ?_) X27 rfl rfl (any_of HT_.out (by kernel_rfl)) (fun _ _ _ h => h) (Or.inl ⟨by rfl, ?_⟩) ?_ ?_
             rotate_left
             ·
              intro w'
              go_simp
              with_reducible rfl
             rotate_left
             ·
              simp only [Act.put, List.setIfInBounds_toArray, List.set_cons_zero, List.set_cons_succ, i64_w, i32_w]
              rfl
             refine pure_ (i := 6) (N := some 105) (v := ?_) (a' := ?_) X28 rfl rfl (any_of HT_.out (by kernel_rfl)) (fun _ _ _ h => h) (Or.inl ⟨by rfl, ?_⟩) ?_ ?_
             rotate_left
             ·
              intro w'
              go_simp
              with_reducible rfl
             rotate_left
             ·
              simp only [Act.put, List.setIfInBounds_toArray, List.set_cons_zero, List.set_cons_succ, i64_w, i32_w]
              rfl
             refine take_ (i := 5) (N := some 104) (v := ?_) (a' := ?_) X29 rfl rfl (take_ofW HT_.out HW_.out (by kernel_rfl)) (fun _ _ _ h => h) (Or.inl ⟨by rfl, ?_⟩) hHeld ?_ ?_
             rotate_left
             ·
              rintro w' ⟨s0, s1, s2, s3, s4, s5, s6, s7, s8, s9, s10, s11, s12, s13, s14⟩
              go_simp
              with_reducible rfl
             rotate_left
             ·
              simp only [Act.put, List.setIfInBounds_toArray, List.set_cons_zero, List.set_cons_succ, i64_w, i32_w]
              rfl
             refine take_ (i := 7) (N := some 106) (v := ?_) (a' := ?_) X30 rfl rfl (take_ofW HT_.out HW_.out (by kernel_rfl)) (fun _ _ _ h => h) (Or.inl ⟨by rfl, ?_⟩) hHeld ?_ ?_
             rotate_left
             ·
              rintro w' ⟨s0, s1, s2, s3, s4, s5, s6, s7, s8, s9, s10, s11, s12, s13, s14⟩
              go_simp
              with_reducible rfl
             rotate_left
             ·
              simp only [Act.put, List.setIfInBounds_toArray, List.set_cons_zero, List.set_cons_succ, i64_w, i32_w]
              rfl
             refine one_ (i := 8) (N := some 107) X31 rfl rfl (one_of HT_.out (by kernel_rfl)) (by decide) (fun K hK => ?_)
             refine goes_ Try.func21 (by kernel_rfl) rfl #[.agg #[.int .i64 A0, .int .i64 B0, .int .i64 P0], .int .i64 B1] (by rfl) rfl rfl (by (try simp only [List.map_toArray, List.map_cons, List.map_nil]); first | done | rfl | (simp only [List.length_drop, List.length_take]; rfl)) ?_
             with_reducible refine (adopt_at (e := A0) (b := B0) (p := P0) (n := B1) (r := A0 + 1) hw.out _).mono ?_
             rintro en w5 ⟨rfl, hb5⟩
             refine ⟨_, rfl, ?_⟩
             have k_n := Kn.out.below hb5
             have k_o := Ko.out.below hb5
             have k_a := Ka.out.below hb5
             have k_b := Kb.out.below hb5
             have h_ := below_step HB.out hb5
             clear HB hb5 Kn Ko Ka Kb; have HB := Asd.mk h_; clear h_; have Kn := Asd.mk k_n; clear k_n; have Ko := Asd.mk k_o; clear k_o; have Ka := Asd.mk k_a; clear k_a; have Kb := Asd.mk k_b; clear k_b
             refine hK.out _ _ ⟨Kn.out.cell 0 rfl, Kn.out.cell 1 rfl, Kn.out.cell 2 rfl, Kn.out.cell 3 rfl, Kn.out.cell 4 rfl, Kn.out.cell 5 rfl, Ko.out.cell 0 rfl, Ko.out.cell 1 rfl, Ko.out.cell 2 rfl, Ka.out.cell 0 rfl, Ka.out.cell 1 rfl, Ka.out.cell 2 rfl, Kb.out.cell 0 rfl, Kb.out.cell 1 rfl, Kb.out.cell 2 rfl⟩ (fun hHeld => ?_)
             clear hK K
             refine norm_ (a' := ?_) ?_ ?_
             rotate_left
             ·
              (try show Act.put _ (some 107) _ = _)
              first | rfl | (simp only [Act.put, List.setIfInBounds_toArray, List.set_cons_zero, List.set_cons_succ, i64_w, i32_w]; rfl)
             refine pure_ (i := 9) (N := some 108) (v := ?_) (a' := ?_) X32 rfl rfl (any_of HT_.out (by kernel_rfl)) (fun _ _ _ h => h) (Or.inl ⟨by rfl, ?_⟩) ?_ ?_
             rotate_left
             ·
              intro w'
              go_simp
              with_reducible rfl
             rotate_left
             ·
              simp only [Act.put, List.setIfInBounds_toArray, List.set_cons_zero, List.set_cons_succ, i64_w, i32_w]
              rfl
             refine last_ (i := 10) (N := none) X33 rfl rfl (one_of HT_.out (by kernel_rfl)) (by decide) (fun K hK => ?_)
             have z_0 := Kn.out.cell 0 rfl; have y_0 := Kn.out.frozen 0
             have z_1 := Kn.out.cell 1 rfl; have y_1 := Kn.out.frozen 1
             have z_2 := Kn.out.cell 2 rfl; have y_2 := Kn.out.frozen 2
             go_simp
             clear z_0 y_0 z_1 y_1 z_2 y_2
             have k_n := (((Kn.out.put 0 (.int .i64 (A0 + 1)) rfl).put 1 (.int .i64 B1) rfl).put 2 (.int .i64 (A0 + 1)) rfl)
             have k_o := (((Ko.out.far (g2 := w1.heap.size) (i := 0) (by omega) (.int .i64 (A0 + 1))).far (g2 := w1.heap.size) (i := 1) (by omega) (.int .i64 B1)).far (g2 := w1.heap.size) (i := 2) (by omega) (.int .i64 (A0 + 1)))
             have k_a := (((Ka.out.far (g2 := w1.heap.size) (i := 0) (by omega) (.int .i64 (A0 + 1))).far (g2 := w1.heap.size) (i := 1) (by omega) (.int .i64 B1)).far (g2 := w1.heap.size) (i := 2) (by omega) (.int .i64 (A0 + 1)))
             have k_b := (((Kb.out.far (g2 := w1.heap.size) (i := 0) (by omega) (.int .i64 (A0 + 1))).far (g2 := w1.heap.size) (i := 1) (by omega) (.int .i64 B1)).far (g2 := w1.heap.size) (i := 2) (by omega) (.int .i64 (A0 + 1)))
             have h_ := below_set (below_set (below_set (HB.out) (j := 0) (v := .int .i64 (A0 + 1)) (g := w1.heap.size) (by omega)) (j := 1) (v := .int .i64 B1) (g := w1.heap.size) (by omega)) (j := 2) (v := .int .i64 (A0 + 1)) (g := w1.heap.size) (by omega)
             refine hK.out _ _ ?_
             clear hK K
             clear HB Kn Ko Ka Kb
             generalize (((w5).setCell ⟨w1.heap.size, 0, none⟩ (.int .i64 (A0 + 1))).setCell ⟨w1.heap.size, 1, none⟩ (.int .i64 B1)).setCell ⟨w1.heap.size, 2, none⟩ (.int .i64 (A0 + 1)) = w6 at k_n k_o k_a k_b h_ ⊢
             have HB := Asd.mk h_; clear h_; have Kn := Asd.mk k_n; clear k_n; have Ko := Asd.mk k_o; clear k_o; have Ka := Asd.mk k_a; clear k_a; have Kb := Asd.mk k_b; clear k_b
             refine done_ (done_of HT_.out (by kernel_rfl)) ?_
             have Z : w.heap.size ≤ w6.heap.size := HB.out.size
             have Ln := Kn.out.lt; have cn0 := Kn.out.cell 0 rfl; have fn0 := Kn.out.frozen 0; have cn1 := Kn.out.cell 1 rfl; have fn1 := Kn.out.frozen 1; have cn2 := Kn.out.cell 2 rfl; have fn2 := Kn.out.frozen 2; have cn3 := Kn.out.cell 3 rfl; have fn3 := Kn.out.frozen 3; have cn4 := Kn.out.cell 4 rfl; have fn4 := Kn.out.frozen 4; have cn5 := Kn.out.cell 5 rfl; have fn5 := Kn.out.frozen 5
             have Lo := Ko.out.lt; have co0 := Ko.out.cell 0 rfl; have fo0 := Ko.out.frozen 0; have co1 := Ko.out.cell 1 rfl; have fo1 := Ko.out.frozen 1; have co2 := Ko.out.cell 2 rfl; have fo2 := Ko.out.frozen 2
             have La := Ka.out.lt; have ca0 := Ka.out.cell 0 rfl; have fa0 := Ka.out.frozen 0; have ca1 := Ka.out.cell 1 rfl; have fa1 := Ka.out.frozen 1; have ca2 := Ka.out.cell 2 rfl; have fa2 := Ka.out.frozen 2
             have Lb := Kb.out.lt; have cb0 := Kb.out.cell 0 rfl; have fb0 := Kb.out.frozen 0; have cb1 := Kb.out.cell 1 rfl; have fb1 := Kb.out.frozen 1; have cb2 := Kb.out.cell 2 rfl; have fb2 := Kb.out.frozen 2
             go_wp2
             go_meet
             case rel => exact ⟨(A0 + 1), B1, (A0 + 1), A1, B1, P1, mid_adopt0 (by omega) R3.out h1.out, (fun _ => ⟨by omega, Ka.out⟩), (fun h_ => absurd h_ (by decide)), Kn.out, HB.out⟩
           ·
            obtain ⟨j, hj_⟩ : ∃ j, judgeI A0 B0 P0 0 A1 true = j := ⟨_, rfl⟩
            as_aux_lemma =>
             have hjj : (j == 2) = false := beq_eq_false_iff_ne.2 (by rw [← hj_]; exact hj)
             have h1 := Asd.mk hj_; clear hj hj_
             go_wp2_with fail
             go_region_held3 (fun w' => Below w.heap.size w w' ∧ Blk w' (w1.heap.size) #[.int .i64 A0, .int .i64 B0, .int .i64 P0, .int .i64 A1, .int .i64 B1, .int .i64 P1] 27 ∧ Blk w' (wr.heap.size) #[.int .i64 v0, .int .i64 v1, .int .i64 v2] 48 ∧ Blk w' (wr.heap.size + 1) #[.int .i64 A0, .int .i64 B0, .int .i64 P0] 27 ∧ Blk w' (wr.heap.size + 1 + 1) #[.int .i64 A1, .int .i64 B1, .int .i64 P1] 27 ∧ w'.cell? ⟨w1.heap.size, 0, none⟩ = some (.int .i64 A0) ∧ w'.cell? ⟨w1.heap.size, 1, none⟩ = some (.int .i64 B0) ∧ w'.cell? ⟨w1.heap.size, 2, none⟩ = some (.int .i64 P0) ∧ w'.cell? ⟨w1.heap.size, 3, none⟩ = some (.int .i64 A1) ∧ w'.cell? ⟨w1.heap.size, 4, none⟩ = some (.int .i64 B1) ∧ w'.cell? ⟨w1.heap.size, 5, none⟩ = some (.int .i64 P1) ∧ w'.cell? ⟨wr.heap.size, 0, none⟩ = some (.int .i64 v0) ∧ w'.cell? ⟨wr.heap.size, 1, none⟩ = some (.int .i64 v1) ∧ w'.cell? ⟨wr.heap.size, 2, none⟩ = some (.int .i64 v2) ∧ w'.cell? ⟨wr.heap.size + 1, 0, none⟩ = some (.int .i64 A0) ∧ w'.cell? ⟨wr.heap.size + 1, 1, none⟩ = some (.int .i64 B0) ∧ w'.cell? ⟨wr.heap.size + 1, 2, none⟩ = some (.int .i64 P0) ∧ w'.cell? ⟨wr.heap.size + 1 + 1, 0, none⟩ = some (.int .i64 A1) ∧ w'.cell? ⟨wr.heap.size + 1 + 1, 1, none⟩ = some (.int .i64 B1) ∧ w'.cell? ⟨wr.heap.size + 1 + 1, 2, none⟩ = some (.int .i64 P1)) (first | exact ⟨below_drew HB.out, Kn.out.drew, Ko.out.drew, Ka.out.drew, Kb.out.drew, Kn.out.drew.cell 0 rfl, Kn.out.drew.cell 1 rfl, Kn.out.drew.cell 2 rfl, Kn.out.drew.cell 3 rfl, Kn.out.drew.cell 4 rfl, Kn.out.drew.cell 5 rfl, Ko.out.drew.cell 0 rfl, Ko.out.drew.cell 1 rfl, Ko.out.drew.cell 2 rfl, Ka.out.drew.cell 0 rfl, Ka.out.drew.cell 1 rfl, Ka.out.drew.cell 2 rfl, Kb.out.drew.cell 0 rfl, Kb.out.drew.cell 1 rfl, Kb.out.drew.cell 2 rfl⟩ | (have hh := ‹Below w.heap.size w _ ∧ _›; exact ⟨below_step hh.1 hb, hh.2.1.below hb, hh.2.2.1.below hb, hh.2.2.2.1.below hb, hh.2.2.2.2.1.below hb, (hh.2.1.below hb).cell 0 rfl, (hh.2.1.below hb).cell 1 rfl, (hh.2.1.below hb).cell 2 rfl, (hh.2.1.below hb).cell 3 rfl, (hh.2.1.below hb).cell 4 rfl, (hh.2.1.below hb).cell 5 rfl, (hh.2.2.1.below hb).cell 0 rfl, (hh.2.2.1.below hb).cell 1 rfl, (hh.2.2.1.below hb).cell 2 rfl, (hh.2.2.2.1.below hb).cell 0 rfl, (hh.2.2.2.1.below hb).cell 1 rfl, (hh.2.2.2.1.below hb).cell 2 rfl, (hh.2.2.2.2.1.below hb).cell 0 rfl, (hh.2.2.2.2.1.below hb).cell 1 rfl, (hh.2.2.2.2.1.below hb).cell 2 rfl⟩) | exact ‹Below w.heap.size w _ ∧ _›) (first | (go_at_call 16; refine (judge_at (e := A0) (b := B0) (p := P0) (n := 0) (x := A1) (t := true) (r := j) h1.out _).mono ?_; rintro en w40 ⟨rfl, hb⟩))
             obtain ⟨h_, k_n, k_o, k_a, k_b, _⟩ := ‹Below w.heap.size w w40 ∧ _›
             clear Kn Ln cn0 fn0 cn1 fn1 cn2 fn2 cn3 fn3 cn4 fn4 cn5 fn5 Ko Lo co0 fo0 co1 fo1 co2 fo2 Ka La ca0 fa0 ca1 fa1 ca2 fa2 Kb Lb cb0 fb0 cb1 fb1 cb2 fb2 HB Z; have HB := Asd.mk h_; clear h_; have Z : w.heap.size ≤ w40.heap.size := HB.out.size
             have Kn := Asd.mk k_n; have Ln := k_n.lt; have cn0 := k_n.cell 0 rfl; have fn0 := k_n.frozen 0; have cn1 := k_n.cell 1 rfl; have fn1 := k_n.frozen 1; have cn2 := k_n.cell 2 rfl; have fn2 := k_n.frozen 2; have cn3 := k_n.cell 3 rfl; have fn3 := k_n.frozen 3; have cn4 := k_n.cell 4 rfl; have fn4 := k_n.frozen 4; have cn5 := k_n.cell 5 rfl; have fn5 := k_n.frozen 5; clear k_n
             have Ko := Asd.mk k_o; have Lo := k_o.lt; have co0 := k_o.cell 0 rfl; have fo0 := k_o.frozen 0; have co1 := k_o.cell 1 rfl; have fo1 := k_o.frozen 1; have co2 := k_o.cell 2 rfl; have fo2 := k_o.frozen 2; clear k_o
             have Ka := Asd.mk k_a; have La := k_a.lt; have ca0 := k_a.cell 0 rfl; have fa0 := k_a.frozen 0; have ca1 := k_a.cell 1 rfl; have fa1 := k_a.frozen 1; have ca2 := k_a.cell 2 rfl; have fa2 := k_a.frozen 2; clear k_a
             have Kb := Asd.mk k_b; have Lb := k_b.lt; have cb0 := k_b.cell 0 rfl; have fb0 := k_b.frozen 0; have cb1 := k_b.cell 1 rfl; have fb1 := k_b.frozen 1; have cb2 := k_b.cell 2 rfl; have fb2 := k_b.frozen 2; clear k_b
             go_wp2
             go_meet
             case rel => exact ⟨A0, B0, P0, A1, B1, P1, mid_same R3.out, (fun _ => ⟨by omega, Ka.out⟩), (fun h_ => absurd h_ (by decide)), Kn.out, HB.out⟩
          ·
           have hkk2 : (v1 == 2) = false := beq_eq_false_iff_ne.2 hk2
           clear hk2
           go_wp2
           go_meet
           case rel => exact ⟨A0, B0, P0, A1, B1, P1, mid_same R3.out, (fun _ => ⟨by omega, Ka.out⟩), (fun h_ => absurd h_ (by decide)), Kn.out, HB.out⟩
      case rest =>
       as_aux_lemma =>
        obtain ⟨E0, F0, Q0, E1, F1, Q1, m1, m2, m3, m4, m5⟩ := hcut
        have M1 := Asd.mk m1; obtain ⟨⟨p1, p2, p3, p4, p5, p6⟩, ⟨q1, q2, q3, q4, q5, q6⟩, e1, e2, e3, e4⟩ := m1
        obtain ⟨⟨s1, s2, s3⟩, kA⟩ := m2 rfl
        clear m2 m3 Kn Ko Ka Kb Ln Lo La Lb HB Z cn0 fn0 cn1 fn1 cn2 fn2 cn3 fn3 cn4 fn4 cn5 fn5 co0 fo0 co1 fo1 co2 fo2 ca0 fa0 ca1 fa1 ca2 fa2 cb0 fb0 cb1 fb1 cb2 fb2
        have HB := Asd.mk m5; clear m5; have Z : w.heap.size ≤ wc.heap.size := HB.out.size; have k_n : Blk wc (w1.heap.size) #[.int .i64 E0, .int .i64 F0, .int .i64 Q0, .int .i64 E1, .int .i64 F1, .int .i64 Q1] 27 := m4; clear m4; have k_a : Blk wc (wr.heap.size + 1) #[.int .i64 A0, .int .i64 B0, .int .i64 P0] 27 := kA; clear kA
        have Kn := Asd.mk k_n; have Ln := k_n.lt; have cn0 := k_n.cell 0 rfl; have fn0 := k_n.frozen 0; have cn1 := k_n.cell 1 rfl; have fn1 := k_n.frozen 1; have cn2 := k_n.cell 2 rfl; have fn2 := k_n.frozen 2; have cn3 := k_n.cell 3 rfl; have fn3 := k_n.frozen 3; have cn4 := k_n.cell 4 rfl; have fn4 := k_n.frozen 4; have cn5 := k_n.cell 5 rfl; have fn5 := k_n.frozen 5; clear k_n
        have Ka := Asd.mk k_a; have La := k_a.lt; have ca0 := k_a.cell 0 rfl; have fa0 := k_a.frozen 0; have ca1 := k_a.cell 1 rfl; have fa1 := k_a.frozen 1; have ca2 := k_a.cell 2 rfl; have fa2 := k_a.frozen 2; clear k_a
        have hD1 : IntKind.i64.wrap (E0 - E1) = E0 - E1 := (i64_w _).trans (by unfold wrap64; omega); have hD2 : wrap64 (E0 - E1) = E0 - E1 := by unfold wrap64; omega
        have hA1 : IntKind.i64.wrap (A0 + 1) = A0 + 1 := (i64_w _).trans (by unfold wrap64; omega); have hQ1 : IntKind.i64.wrap (Q0 - 1) = Q0 - 1 := (i64_w _).trans (by unfold wrap64; omega)
        go_wp2_with fail
        go_quiet (fail)
        generalize hq_ : World.drewN wc _ = w4
        have k_n : Blk w4 (w1.heap.size) #[.int .i64 E0, .int .i64 F0, .int .i64 Q0, .int .i64 E1, .int .i64 F1, .int .i64 Q1] 27 := (by rw [← hq_]; exact Kn.out.drewN _)
        have k_a : Blk w4 (wr.heap.size + 1) #[.int .i64 A0, .int .i64 B0, .int .i64 P0] 27 := (by rw [← hq_]; exact Ka.out.drewN _)
        have h_ : Below w.heap.size w w4 := (by rw [← hq_]; exact below_drewN HB.out _)
        clear hq_ Kn Ln cn0 fn0 cn1 fn1 cn2 fn2 cn3 fn3 cn4 fn4 cn5 fn5 Ka La ca0 fa0 ca1 fa1 ca2 fa2 HB Z; have HB := Asd.mk h_; clear h_; have Z : w.heap.size ≤ w4.heap.size := HB.out.size
        have Kn := Asd.mk k_n; have Ln := k_n.lt; have cn0 := k_n.cell 0 rfl; have fn0 := k_n.frozen 0; have cn1 := k_n.cell 1 rfl; have fn1 := k_n.frozen 1; have cn2 := k_n.cell 2 rfl; have fn2 := k_n.frozen 2; have cn3 := k_n.cell 3 rfl; have fn3 := k_n.frozen 3; have cn4 := k_n.cell 4 rfl; have fn4 := k_n.frozen 4; have cn5 := k_n.cell 5 rfl; have fn5 := k_n.frozen 5; clear k_n
        have Ka := Asd.mk k_a; have La := k_a.lt; have ca0 := k_a.cell 0 rfl; have fa0 := k_a.frozen 0; have ca1 := k_a.cell 1 rfl; have fa1 := k_a.frozen 1; have ca2 := k_a.cell 2 rfl; have fa2 := k_a.frozen 2; clear k_a
        go_wp2_with fail
        skip
        have t1 : decide (E0 - E1 < -1) = false := decide_eq_false (by omega); have t2 : decide (1 < E0 - E1) = false := decide_eq_false (by omega); have t3 : decide (E0 < A0) = false := decide_eq_false (by omega); have t4 : decide (A0 + 1 < E0) = false := decide_eq_false (by omega); have t5 : decide (Q0 < P0) = false := decide_eq_false (by omega)
        go_quiet (fail)
        generalize hq_ : World.drewN w4 _ = w5
        have k_n : Blk w5 (w1.heap.size) #[.int .i64 E0, .int .i64 F0, .int .i64 Q0, .int .i64 E1, .int .i64 F1, .int .i64 Q1] 27 := (by rw [← hq_]; exact Kn.out.drewN _)
        have k_a : Blk w5 (wr.heap.size + 1) #[.int .i64 A0, .int .i64 B0, .int .i64 P0] 27 := (by rw [← hq_]; exact Ka.out.drewN _)
        have h_ : Below w.heap.size w w5 := (by rw [← hq_]; exact below_drewN HB.out _)
        clear hq_ Kn Ln cn0 fn0 cn1 fn1 cn2 fn2 cn3 fn3 cn4 fn4 cn5 fn5 Ka La ca0 fa0 ca1 fa1 ca2 fa2 HB Z; have HB := Asd.mk h_; clear h_; have Z : w.heap.size ≤ w5.heap.size := HB.out.size
        have Kn := Asd.mk k_n; have Ln := k_n.lt; have cn0 := k_n.cell 0 rfl; have fn0 := k_n.frozen 0; have cn1 := k_n.cell 1 rfl; have fn1 := k_n.frozen 1; have cn2 := k_n.cell 2 rfl; have fn2 := k_n.frozen 2; have cn3 := k_n.cell 3 rfl; have fn3 := k_n.frozen 3; have cn4 := k_n.cell 4 rfl; have fn4 := k_n.frozen 4; have cn5 := k_n.cell 5 rfl; have fn5 := k_n.frozen 5; clear k_n
        have Ka := Asd.mk k_a; have La := k_a.lt; have ca0 := k_a.cell 0 rfl; have fa0 := k_a.frozen 0; have ca1 := k_a.cell 1 rfl; have fa1 := k_a.frozen 1; have ca2 := k_a.cell 2 rfl; have fa2 := k_a.frozen 2; clear k_a
        clear t1 t2 t3 t4 t5
        go_wp2_with fail
        by_cases he : E0 = E1
        ·
         have hee : (E0 == E1) = true := beq_iff_eq.2 he
         have HE := Asd.mk he; clear he
         have hJ := Asd.mk (judge_old (e := E0) (b := F0) (p := Q0) (n := 0) (t := true) (by omega) (by omega) (by omega) (by omega) (by omega) (by omega) (by decide))
         cases hw0 : writesB E0 F0 Q0 0
         ·
          have h0 := Asd.mk hw0; clear hw0
          as_aux_lemma =>
           have k_n := Kn.out.drew
           have k_a := Ka.out.drew
           have h_ := below_drew HB.out
           refine start_ (n := 21) (S := fun w' => w'.cell? ⟨w1.heap.size, 0, none⟩ = some (.int .i64 E0) ∧ w'.cell? ⟨w1.heap.size, 1, none⟩ = some (.int .i64 F0) ∧ w'.cell? ⟨w1.heap.size, 2, none⟩ = some (.int .i64 Q0) ∧ w'.cell? ⟨w1.heap.size, 3, none⟩ = some (.int .i64 E1) ∧ w'.cell? ⟨w1.heap.size, 4, none⟩ = some (.int .i64 F1) ∧ w'.cell? ⟨w1.heap.size, 5, none⟩ = some (.int .i64 Q1) ∧ w'.cell? ⟨wr.heap.size + 1, 0, none⟩ = some (.int .i64 A0) ∧ w'.cell? ⟨wr.heap.size + 1, 1, none⟩ = some (.int .i64 B0) ∧ w'.cell? ⟨wr.heap.size + 1, 2, none⟩ = some (.int .i64 P0)) (ds := []) X34 (by kernel_rfl) rfl rfl ⟨k_n.cell 0 rfl, k_n.cell 1 rfl, k_n.cell 2 rfl, k_n.cell 3 rfl, k_n.cell 4 rfl, k_n.cell 5 rfl, k_a.cell 0 rfl, k_a.cell 1 rfl, k_a.cell 2 rfl⟩ (fun hHeld => ?_); refine with_tabW one25tab one25bits (fun HT_ HW_ => ?_)
           clear HB Kn Ka
           generalize w5.drew = w6 at k_n k_a h_ hHeld ⊢
           have HB := Asd.mk h_; clear h_; have Kn := Asd.mk k_n; clear k_n; have Ka := Asd.mk k_a; clear k_a
           clear Ln La cn0 fn0 cn1 fn1 cn2 fn2 cn3 fn3 cn4 fn4 cn5 fn5 ca0 fa0 ca1 fa1 ca2 fa2
           refine pure_ (i := 0) (N := some 155) (v := ?_) (a' := ?_) X35 rfl rfl (any_of HT_.out (by kernel_rfl)) (fun _ _ _ h => h) (Or.inl ⟨by rfl, ?_⟩) ?_ ?_
           rotate_left
           ·
            intro w'
            go_simp
            with_reducible rfl
           rotate_left
           ·
            simp only [Act.put, List.setIfInBounds_toArray, List.set_cons_zero, List.set_cons_succ, i64_w, i32_w]
            rfl
           refine pure_ (i := 1) (N := some 156) (v := ?_) (a' := ?_) X36 rfl rfl (any_of HT_.out (by kernel_rfl)) (fun _ _ _ h => h) (Or.inl ⟨by rfl, ?_⟩) ?_ ?_
           rotate_left
           ·
            intro w'
            go_simp
            with_reducible rfl
           rotate_left
           ·
            simp only [Act.put, List.setIfInBounds_toArray, List.set_cons_zero, List.set_cons_succ, i64_w, i32_w]
            rfl
           refine pure_ (i := 2) (N := some 157) (v := ?_) (a' := ?_) X37 rfl rfl (any_of HT_.out (by kernel_rfl)) (fun _ _ _ h => h) (Or.inl ⟨by rfl, ?_⟩) ?_ ?_
           rotate_left
           ·
            intro w'
            go_simp
            with_reducible rfl
           rotate_left
           ·
            simp only [Act.put, List.setIfInBounds_toArray, List.set_cons_zero, List.set_cons_succ, i64_w, i32_w]
            rfl
           refine pure_ (i := 4) (N := some 159) (v := ?_) (a' := ?_) X38 rfl rfl (any_of HT_.out (by kernel_rfl)) (fun _ _ _ h => h) (Or.inl ⟨by rfl, ?_⟩) ?_ ?_
           rotate_left
           ·
            intro w'
            go_simp
            with_reducible rfl
           rotate_left
           ·
            simp only [Act.put, List.setIfInBounds_toArray, List.set_cons_zero, List.set_cons_succ, i64_w, i32_w]
            rfl
           refine pure_ (i := 5) (N := some 160) (v := ?_) (a' := ?_) X39 rfl rfl (any_of HT_.out (by kernel_rfl)) (fun _ _ _ h => h) (Or.inl ⟨by rfl, ?_⟩) ?_ ?_
           rotate_left
           ·
            intro w'
            go_simp
            with_reducible rfl
           rotate_left
           ·
            simp only [Act.put, List.setIfInBounds_toArray, List.set_cons_zero, List.set_cons_succ, i64_w, i32_w]
            rfl
           refine pure_ (i := 6) (N := some 161) (v := ?_) (a' := ?_) X40 rfl rfl (any_of HT_.out (by kernel_rfl)) (fun _ _ _ h => h) (Or.inl ⟨by rfl, ?_⟩) ?_ ?_
           rotate_left
           ·
            intro w'
            go_simp
            with_reducible rfl
           rotate_left
           ·
            simp only [Act.put, List.setIfInBounds_toArray, List.set_cons_zero, List.set_cons_succ, i64_w, i32_w]
            rfl
           refine take_ (i := 3) (N := some 158) (v := ?_) (a' := ?_) X41 rfl rfl (take_ofW HT_.out HW_.out (by kernel_rfl)) (fun _ _ _ h => h) (Or.inl ⟨by rfl, ?_⟩) hHeld ?_ ?_
           rotate_left
           ·
            rintro w' ⟨s0, s1, s2, s3, s4, s5, s6, s7, s8⟩
            go_simp
            with_reducible rfl
           rotate_left
           ·
            simp only [Act.put, List.setIfInBounds_toArray, List.set_cons_zero, List.set_cons_succ, i64_w, i32_w]
            rfl
           refine take_ (i := 7) (N := some 162) (v := ?_) (a' := ?_) X42 rfl rfl (take_ofW HT_.out HW_.out (by kernel_rfl)) (fun _ _ _ h => h) (Or.inl ⟨by rfl, ?_⟩) hHeld ?_ ?_
           rotate_left
           ·
            rintro w' ⟨s0, s1, s2, s3, s4, s5, s6, s7, s8⟩
            go_simp
            with_reducible rfl
           rotate_left
           ·
            simp only [Act.put, List.setIfInBounds_toArray, List.set_cons_zero, List.set_cons_succ, i64_w, i32_w]
            rfl
           refine pure_ (i := 8) (N := some 163) (v := ?_) (a' := ?_) X43 rfl rfl (any_of HT_.out (by kernel_rfl)) (fun _ _ _ h => h) (Or.inl ⟨by rfl, ?_⟩) ?_ ?_
           rotate_left
           ·
            intro w'
            go_simp
            with_reducible rfl
           rotate_left
           ·
            simp only [Act.put, List.setIfInBounds_toArray, List.set_cons_zero, List.set_cons_succ, i64_w, i32_w]
            rfl
           refine pure_ (i := 9) (N := some 164) (v := ?_) (a' := ?_) X44 rfl rfl (any_of HT_.out (by kernel_rfl)) (fun _ _ _ h => h) (Or.inl ⟨by rfl, ?_⟩) ?_ ?_
           rotate_left
           ·
            intro w'
            go_simp
            with_reducible rfl
           rotate_left
           ·
            simp only [Act.put, List.setIfInBounds_toArray, List.set_cons_zero, List.set_cons_succ, i64_w, i32_w]
            rfl
           refine pure_ (i := 10) (N := some 165) (v := ?_) (a' := ?_) X45 rfl rfl (any_of HT_.out (by kernel_rfl)) (fun _ _ _ h => h) (Or.inl ⟨by rfl, ?_⟩) ?_ ?_
           rotate_left
           ·
            intro w'
            go_simp
            with_reducible rfl
           rotate_left
           ·
            simp only [Act.put, List.setIfInBounds_toArray, List.set_cons_zero, List.set_cons_succ, i64_w, i32_w]
            rfl
           refine pure_ (i := 11) (N := some 166) (v := ?_) (a' := ?_) X46 rfl rfl (any_of HT_.out (by kernel_rfl)) (fun _ _ _ h => h) (Or.inl ⟨by rfl, ?_⟩) ?_ ?_
           rotate_left
           ·
            intro w'
            go_simp
            with_reducible rfl
           rotate_left
           ·
            simp only [Act.put, List.setIfInBounds_toArray, List.set_cons_zero, List.set_cons_succ, i64_w, i32_w]
            rfl
           refine take_ (i := 12) (N := some 167) (v := ?_) (a' := ?_) X47 rfl rfl (take_ofW HT_.out HW_.out (by kernel_rfl)) (fun _ _ _ h => h) (Or.inl ⟨by rfl, ?_⟩) hHeld ?_ ?_
           rotate_left
           ·
            rintro w' ⟨s0, s1, s2, s3, s4, s5, s6, s7, s8⟩
            go_simp
            with_reducible rfl
           rotate_left
           ·
            simp only [Act.put, List.setIfInBounds_toArray, List.set_cons_zero, List.set_cons_succ, i64_w, i32_w]
            rfl
           refine one_ (i := 13) (N := some 168) X48 rfl rfl (one_of HT_.out (by kernel_rfl)) (by decide) (fun K hK => ?_)
           refine goes_ Try.func14 (by kernel_rfl) rfl #[.agg #[.int .i64 E0, .int .i64 F0, .int .i64 Q0], .int .i64 0] (by rfl) rfl rfl (by (try simp only [List.map_toArray, List.map_cons, List.map_nil]); first | done | rfl | (simp only [List.length_drop, List.length_take]; rfl)) ?_
           with_reducible refine (writes_at (e := E0) (b := F0) (p := Q0) (n := 0) (r := false) h0.out _).mono ?_
           rintro en w7 ⟨rfl, hb7⟩
           refine ⟨_, rfl, ?_⟩
           have k_n := Kn.out.below hb7
           have k_a := Ka.out.below hb7
           have h_ := below_step HB.out hb7
           clear HB hb7 Kn Ka; have HB := Asd.mk h_; clear h_; have Kn := Asd.mk k_n; clear k_n; have Ka := Asd.mk k_a; clear k_a
           refine hK.out _ _ ⟨Kn.out.cell 0 rfl, Kn.out.cell 1 rfl, Kn.out.cell 2 rfl, Kn.out.cell 3 rfl, Kn.out.cell 4 rfl, Kn.out.cell 5 rfl, Ka.out.cell 0 rfl, Ka.out.cell 1 rfl, Ka.out.cell 2 rfl⟩ (fun hHeld => ?_)
           clear hK K
           refine norm_ (a' := ?_) ?_ ?_
           rotate_left
           ·
            (try show Act.put _ (some 168) _ = _)
            first | rfl | (simp only [Act.put, List.setIfInBounds_toArray, List.set_cons_zero, List.set_cons_succ, i64_w, i32_w]; rfl)
           refine pure_ (i := 14) (N := some 169) (v := ?_) (a' := ?_) X49 rfl rfl (any_of HT_.out (by kernel_rfl)) (fun _ _ _ h => h) (Or.inl ⟨by rfl, ?_⟩) ?_ ?_
           rotate_left
           ·
            intro w'
            go_simp
            with_reducible rfl
           rotate_left
           ·
            simp only [Act.put, List.setIfInBounds_toArray, List.set_cons_zero, List.set_cons_succ, i64_w, i32_w]
            rfl
           refine pure_ (i := 15) (N := some 170) (v := ?_) (a' := ?_) X50 rfl rfl (any_of HT_.out (by kernel_rfl)) (fun _ _ _ h => h) (Or.inl ⟨by rfl, ?_⟩) ?_ ?_
           rotate_left
           ·
            intro w'
            go_simp
            with_reducible rfl
           rotate_left
           ·
            simp only [Act.put, List.setIfInBounds_toArray, List.set_cons_zero, List.set_cons_succ, i64_w, i32_w]
            rfl
           refine pure_ (i := 16) (N := some 171) (v := undef) (a' := ?_) X51 rfl rfl (any_of HT_.out (by kernel_rfl)) (fun _ _ _ h => h) (Or.inr ⟨by rfl, rfl⟩) ?_ ?_
           rotate_left
           ·
            simp only [Act.put, List.setIfInBounds_toArray, List.set_cons_zero, List.set_cons_succ, i64_w, i32_w]
            rfl
           refine pure_ (i := 17) (N := some 172) (v := undef) (a' := ?_) X52 rfl rfl (any_of HT_.out (by kernel_rfl)) (fun _ _ _ h => h) (Or.inr ⟨by rfl, rfl⟩) ?_ ?_
           rotate_left
           ·
            simp only [Act.put, List.setIfInBounds_toArray, List.set_cons_zero, List.set_cons_succ, i64_w, i32_w]
            rfl
           refine pure_ (i := 18) (N := some 173) (v := undef) (a' := ?_) X53 rfl rfl (any_of HT_.out (by kernel_rfl)) (fun _ _ _ h => h) (Or.inr ⟨by rfl, rfl⟩) ?_ ?_
           rotate_left
           ·
            simp only [Act.put, List.setIfInBounds_toArray, List.set_cons_zero, List.set_cons_succ, i64_w, i32_w]
            rfl
           refine pure_ (i := 19) (N := some 174) (v := undef) (a' := ?_) X54 rfl rfl (any_of HT_.out (by kernel_rfl)) (fun _ _ _ h => h) (Or.inr ⟨by rfl, rfl⟩) ?_ ?_
           rotate_left
           ·
            simp only [Act.put, List.setIfInBounds_toArray, List.set_cons_zero, List.set_cons_succ, i64_w, i32_w]
            rfl
           refine pure_ (i := 20) (N := some 175) (v := ?_) (a' := ?_) X55 rfl rfl (any_of HT_.out (by kernel_rfl)) (fun _ _ _ h => h) (Or.inl ⟨by rfl, ?_⟩) ?_ ?_
           rotate_left
           ·
            intro w'
            go_simp
            with_reducible rfl
           rotate_left
           ·
            simp only [Act.put, List.setIfInBounds_toArray, List.set_cons_zero, List.set_cons_succ, i64_w, i32_w]
            rfl
           refine done_ (done_of HT_.out (by kernel_rfl)) ?_
           have Z : w.heap.size ≤ w7.heap.size := HB.out.size
           have Ln := Kn.out.lt; have cn0 := Kn.out.cell 0 rfl; have fn0 := Kn.out.frozen 0; have cn1 := Kn.out.cell 1 rfl; have fn1 := Kn.out.frozen 1; have cn2 := Kn.out.cell 2 rfl; have fn2 := Kn.out.frozen 2; have cn3 := Kn.out.cell 3 rfl; have fn3 := Kn.out.frozen 3; have cn4 := Kn.out.cell 4 rfl; have fn4 := Kn.out.frozen 4; have cn5 := Kn.out.cell 5 rfl; have fn5 := Kn.out.frozen 5
           have La := Ka.out.lt; have ca0 := Ka.out.cell 0 rfl; have fa0 := Ka.out.frozen 0; have ca1 := Ka.out.cell 1 rfl; have fa1 := Ka.out.frozen 1; have ca2 := Ka.out.cell 2 rfl; have fa2 := Ka.out.frozen 2
           go_wp2_with fail
           go_region_held3 (fun w' => Below w.heap.size w w' ∧ Blk w' (w1.heap.size) #[.int .i64 E0, .int .i64 F0, .int .i64 Q0, .int .i64 E1, .int .i64 F1, .int .i64 Q1] 27 ∧ Blk w' (wr.heap.size + 1) #[.int .i64 A0, .int .i64 B0, .int .i64 P0] 27 ∧ w'.cell? ⟨w1.heap.size, 0, none⟩ = some (.int .i64 E0) ∧ w'.cell? ⟨w1.heap.size, 1, none⟩ = some (.int .i64 F0) ∧ w'.cell? ⟨w1.heap.size, 2, none⟩ = some (.int .i64 Q0) ∧ w'.cell? ⟨w1.heap.size, 3, none⟩ = some (.int .i64 E1) ∧ w'.cell? ⟨w1.heap.size, 4, none⟩ = some (.int .i64 F1) ∧ w'.cell? ⟨w1.heap.size, 5, none⟩ = some (.int .i64 Q1) ∧ w'.cell? ⟨wr.heap.size + 1, 0, none⟩ = some (.int .i64 A0) ∧ w'.cell? ⟨wr.heap.size + 1, 1, none⟩ = some (.int .i64 B0) ∧ w'.cell? ⟨wr.heap.size + 1, 2, none⟩ = some (.int .i64 P0)) (first | exact ⟨below_drew HB.out, Kn.out.drew, Ka.out.drew, Kn.out.drew.cell 0 rfl, Kn.out.drew.cell 1 rfl, Kn.out.drew.cell 2 rfl, Kn.out.drew.cell 3 rfl, Kn.out.drew.cell 4 rfl, Kn.out.drew.cell 5 rfl, Ka.out.drew.cell 0 rfl, Ka.out.drew.cell 1 rfl, Ka.out.drew.cell 2 rfl⟩ | (have hh := ‹Below w.heap.size w _ ∧ _›; exact ⟨below_step hh.1 hb, hh.2.1.below hb, hh.2.2.1.below hb, (hh.2.1.below hb).cell 0 rfl, (hh.2.1.below hb).cell 1 rfl, (hh.2.1.below hb).cell 2 rfl, (hh.2.1.below hb).cell 3 rfl, (hh.2.1.below hb).cell 4 rfl, (hh.2.1.below hb).cell 5 rfl, (hh.2.2.1.below hb).cell 0 rfl, (hh.2.2.1.below hb).cell 1 rfl, (hh.2.2.1.below hb).cell 2 rfl⟩) | exact ‹Below w.heap.size w _ ∧ _›) (first | (go_at_call 16; refine (judge_at (e := E0) (b := F0) (p := Q0) (n := 0) (x := Q0 - 1) (t := true) (r := 3) hJ.out _).mono ?_; rintro en w41 ⟨rfl, hb⟩))
           obtain ⟨h_, k_n, k_a, _⟩ := ‹Below w.heap.size w w41 ∧ _›
           clear Kn Ln cn0 fn0 cn1 fn1 cn2 fn2 cn3 fn3 cn4 fn4 cn5 fn5 Ka La ca0 fa0 ca1 fa1 ca2 fa2 HB Z; have HB := Asd.mk h_; clear h_; have Z : w.heap.size ≤ w41.heap.size := HB.out.size
           have Kn := Asd.mk k_n; have Ln := k_n.lt; have cn0 := k_n.cell 0 rfl; have fn0 := k_n.frozen 0; have cn1 := k_n.cell 1 rfl; have fn1 := k_n.frozen 1; have cn2 := k_n.cell 2 rfl; have fn2 := k_n.frozen 2; have cn3 := k_n.cell 3 rfl; have fn3 := k_n.frozen 3; have cn4 := k_n.cell 4 rfl; have fn4 := k_n.frozen 4; have cn5 := k_n.cell 5 rfl; have fn5 := k_n.frozen 5; clear k_n
           have Ka := Asd.mk k_a; have La := k_a.lt; have ca0 := k_a.cell 0 rfl; have fa0 := k_a.frozen 0; have ca1 := k_a.cell 1 rfl; have fa1 := k_a.frozen 1; have ca2 := k_a.cell 2 rfl; have fa2 := k_a.frozen 2; clear k_a
           go_wp2
           go_roundg (gk - 1)
           case measure => have := R2.out; omega
           case rel => exact ⟨k + 1, E0, F0, Q0, E1, F1, Q1, by go_num, by omega, (by have := R2.out; omega), M1.out, Kn.out, HB.out⟩
         ·
          have h0 := Asd.mk hw0; have h1 := Asd.mk (writes_one HE.out hw0 (b := F1) (p := Q1)); clear hw0
          as_aux_lemma =>
           have k_n := Kn.out.drew
           have k_a := Ka.out.drew
           have h_ := below_drew HB.out
           refine start_ (n := 21) (S := fun w' => w'.cell? ⟨w1.heap.size, 0, none⟩ = some (.int .i64 E0) ∧ w'.cell? ⟨w1.heap.size, 1, none⟩ = some (.int .i64 F0) ∧ w'.cell? ⟨w1.heap.size, 2, none⟩ = some (.int .i64 Q0) ∧ w'.cell? ⟨w1.heap.size, 3, none⟩ = some (.int .i64 E1) ∧ w'.cell? ⟨w1.heap.size, 4, none⟩ = some (.int .i64 F1) ∧ w'.cell? ⟨w1.heap.size, 5, none⟩ = some (.int .i64 Q1) ∧ w'.cell? ⟨wr.heap.size + 1, 0, none⟩ = some (.int .i64 A0) ∧ w'.cell? ⟨wr.heap.size + 1, 1, none⟩ = some (.int .i64 B0) ∧ w'.cell? ⟨wr.heap.size + 1, 2, none⟩ = some (.int .i64 P0)) (ds := []) X34 (by kernel_rfl) rfl rfl ⟨k_n.cell 0 rfl, k_n.cell 1 rfl, k_n.cell 2 rfl, k_n.cell 3 rfl, k_n.cell 4 rfl, k_n.cell 5 rfl, k_a.cell 0 rfl, k_a.cell 1 rfl, k_a.cell 2 rfl⟩ (fun hHeld => ?_); refine with_tabW one25tab one25bits (fun HT_ HW_ => ?_)
           clear HB Kn Ka
           generalize w5.drew = w6 at k_n k_a h_ hHeld ⊢
           have HB := Asd.mk h_; clear h_; have Kn := Asd.mk k_n; clear k_n; have Ka := Asd.mk k_a; clear k_a
           clear Ln La cn0 fn0 cn1 fn1 cn2 fn2 cn3 fn3 cn4 fn4 cn5 fn5 ca0 fa0 ca1 fa1 ca2 fa2
           refine pure_ (i := 0) (N := some 155) (v := ?_) (a' := ?_) X35 rfl rfl (any_of HT_.out (by kernel_rfl)) (fun _ _ _ h => h) (Or.inl ⟨by rfl, ?_⟩) ?_ ?_
           rotate_left
           ·
            intro w'
            go_simp
            with_reducible rfl
           rotate_left
           ·
            simp only [Act.put, List.setIfInBounds_toArray, List.set_cons_zero, List.set_cons_succ, i64_w, i32_w]
            rfl
           refine pure_ (i := 1) (N := some 156) (v := ?_) (a' := ?_) X36 rfl rfl (any_of HT_.out (by kernel_rfl)) (fun _ _ _ h => h) (Or.inl ⟨by rfl, ?_⟩) ?_ ?_
           rotate_left
           ·
            intro w'
            go_simp
            with_reducible rfl
           rotate_left
           ·
            simp only [Act.put, List.setIfInBounds_toArray, List.set_cons_zero, List.set_cons_succ, i64_w, i32_w]
            rfl
           refine pure_ (i := 2) (N := some 157) (v := ?_) (a' := ?_) X37 rfl rfl (any_of HT_.out (by kernel_rfl)) (fun _ _ _ h => h) (Or.inl ⟨by rfl, ?_⟩) ?_ ?_
           rotate_left
           ·
            intro w'
            go_simp
            with_reducible rfl
           rotate_left
           ·
            simp only [Act.put, List.setIfInBounds_toArray, List.set_cons_zero, List.set_cons_succ, i64_w, i32_w]
            rfl
           refine pure_ (i := 4) (N := some 159) (v := ?_) (a' := ?_) X38 rfl rfl (any_of HT_.out (by kernel_rfl)) (fun _ _ _ h => h) (Or.inl ⟨by rfl, ?_⟩) ?_ ?_
           rotate_left
           ·
            intro w'
            go_simp
            with_reducible rfl
           rotate_left
           ·
            simp only [Act.put, List.setIfInBounds_toArray, List.set_cons_zero, List.set_cons_succ, i64_w, i32_w]
            rfl
           refine pure_ (i := 5) (N := some 160) (v := ?_) (a' := ?_) X39 rfl rfl (any_of HT_.out (by kernel_rfl)) (fun _ _ _ h => h) (Or.inl ⟨by rfl, ?_⟩) ?_ ?_
           rotate_left
           ·
            intro w'
            go_simp
            with_reducible rfl
           rotate_left
           ·
            simp only [Act.put, List.setIfInBounds_toArray, List.set_cons_zero, List.set_cons_succ, i64_w, i32_w]
            rfl
           refine pure_ (i := 6) (N := some 161) (v := ?_) (a' := ?_) X40 rfl rfl (any_of HT_.out (by kernel_rfl)) (fun _ _ _ h => h) (Or.inl ⟨by rfl, ?_⟩) ?_ ?_
           rotate_left
           ·
            intro w'
            go_simp
            with_reducible rfl
           rotate_left
           ·
            simp only [Act.put, List.setIfInBounds_toArray, List.set_cons_zero, List.set_cons_succ, i64_w, i32_w]
            rfl
           refine take_ (i := 3) (N := some 158) (v := ?_) (a' := ?_) X41 rfl rfl (take_ofW HT_.out HW_.out (by kernel_rfl)) (fun _ _ _ h => h) (Or.inl ⟨by rfl, ?_⟩) hHeld ?_ ?_
           rotate_left
           ·
            rintro w' ⟨s0, s1, s2, s3, s4, s5, s6, s7, s8⟩
            go_simp
            with_reducible rfl
           rotate_left
           ·
            simp only [Act.put, List.setIfInBounds_toArray, List.set_cons_zero, List.set_cons_succ, i64_w, i32_w]
            rfl
           refine take_ (i := 7) (N := some 162) (v := ?_) (a' := ?_) X42 rfl rfl (take_ofW HT_.out HW_.out (by kernel_rfl)) (fun _ _ _ h => h) (Or.inl ⟨by rfl, ?_⟩) hHeld ?_ ?_
           rotate_left
           ·
            rintro w' ⟨s0, s1, s2, s3, s4, s5, s6, s7, s8⟩
            go_simp
            with_reducible rfl
           rotate_left
           ·
            simp only [Act.put, List.setIfInBounds_toArray, List.set_cons_zero, List.set_cons_succ, i64_w, i32_w]
            rfl
           refine pure_ (i := 8) (N := some 163) (v := ?_) (a' := ?_) X43 rfl rfl (any_of HT_.out (by kernel_rfl)) (fun _ _ _ h => h) (Or.inl ⟨by rfl, ?_⟩) ?_ ?_
           rotate_left
           ·
            intro w'
            go_simp
            with_reducible rfl
           rotate_left
           ·
            simp only [Act.put, List.setIfInBounds_toArray, List.set_cons_zero, List.set_cons_succ, i64_w, i32_w]
            rfl
           refine pure_ (i := 9) (N := some 164) (v := ?_) (a' := ?_) X44 rfl rfl (any_of HT_.out (by kernel_rfl)) (fun _ _ _ h => h) (Or.inl ⟨by rfl, ?_⟩) ?_ ?_
           rotate_left
           ·
            intro w'
            go_simp
            with_reducible rfl
           rotate_left
           ·
            simp only [Act.put, List.setIfInBounds_toArray, List.set_cons_zero, List.set_cons_succ, i64_w, i32_w]
            rfl
           refine pure_ (i := 10) (N := some 165) (v := ?_) (a' := ?_) X45 rfl rfl (any_of HT_.out (by kernel_rfl)) (fun _ _ _ h => h) (Or.inl ⟨by rfl, ?_⟩) ?_ ?_
           rotate_left
           ·
            intro w'
            go_simp
            with_reducible rfl
           rotate_left
           ·
            simp only [Act.put, List.setIfInBounds_toArray, List.set_cons_zero, List.set_cons_succ, i64_w, i32_w]
            rfl
           refine pure_ (i := 11) (N := some 166) (v := ?_) (a' := ?_) X46 rfl rfl (any_of HT_.out (by kernel_rfl)) (fun _ _ _ h => h) (Or.inl ⟨by rfl, ?_⟩) ?_ ?_
           rotate_left
           ·
            intro w'
            go_simp
            with_reducible rfl
           rotate_left
           ·
            simp only [Act.put, List.setIfInBounds_toArray, List.set_cons_zero, List.set_cons_succ, i64_w, i32_w]
            rfl
           refine take_ (i := 12) (N := some 167) (v := ?_) (a' := ?_) X47 rfl rfl (take_ofW HT_.out HW_.out (by kernel_rfl)) (fun _ _ _ h => h) (Or.inl ⟨by rfl, ?_⟩) hHeld ?_ ?_
           rotate_left
           ·
            rintro w' ⟨s0, s1, s2, s3, s4, s5, s6, s7, s8⟩
            go_simp
            with_reducible rfl
           rotate_left
           ·
            simp only [Act.put, List.setIfInBounds_toArray, List.set_cons_zero, List.set_cons_succ, i64_w, i32_w]
            rfl
           refine one_ (i := 13) (N := some 168) X48 rfl rfl (one_of HT_.out (by kernel_rfl)) (by decide) (fun K hK => ?_)
           refine goes_ Try.func14 (by kernel_rfl) rfl #[.agg #[.int .i64 E0, .int .i64 F0, .int .i64 Q0], .int .i64 0] (by rfl) rfl rfl (by (try simp only [List.map_toArray, List.map_cons, List.map_nil]); first | done | rfl | (simp only [List.length_drop, List.length_take]; rfl)) ?_
           with_reducible refine (writes_at (e := E0) (b := F0) (p := Q0) (n := 0) (r := true) h0.out _).mono ?_
           rintro en w7 ⟨rfl, hb7⟩
           refine ⟨_, rfl, ?_⟩
           have k_n := Kn.out.below hb7
           have k_a := Ka.out.below hb7
           have h_ := below_step HB.out hb7
           clear HB hb7 Kn Ka; have HB := Asd.mk h_; clear h_; have Kn := Asd.mk k_n; clear k_n; have Ka := Asd.mk k_a; clear k_a
           refine hK.out _ _ ⟨Kn.out.cell 0 rfl, Kn.out.cell 1 rfl, Kn.out.cell 2 rfl, Kn.out.cell 3 rfl, Kn.out.cell 4 rfl, Kn.out.cell 5 rfl, Ka.out.cell 0 rfl, Ka.out.cell 1 rfl, Ka.out.cell 2 rfl⟩ (fun hHeld => ?_)
           clear hK K
           refine norm_ (a' := ?_) ?_ ?_
           rotate_left
           ·
            (try show Act.put _ (some 168) _ = _)
            first | rfl | (simp only [Act.put, List.setIfInBounds_toArray, List.set_cons_zero, List.set_cons_succ, i64_w, i32_w]; rfl)
           refine pure_ (i := 14) (N := some 169) (v := ?_) (a' := ?_) X49 rfl rfl (any_of HT_.out (by kernel_rfl)) (fun _ _ _ h => h) (Or.inl ⟨by rfl, ?_⟩) ?_ ?_
           rotate_left
           ·
            intro w'
            go_simp
            with_reducible rfl
           rotate_left
           ·
            simp only [Act.put, List.setIfInBounds_toArray, List.set_cons_zero, List.set_cons_succ, i64_w, i32_w]
            rfl
           refine pure_ (i := 15) (N := some 170) (v := ?_) (a' := ?_) X50 rfl rfl (any_of HT_.out (by kernel_rfl)) (fun _ _ _ h => h) (Or.inl ⟨by rfl, ?_⟩) ?_ ?_
           rotate_left
           ·
            intro w'
            go_simp
            with_reducible rfl
           rotate_left
           ·
            simp only [Act.put, List.setIfInBounds_toArray, List.set_cons_zero, List.set_cons_succ, i64_w, i32_w]
            rfl
           refine pure_ (i := 16) (N := some 171) (v := ?_) (a' := ?_) X51 rfl rfl (any_of HT_.out (by kernel_rfl)) (fun _ _ _ h => h) (Or.inl ⟨by rfl, ?_⟩) ?_ ?_
           rotate_left
           ·
            intro w'
            go_simp
            with_reducible rfl
           rotate_left
           ·
            simp only [Act.put, List.setIfInBounds_toArray, List.set_cons_zero, List.set_cons_succ, i64_w, i32_w]
            rfl
           refine pure_ (i := 17) (N := some 172) (v := ?_) (a' := ?_) X52 rfl rfl (any_of HT_.out (by kernel_rfl)) (fun _ _ _ h => h) (Or.inl ⟨by rfl, ?_⟩) ?_ ?_
           rotate_left
           ·
            intro w'
            go_simp
            with_reducible rfl
           rotate_left
           ·
            simp only [Act.put, List.setIfInBounds_toArray, List.set_cons_zero, List.set_cons_succ, i64_w, i32_w]
            rfl
           refine take_ (i := 18) (N := some 173) (v := ?_) (a' := ?_) X53 rfl rfl (take_ofW HT_.out HW_.out (by kernel_rfl)) (fun _ _ _ h => h) (Or.inl ⟨by rfl, ?_⟩) hHeld ?_ ?_
           rotate_left
           ·
            rintro w' ⟨s0, s1, s2, s3, s4, s5, s6, s7, s8⟩
            go_simp
            with_reducible rfl
           rotate_left
           ·
            simp only [Act.put, List.setIfInBounds_toArray, List.set_cons_zero, List.set_cons_succ, i64_w, i32_w]
            rfl
           refine one_ (i := 19) (N := some 174) X54 rfl rfl (one_of HT_.out (by kernel_rfl)) (by decide) (fun K hK => ?_)
           refine goes_ Try.func14 (by kernel_rfl) rfl #[.agg #[.int .i64 E1, .int .i64 F1, .int .i64 Q1], .int .i64 1] (by rfl) rfl rfl (by (try simp only [List.map_toArray, List.map_cons, List.map_nil]); first | done | rfl | (simp only [List.length_drop, List.length_take]; rfl)) ?_
           with_reducible refine (writes_at (e := E1) (b := F1) (p := Q1) (n := 1) (r := false) h1.out _).mono ?_
           rintro en w8 ⟨rfl, hb8⟩
           refine ⟨_, rfl, ?_⟩
           have k_n := Kn.out.below hb8
           have k_a := Ka.out.below hb8
           have h_ := below_step HB.out hb8
           clear HB hb8 Kn Ka; have HB := Asd.mk h_; clear h_; have Kn := Asd.mk k_n; clear k_n; have Ka := Asd.mk k_a; clear k_a
           refine hK.out _ _ ⟨Kn.out.cell 0 rfl, Kn.out.cell 1 rfl, Kn.out.cell 2 rfl, Kn.out.cell 3 rfl, Kn.out.cell 4 rfl, Kn.out.cell 5 rfl, Ka.out.cell 0 rfl, Ka.out.cell 1 rfl, Ka.out.cell 2 rfl⟩ (fun hHeld => ?_)
           clear hK K
           refine norm_ (a' := ?_) ?_ ?_
           rotate_left
           ·
            (try show Act.put _ (some 174) _ = _)
            first | rfl | (simp only [Act.put, List.setIfInBounds_toArray, List.set_cons_zero, List.set_cons_succ, i64_w, i32_w]; rfl)
           refine pure_ (i := 20) (N := some 175) (v := ?_) (a' := ?_) X55 rfl rfl (any_of HT_.out (by kernel_rfl)) (fun _ _ _ h => h) (Or.inl ⟨by rfl, ?_⟩) ?_ ?_
           rotate_left
           ·
            intro w'
            go_simp
            with_reducible rfl
           rotate_left
           ·
            simp only [Act.put, List.setIfInBounds_toArray, List.set_cons_zero, List.set_cons_succ, i64_w, i32_w]
            rfl
           refine done_ (done_of HT_.out (by kernel_rfl)) ?_
           have Z : w.heap.size ≤ w8.heap.size := HB.out.size
           have Ln := Kn.out.lt; have cn0 := Kn.out.cell 0 rfl; have fn0 := Kn.out.frozen 0; have cn1 := Kn.out.cell 1 rfl; have fn1 := Kn.out.frozen 1; have cn2 := Kn.out.cell 2 rfl; have fn2 := Kn.out.frozen 2; have cn3 := Kn.out.cell 3 rfl; have fn3 := Kn.out.frozen 3; have cn4 := Kn.out.cell 4 rfl; have fn4 := Kn.out.frozen 4; have cn5 := Kn.out.cell 5 rfl; have fn5 := Kn.out.frozen 5
           have La := Ka.out.lt; have ca0 := Ka.out.cell 0 rfl; have fa0 := Ka.out.frozen 0; have ca1 := Ka.out.cell 1 rfl; have fa1 := Ka.out.frozen 1; have ca2 := Ka.out.cell 2 rfl; have fa2 := Ka.out.frozen 2
           go_wp2_with fail
           go_region_held3 (fun w' => Below w.heap.size w w' ∧ Blk w' (w1.heap.size) #[.int .i64 E0, .int .i64 F0, .int .i64 Q0, .int .i64 E1, .int .i64 F1, .int .i64 Q1] 27 ∧ Blk w' (wr.heap.size + 1) #[.int .i64 A0, .int .i64 B0, .int .i64 P0] 27 ∧ w'.cell? ⟨w1.heap.size, 0, none⟩ = some (.int .i64 E0) ∧ w'.cell? ⟨w1.heap.size, 1, none⟩ = some (.int .i64 F0) ∧ w'.cell? ⟨w1.heap.size, 2, none⟩ = some (.int .i64 Q0) ∧ w'.cell? ⟨w1.heap.size, 3, none⟩ = some (.int .i64 E1) ∧ w'.cell? ⟨w1.heap.size, 4, none⟩ = some (.int .i64 F1) ∧ w'.cell? ⟨w1.heap.size, 5, none⟩ = some (.int .i64 Q1) ∧ w'.cell? ⟨wr.heap.size + 1, 0, none⟩ = some (.int .i64 A0) ∧ w'.cell? ⟨wr.heap.size + 1, 1, none⟩ = some (.int .i64 B0) ∧ w'.cell? ⟨wr.heap.size + 1, 2, none⟩ = some (.int .i64 P0)) (first | exact ⟨below_drew HB.out, Kn.out.drew, Ka.out.drew, Kn.out.drew.cell 0 rfl, Kn.out.drew.cell 1 rfl, Kn.out.drew.cell 2 rfl, Kn.out.drew.cell 3 rfl, Kn.out.drew.cell 4 rfl, Kn.out.drew.cell 5 rfl, Ka.out.drew.cell 0 rfl, Ka.out.drew.cell 1 rfl, Ka.out.drew.cell 2 rfl⟩ | (have hh := ‹Below w.heap.size w _ ∧ _›; exact ⟨below_step hh.1 hb, hh.2.1.below hb, hh.2.2.1.below hb, (hh.2.1.below hb).cell 0 rfl, (hh.2.1.below hb).cell 1 rfl, (hh.2.1.below hb).cell 2 rfl, (hh.2.1.below hb).cell 3 rfl, (hh.2.1.below hb).cell 4 rfl, (hh.2.1.below hb).cell 5 rfl, (hh.2.2.1.below hb).cell 0 rfl, (hh.2.2.1.below hb).cell 1 rfl, (hh.2.2.1.below hb).cell 2 rfl⟩) | exact ‹Below w.heap.size w _ ∧ _›) (first | (go_at_call 16; refine (judge_at (e := E0) (b := F0) (p := Q0) (n := 0) (x := Q0 - 1) (t := true) (r := 3) hJ.out _).mono ?_; rintro en w41 ⟨rfl, hb⟩))
           obtain ⟨h_, k_n, k_a, _⟩ := ‹Below w.heap.size w w41 ∧ _›
           clear Kn Ln cn0 fn0 cn1 fn1 cn2 fn2 cn3 fn3 cn4 fn4 cn5 fn5 Ka La ca0 fa0 ca1 fa1 ca2 fa2 HB Z; have HB := Asd.mk h_; clear h_; have Z : w.heap.size ≤ w41.heap.size := HB.out.size
           have Kn := Asd.mk k_n; have Ln := k_n.lt; have cn0 := k_n.cell 0 rfl; have fn0 := k_n.frozen 0; have cn1 := k_n.cell 1 rfl; have fn1 := k_n.frozen 1; have cn2 := k_n.cell 2 rfl; have fn2 := k_n.frozen 2; have cn3 := k_n.cell 3 rfl; have fn3 := k_n.frozen 3; have cn4 := k_n.cell 4 rfl; have fn4 := k_n.frozen 4; have cn5 := k_n.cell 5 rfl; have fn5 := k_n.frozen 5; clear k_n
           have Ka := Asd.mk k_a; have La := k_a.lt; have ca0 := k_a.cell 0 rfl; have fa0 := k_a.frozen 0; have ca1 := k_a.cell 1 rfl; have fa1 := k_a.frozen 1; have ca2 := k_a.cell 2 rfl; have fa2 := k_a.frozen 2; clear k_a
           go_wp2
           go_roundg (gk - 1)
           case measure => have := R2.out; omega
           case rel => exact ⟨k + 1, E0, F0, Q0, E1, F1, Q1, by go_num, by omega, (by have := R2.out; omega), M1.out, Kn.out, HB.out⟩
        ·
         have hee : (E0 == E1) = false := beq_eq_false_iff_ne.2 he
         clear he
         as_aux_lemma =>
          have hJ := Asd.mk (judge_old (e := E0) (b := F0) (p := Q0) (n := 0) (t := true) (by omega) (by omega) (by omega) (by omega) (by omega) (by omega) (by decide))
          have k_n := Kn.out.drew
          have k_a := Ka.out.drew
          have h_ := below_drew HB.out
          refine start_ (n := 21) (S := fun w' => w'.cell? ⟨w1.heap.size, 0, none⟩ = some (.int .i64 E0) ∧ w'.cell? ⟨w1.heap.size, 1, none⟩ = some (.int .i64 F0) ∧ w'.cell? ⟨w1.heap.size, 2, none⟩ = some (.int .i64 Q0) ∧ w'.cell? ⟨w1.heap.size, 3, none⟩ = some (.int .i64 E1) ∧ w'.cell? ⟨w1.heap.size, 4, none⟩ = some (.int .i64 F1) ∧ w'.cell? ⟨w1.heap.size, 5, none⟩ = some (.int .i64 Q1) ∧ w'.cell? ⟨wr.heap.size + 1, 0, none⟩ = some (.int .i64 A0) ∧ w'.cell? ⟨wr.heap.size + 1, 1, none⟩ = some (.int .i64 B0) ∧ w'.cell? ⟨wr.heap.size + 1, 2, none⟩ = some (.int .i64 P0)) (ds := []) X34 (by kernel_rfl) rfl rfl ⟨k_n.cell 0 rfl, k_n.cell 1 rfl, k_n.cell 2 rfl, k_n.cell 3 rfl, k_n.cell 4 rfl, k_n.cell 5 rfl, k_a.cell 0 rfl, k_a.cell 1 rfl, k_a.cell 2 rfl⟩ (fun hHeld => ?_); refine with_tabW one25tab one25bits (fun HT_ HW_ => ?_)
          clear HB Kn Ka
          generalize w5.drew = w6 at k_n k_a h_ hHeld ⊢
          have HB := Asd.mk h_; clear h_; have Kn := Asd.mk k_n; clear k_n; have Ka := Asd.mk k_a; clear k_a
          clear Ln La cn0 fn0 cn1 fn1 cn2 fn2 cn3 fn3 cn4 fn4 cn5 fn5 ca0 fa0 ca1 fa1 ca2 fa2
          refine pure_ (i := 0) (N := some 155) (v := ?_) (a' := ?_) X35 rfl rfl (any_of HT_.out (by kernel_rfl)) (fun _ _ _ h => h) (Or.inl ⟨by rfl, ?_⟩) ?_ ?_
          rotate_left
          ·
           intro w'
           go_simp
           with_reducible rfl
          rotate_left
          ·
           simp only [Act.put, List.setIfInBounds_toArray, List.set_cons_zero, List.set_cons_succ, i64_w, i32_w]
           rfl
          refine pure_ (i := 1) (N := some 156) (v := ?_) (a' := ?_) X36 rfl rfl (any_of HT_.out (by kernel_rfl)) (fun _ _ _ h => h) (Or.inl ⟨by rfl, ?_⟩) ?_ ?_
          rotate_left
          ·
           intro w'
           go_simp
           with_reducible rfl
          rotate_left
          ·
           simp only [Act.put, List.setIfInBounds_toArray, List.set_cons_zero, List.set_cons_succ, i64_w, i32_w]
           rfl
          refine pure_ (i := 2) (N := some 157) (v := ?_) (a' := ?_) X37 rfl rfl (any_of HT_.out (by kernel_rfl)) (fun _ _ _ h => h) (Or.inl ⟨by rfl, ?_⟩) ?_ ?_
          rotate_left
          ·
           intro w'
           go_simp
           with_reducible rfl
          rotate_left
          ·
           simp only [Act.put, List.setIfInBounds_toArray, List.set_cons_zero, List.set_cons_succ, i64_w, i32_w]
           rfl
          refine pure_ (i := 4) (N := some 159) (v := ?_) (a' := ?_) X38 rfl rfl (any_of HT_.out (by kernel_rfl)) (fun _ _ _ h => h) (Or.inl ⟨by rfl, ?_⟩) ?_ ?_
          rotate_left
          ·
           intro w'
           go_simp
           with_reducible rfl
          rotate_left
          ·
           simp only [Act.put, List.setIfInBounds_toArray, List.set_cons_zero, List.set_cons_succ, i64_w, i32_w]
           rfl
          refine pure_ (i := 5) (N := some 160) (v := ?_) (a' := ?_) X39 rfl rfl (any_of HT_.out (by kernel_rfl)) (fun _ _ _ h => h) (Or.inl ⟨by rfl, ?_⟩) ?_ ?_
          rotate_left
          ·
           intro w'
           go_simp
           with_reducible rfl
          rotate_left
          ·
           simp only [Act.put, List.setIfInBounds_toArray, List.set_cons_zero, List.set_cons_succ, i64_w, i32_w]
           rfl
          refine pure_ (i := 6) (N := some 161) (v := ?_) (a' := ?_) X40 rfl rfl (any_of HT_.out (by kernel_rfl)) (fun _ _ _ h => h) (Or.inl ⟨by rfl, ?_⟩) ?_ ?_
          rotate_left
          ·
           intro w'
           go_simp
           with_reducible rfl
          rotate_left
          ·
           simp only [Act.put, List.setIfInBounds_toArray, List.set_cons_zero, List.set_cons_succ, i64_w, i32_w]
           rfl
          refine take_ (i := 3) (N := some 158) (v := ?_) (a' := ?_) X41 rfl rfl (take_ofW HT_.out HW_.out (by kernel_rfl)) (fun _ _ _ h => h) (Or.inl ⟨by rfl, ?_⟩) hHeld ?_ ?_
          rotate_left
          ·
           rintro w' ⟨s0, s1, s2, s3, s4, s5, s6, s7, s8⟩
           go_simp
           with_reducible rfl
          rotate_left
          ·
           simp only [Act.put, List.setIfInBounds_toArray, List.set_cons_zero, List.set_cons_succ, i64_w, i32_w]
           rfl
          refine take_ (i := 7) (N := some 162) (v := ?_) (a' := ?_) X42 rfl rfl (take_ofW HT_.out HW_.out (by kernel_rfl)) (fun _ _ _ h => h) (Or.inl ⟨by rfl, ?_⟩) hHeld ?_ ?_
          rotate_left
          ·
           rintro w' ⟨s0, s1, s2, s3, s4, s5, s6, s7, s8⟩
           go_simp
           with_reducible rfl
          rotate_left
          ·
           simp only [Act.put, List.setIfInBounds_toArray, List.set_cons_zero, List.set_cons_succ, i64_w, i32_w]
           rfl
          refine pure_ (i := 8) (N := some 163) (v := ?_) (a' := ?_) X43 rfl rfl (any_of HT_.out (by kernel_rfl)) (fun _ _ _ h => h) (Or.inl ⟨by rfl, ?_⟩) ?_ ?_
          rotate_left
          ·
           intro w'
           go_simp
           with_reducible rfl
          rotate_left
          ·
           simp only [Act.put, List.setIfInBounds_toArray, List.set_cons_zero, List.set_cons_succ, i64_w, i32_w]
           rfl
          refine pure_ (i := 9) (N := some 164) (v := ?_) (a' := ?_) X44 rfl rfl (any_of HT_.out (by kernel_rfl)) (fun _ _ _ h => h) (Or.inl ⟨by rfl, ?_⟩) ?_ ?_
          rotate_left
          ·
           intro w'
           go_simp
           with_reducible rfl
          rotate_left
          ·
           simp only [Act.put, List.setIfInBounds_toArray, List.set_cons_zero, List.set_cons_succ, i64_w, i32_w]
           rfl
          refine pure_ (i := 10) (N := some 165) (v := undef) (a' := ?_) X45 rfl rfl (any_of HT_.out (by kernel_rfl)) (fun _ _ _ h => h) (Or.inr ⟨by rfl, rfl⟩) ?_ ?_
          rotate_left
          ·
           simp only [Act.put, List.setIfInBounds_toArray, List.set_cons_zero, List.set_cons_succ, i64_w, i32_w]
           rfl
          refine pure_ (i := 11) (N := some 166) (v := undef) (a' := ?_) X46 rfl rfl (any_of HT_.out (by kernel_rfl)) (fun _ _ _ h => h) (Or.inr ⟨by rfl, rfl⟩) ?_ ?_
          rotate_left
          ·
           simp only [Act.put, List.setIfInBounds_toArray, List.set_cons_zero, List.set_cons_succ, i64_w, i32_w]
           rfl
          refine pure_ (i := 12) (N := some 167) (v := undef) (a' := ?_) X47 rfl rfl (any_of HT_.out (by kernel_rfl)) (fun _ _ _ h => h) (Or.inr ⟨by rfl, rfl⟩) ?_ ?_
          rotate_left
          ·
           simp only [Act.put, List.setIfInBounds_toArray, List.set_cons_zero, List.set_cons_succ, i64_w, i32_w]
           rfl
          refine pure_ (i := 13) (N := some 168) (v := undef) (a' := ?_) X48 rfl rfl (any_of HT_.out (by kernel_rfl)) (fun _ _ _ h => h) (Or.inr ⟨by rfl, rfl⟩) ?_ ?_
          rotate_left
          ·
           simp only [Act.put, List.setIfInBounds_toArray, List.set_cons_zero, List.set_cons_succ, i64_w, i32_w]
           rfl
          refine pure_ (i := 14) (N := some 169) (v := ?_) (a' := ?_) X49 rfl rfl (any_of HT_.out (by kernel_rfl)) (fun _ _ _ h => h) (Or.inl ⟨by rfl, ?_⟩) ?_ ?_
          rotate_left
          ·
           intro w'
           go_simp
           with_reducible rfl
          rotate_left
          ·
           simp only [Act.put, List.setIfInBounds_toArray, List.set_cons_zero, List.set_cons_succ, i64_w, i32_w]
           rfl
          refine pure_ (i := 15) (N := some 170) (v := ?_) (a' := ?_) X50 rfl rfl (any_of HT_.out (by kernel_rfl)) (fun _ _ _ h => h) (Or.inl ⟨by rfl, ?_⟩) ?_ ?_
          rotate_left
          ·
           intro w'
           go_simp
           with_reducible rfl
          rotate_left
          ·
           simp only [Act.put, List.setIfInBounds_toArray, List.set_cons_zero, List.set_cons_succ, i64_w, i32_w]
           rfl
          refine pure_ (i := 16) (N := some 171) (v := undef) (a' := ?_) X51 rfl rfl (any_of HT_.out (by kernel_rfl)) (fun _ _ _ h => h) (Or.inr ⟨by rfl, rfl⟩) ?_ ?_
          rotate_left
          ·
           simp only [Act.put, List.setIfInBounds_toArray, List.set_cons_zero, List.set_cons_succ, i64_w, i32_w]
           rfl
          refine pure_ (i := 17) (N := some 172) (v := undef) (a' := ?_) X52 rfl rfl (any_of HT_.out (by kernel_rfl)) (fun _ _ _ h => h) (Or.inr ⟨by rfl, rfl⟩) ?_ ?_
          rotate_left
          ·
           simp only [Act.put, List.setIfInBounds_toArray, List.set_cons_zero, List.set_cons_succ, i64_w, i32_w]
           rfl
          refine pure_ (i := 18) (N := some 173) (v := undef) (a' := ?_) X53 rfl rfl (any_of HT_.out (by kernel_rfl)) (fun _ _ _ h => h) (Or.inr ⟨by rfl, rfl⟩) ?_ ?_
          rotate_left
          ·
           simp only [Act.put, List.setIfInBounds_toArray, List.set_cons_zero, List.set_cons_succ, i64_w, i32_w]
           rfl
          refine pure_ (i := 19) (N := some 174) (v := undef) (a' := ?_) X54 rfl rfl (any_of HT_.out (by kernel_rfl)) (fun _ _ _ h => h) (Or.inr ⟨by rfl, rfl⟩) ?_ ?_
          rotate_left
          ·
           simp only [Act.put, List.setIfInBounds_toArray, List.set_cons_zero, List.set_cons_succ, i64_w, i32_w]
           rfl
          refine pure_ (i := 20) (N := some 175) (v := ?_) (a' := ?_) X55 rfl rfl (any_of HT_.out (by kernel_rfl)) (fun _ _ _ h => h) (Or.inl ⟨by rfl, ?_⟩) ?_ ?_
          rotate_left
          ·
           intro w'
           go_simp
           with_reducible rfl
          rotate_left
          ·
           simp only [Act.put, List.setIfInBounds_toArray, List.set_cons_zero, List.set_cons_succ, i64_w, i32_w]
           rfl
          refine done_ (done_of HT_.out (by kernel_rfl)) ?_
          have Z : w.heap.size ≤ w6.heap.size := HB.out.size
          have Ln := Kn.out.lt; have cn0 := Kn.out.cell 0 rfl; have fn0 := Kn.out.frozen 0; have cn1 := Kn.out.cell 1 rfl; have fn1 := Kn.out.frozen 1; have cn2 := Kn.out.cell 2 rfl; have fn2 := Kn.out.frozen 2; have cn3 := Kn.out.cell 3 rfl; have fn3 := Kn.out.frozen 3; have cn4 := Kn.out.cell 4 rfl; have fn4 := Kn.out.frozen 4; have cn5 := Kn.out.cell 5 rfl; have fn5 := Kn.out.frozen 5
          have La := Ka.out.lt; have ca0 := Ka.out.cell 0 rfl; have fa0 := Ka.out.frozen 0; have ca1 := Ka.out.cell 1 rfl; have fa1 := Ka.out.frozen 1; have ca2 := Ka.out.cell 2 rfl; have fa2 := Ka.out.frozen 2
          go_wp2_with fail
          go_region_held3 (fun w' => Below w.heap.size w w' ∧ Blk w' (w1.heap.size) #[.int .i64 E0, .int .i64 F0, .int .i64 Q0, .int .i64 E1, .int .i64 F1, .int .i64 Q1] 27 ∧ Blk w' (wr.heap.size + 1) #[.int .i64 A0, .int .i64 B0, .int .i64 P0] 27 ∧ w'.cell? ⟨w1.heap.size, 0, none⟩ = some (.int .i64 E0) ∧ w'.cell? ⟨w1.heap.size, 1, none⟩ = some (.int .i64 F0) ∧ w'.cell? ⟨w1.heap.size, 2, none⟩ = some (.int .i64 Q0) ∧ w'.cell? ⟨w1.heap.size, 3, none⟩ = some (.int .i64 E1) ∧ w'.cell? ⟨w1.heap.size, 4, none⟩ = some (.int .i64 F1) ∧ w'.cell? ⟨w1.heap.size, 5, none⟩ = some (.int .i64 Q1) ∧ w'.cell? ⟨wr.heap.size + 1, 0, none⟩ = some (.int .i64 A0) ∧ w'.cell? ⟨wr.heap.size + 1, 1, none⟩ = some (.int .i64 B0) ∧ w'.cell? ⟨wr.heap.size + 1, 2, none⟩ = some (.int .i64 P0)) (first | exact ⟨below_drew HB.out, Kn.out.drew, Ka.out.drew, Kn.out.drew.cell 0 rfl, Kn.out.drew.cell 1 rfl, Kn.out.drew.cell 2 rfl, Kn.out.drew.cell 3 rfl, Kn.out.drew.cell 4 rfl, Kn.out.drew.cell 5 rfl, Ka.out.drew.cell 0 rfl, Ka.out.drew.cell 1 rfl, Ka.out.drew.cell 2 rfl⟩ | (have hh := ‹Below w.heap.size w _ ∧ _›; exact ⟨below_step hh.1 hb, hh.2.1.below hb, hh.2.2.1.below hb, (hh.2.1.below hb).cell 0 rfl, (hh.2.1.below hb).cell 1 rfl, (hh.2.1.below hb).cell 2 rfl, (hh.2.1.below hb).cell 3 rfl, (hh.2.1.below hb).cell 4 rfl, (hh.2.1.below hb).cell 5 rfl, (hh.2.2.1.below hb).cell 0 rfl, (hh.2.2.1.below hb).cell 1 rfl, (hh.2.2.1.below hb).cell 2 rfl⟩) | exact ‹Below w.heap.size w _ ∧ _›) (first | (go_at_call 16; refine (judge_at (e := E0) (b := F0) (p := Q0) (n := 0) (x := Q0 - 1) (t := true) (r := 3) hJ.out _).mono ?_; rintro en w41 ⟨rfl, hb⟩))
          obtain ⟨h_, k_n, k_a, _⟩ := ‹Below w.heap.size w w41 ∧ _›
          clear Kn Ln cn0 fn0 cn1 fn1 cn2 fn2 cn3 fn3 cn4 fn4 cn5 fn5 Ka La ca0 fa0 ca1 fa1 ca2 fa2 HB Z; have HB := Asd.mk h_; clear h_; have Z : w.heap.size ≤ w41.heap.size := HB.out.size
          have Kn := Asd.mk k_n; have Ln := k_n.lt; have cn0 := k_n.cell 0 rfl; have fn0 := k_n.frozen 0; have cn1 := k_n.cell 1 rfl; have fn1 := k_n.frozen 1; have cn2 := k_n.cell 2 rfl; have fn2 := k_n.frozen 2; have cn3 := k_n.cell 3 rfl; have fn3 := k_n.frozen 3; have cn4 := k_n.cell 4 rfl; have fn4 := k_n.frozen 4; have cn5 := k_n.cell 5 rfl; have fn5 := k_n.frozen 5; clear k_n
          have Ka := Asd.mk k_a; have La := k_a.lt; have ca0 := k_a.cell 0 rfl; have fa0 := k_a.frozen 0; have ca1 := k_a.cell 1 rfl; have fa1 := k_a.frozen 1; have ca2 := k_a.cell 2 rfl; have fa2 := k_a.frozen 2; clear k_a
          go_wp2
          go_roundg (gk - 1)
          case measure => have := R2.out; omega
          case rel => exact ⟨k + 1, E0, F0, Q0, E1, F1, Q1, by go_num, by omega, (by have := R2.out; omega), M1.out, Kn.out, HB.out⟩
    ·
     obtain rfl : c = 1 := by omega
     as_aux_lemma =>
      go_upto_block 2 with fail
      simp only [hc]
      clear hc
      have k_n := (((Kn.out.alloc (.cells #[.int .i64 v0, .int .i64 v1, .int .i64 v2] 48 (0, 0))).alloc (.cells #[.int .i64 A1, .int .i64 B1, .int .i64 P1] 27 (0, 0))).alloc (.cells #[.int .i64 A0, .int .i64 B0, .int .i64 P0] 27 (0, 0)))
      have k_o : Blk (((wr.alloc (.cells #[.int .i64 v0, .int .i64 v1, .int .i64 v2] 48 (0, 0))).alloc (.cells #[.int .i64 A1, .int .i64 B1, .int .i64 P1] 27 (0, 0))).alloc (.cells #[.int .i64 A0, .int .i64 B0, .int .i64 P0] 27 (0, 0))) (wr.heap.size) #[.int .i64 v0, .int .i64 v1, .int .i64 v2] 48 := (by have h := Blk.new wr #[.int .i64 v0, .int .i64 v1, .int .i64 v2] 48; (try rw [show wr.heap.size = wr.heap.size from by simp] at h); exact ((h.alloc (.cells #[.int .i64 A1, .int .i64 B1, .int .i64 P1] 27 (0, 0))).alloc (.cells #[.int .i64 A0, .int .i64 B0, .int .i64 P0] 27 (0, 0))))
      have k_a : Blk (((wr.alloc (.cells #[.int .i64 v0, .int .i64 v1, .int .i64 v2] 48 (0, 0))).alloc (.cells #[.int .i64 A1, .int .i64 B1, .int .i64 P1] 27 (0, 0))).alloc (.cells #[.int .i64 A0, .int .i64 B0, .int .i64 P0] 27 (0, 0))) (wr.heap.size + 1) #[.int .i64 A1, .int .i64 B1, .int .i64 P1] 27 := (by have h := Blk.new (wr.alloc (.cells #[.int .i64 v0, .int .i64 v1, .int .i64 v2] 48 (0, 0))) #[.int .i64 A1, .int .i64 B1, .int .i64 P1] 27; (try rw [show (wr.alloc (.cells #[.int .i64 v0, .int .i64 v1, .int .i64 v2] 48 (0, 0))).heap.size = wr.heap.size + 1 from by simp] at h); exact (h.alloc (.cells #[.int .i64 A0, .int .i64 B0, .int .i64 P0] 27 (0, 0))))
      have k_b : Blk (((wr.alloc (.cells #[.int .i64 v0, .int .i64 v1, .int .i64 v2] 48 (0, 0))).alloc (.cells #[.int .i64 A1, .int .i64 B1, .int .i64 P1] 27 (0, 0))).alloc (.cells #[.int .i64 A0, .int .i64 B0, .int .i64 P0] 27 (0, 0))) (wr.heap.size + 1 + 1) #[.int .i64 A0, .int .i64 B0, .int .i64 P0] 27 := (by have h := Blk.new ((wr.alloc (.cells #[.int .i64 v0, .int .i64 v1, .int .i64 v2] 48 (0, 0))).alloc (.cells #[.int .i64 A1, .int .i64 B1, .int .i64 P1] 27 (0, 0))) #[.int .i64 A0, .int .i64 B0, .int .i64 P0] 27; (try rw [show ((wr.alloc (.cells #[.int .i64 v0, .int .i64 v1, .int .i64 v2] 48 (0, 0))).alloc (.cells #[.int .i64 A1, .int .i64 B1, .int .i64 P1] 27 (0, 0))).heap.size = wr.heap.size + 1 + 1 from by simp] at h); exact h)
      have h_ := below_alloc (below_alloc (below_alloc (HB.out) (.cells #[.int .i64 v0, .int .i64 v1, .int .i64 v2] 48 (0, 0))) (.cells #[.int .i64 A1, .int .i64 B1, .int .i64 P1] 27 (0, 0))) (.cells #[.int .i64 A0, .int .i64 B0, .int .i64 P0] 27 (0, 0))
      revert k_n k_o k_a k_b h_
      generalize (((wr.alloc (.cells #[.int .i64 v0, .int .i64 v1, .int .i64 v2] 48 (0, 0))).alloc (.cells #[.int .i64 A1, .int .i64 B1, .int .i64 P1] 27 (0, 0))).alloc (.cells #[.int .i64 A0, .int .i64 B0, .int .i64 P0] 27 (0, 0))) = w3
      intro k_n k_o k_a k_b h_
      have Dno : w1.heap.size < wr.heap.size := (by have := Ln; omega)
      have Dna : w1.heap.size < wr.heap.size + 1 := (by have := Ln; omega)
      have Dnb : w1.heap.size < wr.heap.size + 1 + 1 := (by have := Ln; omega)
      have Doa : wr.heap.size < wr.heap.size + 1 := (by omega)
      have Dob : wr.heap.size < wr.heap.size + 1 + 1 := (by omega)
      have Go : w.heap.size ≤ wr.heap.size := (by have := HB.out.size; omega)
      have Dab : wr.heap.size + 1 < wr.heap.size + 1 + 1 := (by omega)
      have Ga : w.heap.size ≤ wr.heap.size + 1 := (by have := HB.out.size; omega)
      have Gb : w.heap.size ≤ wr.heap.size + 1 + 1 := (by have := HB.out.size; omega)
      clear Kn Ln cn0 fn0 cn1 fn1 cn2 fn2 cn3 fn3 cn4 fn4 cn5 fn5 HB Z; have HB := Asd.mk h_; clear h_; have Z : w.heap.size ≤ w3.heap.size := HB.out.size
      have Kn := Asd.mk k_n; have Ln := k_n.lt; have cn0 := k_n.cell 0 rfl; have fn0 := k_n.frozen 0; have cn1 := k_n.cell 1 rfl; have fn1 := k_n.frozen 1; have cn2 := k_n.cell 2 rfl; have fn2 := k_n.frozen 2; have cn3 := k_n.cell 3 rfl; have fn3 := k_n.frozen 3; have cn4 := k_n.cell 4 rfl; have fn4 := k_n.frozen 4; have cn5 := k_n.cell 5 rfl; have fn5 := k_n.frozen 5; clear k_n
      have Ko := Asd.mk k_o; have Lo := k_o.lt; have co0 := k_o.cell 0 rfl; have fo0 := k_o.frozen 0; have co1 := k_o.cell 1 rfl; have fo1 := k_o.frozen 1; have co2 := k_o.cell 2 rfl; have fo2 := k_o.frozen 2; clear k_o
      have Ka := Asd.mk k_a; have La := k_a.lt; have ca0 := k_a.cell 0 rfl; have fa0 := k_a.frozen 0; have ca1 := k_a.cell 1 rfl; have fa1 := k_a.frozen 1; have ca2 := k_a.cell 2 rfl; have fa2 := k_a.frozen 2; clear k_a
      have Kb := Asd.mk k_b; have Lb := k_b.lt; have cb0 := k_b.cell 0 rfl; have fb0 := k_b.frozen 0; have cb1 := k_b.cell 1 rfl; have fb1 := k_b.frozen 1; have cb2 := k_b.cell 2 rfl; have fb2 := k_b.frozen 2; clear k_b
      go_cut [] (fun wx => ∃ (E0 F0 Q0 E1 F1 Q1 : Int), MidRel 1 w1.heap.size (wr.heap.size + 1) k A0 B0 P0 A1 B1 P1 E0 F0 Q0 E1 F1 Q1 w wx)
      case first =>
       as_aux_lemma =>
        by_cases hk0 : v1 = 0
        ·
         have hkk : (v1 == 0) = true := beq_iff_eq.2 hk0
         obtain ⟨l, hl_, l1, l2⟩ := cut_num v2 1000 (by omega) (by omega)
         have hl1 : IntKind.i64.wrap ((IntKind.u64.wrap v2).tmod 1000) = l := (i64_w _).trans hl_; clear hl_ hk0
         by_cases hp : pOK A1 B1 P1 1 l = 0
         ·
          have hw : wrap64 (A1 + 1) = A1 + 1 := by unfold wrap64; omega
          as_aux_lemma =>
           have h1 := Asd.mk (show pE A1 B1 P1 1 l = A1 + 1 by unfold pE; rw [if_pos hp, hw]); have h2 := Asd.mk (show pB A1 B1 P1 1 l = l by unfold pB; rw [if_pos hp]); have h3 := Asd.mk hp; clear hp hw
           go_wp2_with fail
           have k_n := Kn.out.drew
           have k_o := Ko.out.drew
           have k_a := Ka.out.drew
           have k_b := Kb.out.drew
           have h_ := below_drew HB.out
           refine start_ (n := 17) (S := fun w' => w'.cell? ⟨w1.heap.size, 0, none⟩ = some (.int .i64 A0) ∧ w'.cell? ⟨w1.heap.size, 1, none⟩ = some (.int .i64 B0) ∧ w'.cell? ⟨w1.heap.size, 2, none⟩ = some (.int .i64 P0) ∧ w'.cell? ⟨w1.heap.size, 3, none⟩ = some (.int .i64 A1) ∧ w'.cell? ⟨w1.heap.size, 4, none⟩ = some (.int .i64 B1) ∧ w'.cell? ⟨w1.heap.size, 5, none⟩ = some (.int .i64 P1) ∧ w'.cell? ⟨wr.heap.size, 0, none⟩ = some (.int .i64 v0) ∧ w'.cell? ⟨wr.heap.size, 1, none⟩ = some (.int .i64 v1) ∧ w'.cell? ⟨wr.heap.size, 2, none⟩ = some (.int .i64 v2) ∧ w'.cell? ⟨wr.heap.size + 1, 0, none⟩ = some (.int .i64 A1) ∧ w'.cell? ⟨wr.heap.size + 1, 1, none⟩ = some (.int .i64 B1) ∧ w'.cell? ⟨wr.heap.size + 1, 2, none⟩ = some (.int .i64 P1) ∧ w'.cell? ⟨wr.heap.size + 1 + 1, 0, none⟩ = some (.int .i64 A0) ∧ w'.cell? ⟨wr.heap.size + 1 + 1, 1, none⟩ = some (.int .i64 B0) ∧ w'.cell? ⟨wr.heap.size + 1 + 1, 2, none⟩ = some (.int .i64 P0)) (ds := []) X0 (by kernel_rfl) rfl rfl ⟨k_n.cell 0 rfl, k_n.cell 1 rfl, k_n.cell 2 rfl, k_n.cell 3 rfl, k_n.cell 4 rfl, k_n.cell 5 rfl, k_o.cell 0 rfl, k_o.cell 1 rfl, k_o.cell 2 rfl, k_a.cell 0 rfl, k_a.cell 1 rfl, k_a.cell 2 rfl, k_b.cell 0 rfl, k_b.cell 1 rfl, k_b.cell 2 rfl⟩ (fun hHeld => ?_); refine with_tabW one13tab one13bits (fun HT_ HW_ => ?_)
           clear HB Kn Ko Ka Kb
           generalize w3.drew = w4 at k_n k_o k_a k_b h_ hHeld ⊢
           have HB := Asd.mk h_; clear h_; have Kn := Asd.mk k_n; clear k_n; have Ko := Asd.mk k_o; clear k_o; have Ka := Asd.mk k_a; clear k_a; have Kb := Asd.mk k_b; clear k_b
           clear Ln Lo La Lb cn0 fn0 cn1 fn1 cn2 fn2 cn3 fn3 cn4 fn4 cn5 fn5 co0 fo0 co1 fo1 co2 fo2 ca0 fa0 ca1 fa1 ca2 fa2 cb0 fb0 cb1 fb1 cb2 fb2
           refine pure_ (i := 0) (N := some 50) (v := ?_) (a' := ?_) X1 rfl rfl (any_of HT_.out (by kernel_rfl)) (fun _ _ _ h => h) (Or.inl ⟨by rfl, ?_⟩) ?_ ?_
           rotate_left
           ·
            intro w'
            go_simp
            with_reducible rfl
           rotate_left
           ·
            simp only [Act.put, List.setIfInBounds_toArray, List.set_cons_zero, List.set_cons_succ, i64_w, i32_w]
            rfl
           refine pure_ (i := 1) (N := some 51) (v := ?_) (a' := ?_) X2 rfl rfl (any_of HT_.out (by kernel_rfl)) (fun _ _ _ h => h) (Or.inl ⟨by rfl, ?_⟩) ?_ ?_
           rotate_left
           ·
            intro w'
            go_simp
            with_reducible rfl
           rotate_left
           ·
            simp only [Act.put, List.setIfInBounds_toArray, List.set_cons_zero, List.set_cons_succ, i64_w, i32_w]
            rfl
           refine pure_ (i := 2) (N := some 52) (v := ?_) (a' := ?_) X3 rfl rfl (any_of HT_.out (by kernel_rfl)) (fun _ _ _ h => h) (Or.inl ⟨by rfl, ?_⟩) ?_ ?_
           rotate_left
           ·
            intro w'
            go_simp
            with_reducible rfl
           rotate_left
           ·
            simp only [Act.put, List.setIfInBounds_toArray, List.set_cons_zero, List.set_cons_succ, i64_w, i32_w]
            rfl
           refine pure_ (i := 4) (N := some 54) (v := ?_) (a' := ?_) X4 rfl rfl (any_of HT_.out (by kernel_rfl)) (fun _ _ _ h => h) (Or.inl ⟨by rfl, ?_⟩) ?_ ?_
           rotate_left
           ·
            intro w'
            go_simp
            with_reducible rfl
           rotate_left
           ·
            simp only [Act.put, List.setIfInBounds_toArray, List.set_cons_zero, List.set_cons_succ, i64_w, i32_w]
            rfl
           refine pure_ (i := 5) (N := some 55) (v := ?_) (a' := ?_) X5 rfl rfl (any_of HT_.out (by kernel_rfl)) (fun _ _ _ h => h) (Or.inl ⟨by rfl, ?_⟩) ?_ ?_
           rotate_left
           ·
            intro w'
            go_simp
            with_reducible rfl
           rotate_left
           ·
            simp only [Act.put, List.setIfInBounds_toArray, List.set_cons_zero, List.set_cons_succ, i64_w, i32_w]
            rfl
           refine take_ (i := 3) (N := some 53) (v := ?_) (a' := ?_) X6 rfl rfl (take_ofW HT_.out HW_.out (by kernel_rfl)) (fun _ _ _ h => h) (Or.inl ⟨by rfl, ?_⟩) hHeld ?_ ?_
           rotate_left
           ·
            rintro w' ⟨s0, s1, s2, s3, s4, s5, s6, s7, s8, s9, s10, s11, s12, s13, s14⟩
            go_simp
            with_reducible rfl
           rotate_left
           ·
            simp only [Act.put, List.setIfInBounds_toArray, List.set_cons_zero, List.set_cons_succ, i64_w, i32_w]
            rfl
           refine take_ (i := 6) (N := some 56) (v := ?_) (a' := ?_) X7 rfl rfl (take_ofW HT_.out HW_.out (by kernel_rfl)) (fun _ _ _ h => h) (Or.inl ⟨by rfl, ?_⟩) hHeld ?_ ?_
           rotate_left
           ·
            rintro w' ⟨s0, s1, s2, s3, s4, s5, s6, s7, s8, s9, s10, s11, s12, s13, s14⟩
            go_simp
            with_reducible rfl
           rotate_left
           ·
            simp only [Act.put, List.setIfInBounds_toArray, List.set_cons_zero, List.set_cons_succ, i64_w, i32_w]
            rfl
           refine pure_ (i := 7) (N := some 57) (v := ?_) (a' := ?_) X8 rfl rfl (any_of HT_.out (by kernel_rfl)) (fun _ _ _ h => h) (Or.inl ⟨by rfl, ?_⟩) ?_ ?_
           rotate_left
           ·
            intro w'
            go_simp
            with_reducible rfl
           rotate_left
           ·
            simp only [Act.put, List.setIfInBounds_toArray, List.set_cons_zero, List.set_cons_succ, i64_w, i32_w]
            rfl
           refine pure_ (i := 8) (N := some 58) (v := ?_) (a' := ?_) X9 rfl rfl (any_of HT_.out (by kernel_rfl)) (fun _ _ _ h => h) (Or.inl ⟨by rfl, ?_⟩) ?_ ?_
           rotate_left
           ·
            intro w'
            go_simp
            with_reducible rfl
           rotate_left
           ·
            simp only [Act.put, List.setIfInBounds_toArray, List.set_cons_zero, List.set_cons_succ, i64_w, i32_w]
            rfl
           refine pure_ (i := 9) (N := some 59) (v := ?_) (a' := ?_) X10 rfl rfl (any_of HT_.out (by kernel_rfl)) (fun _ _ _ h => h) (Or.inl ⟨by rfl, ?_⟩) ?_ ?_
           rotate_left
           ·
            intro w'
            go_simp
            with_reducible rfl
           rotate_left
           ·
            simp only [Act.put, List.setIfInBounds_toArray, List.set_cons_zero, List.set_cons_succ, i64_w, i32_w]
            rfl
           refine two_ (i := 10) (j := 14) (Ni := some 60) (Nj := some 9) X11 X12 rfl rfl rfl rfl (two_of HT_.out (by kernel_rfl)) (by decide) (by decide) (fun K hK => ?_) (fun K hK => ?_)
           ·
            skip
            refine goes_ Try.func9 (by kernel_rfl) rfl #[.agg #[.int .i64 A1, .int .i64 B1, .int .i64 P1], .int .i64 1, .int .i64 l] (by rfl) rfl rfl (by (try simp only [List.map_toArray, List.map_cons, List.map_nil]); first | done | rfl | (simp only [List.length_drop, List.length_take]; rfl)) ?_
            with_reducible refine (promote_at (e := A1) (b := B1) (p := P1) (n := 1) (l := l) (r1 := A1 + 1) (r2 := l) (r4 := 0) h1.out h2.out h3.out _).mono ?_
            rintro en w5 ⟨rfl, hb5⟩
            refine ⟨_, rfl, ?_⟩
            have k_n := Kn.out.below hb5
            have k_o := Ko.out.below hb5
            have k_a := Ka.out.below hb5
            have k_b := Kb.out.below hb5
            have h_ := below_step HB.out hb5
            clear HB hb5 Kn Ko Ka Kb; have HB := Asd.mk h_; clear h_; have Kn := Asd.mk k_n; clear k_n; have Ko := Asd.mk k_o; clear k_o; have Ka := Asd.mk k_a; clear k_a; have Kb := Asd.mk k_b; clear k_b
            refine hK.out _ _ ⟨Kn.out.cell 0 rfl, Kn.out.cell 1 rfl, Kn.out.cell 2 rfl, Kn.out.cell 3 rfl, Kn.out.cell 4 rfl, Kn.out.cell 5 rfl, Ko.out.cell 0 rfl, Ko.out.cell 1 rfl, Ko.out.cell 2 rfl, Ka.out.cell 0 rfl, Ka.out.cell 1 rfl, Ka.out.cell 2 rfl, Kb.out.cell 0 rfl, Kb.out.cell 1 rfl, Kb.out.cell 2 rfl⟩ (fun hHeld => ?_)
            clear hK K
            refine norm_ (a' := ?_) ?_ ?_
            rotate_left
            ·
             (try show Act.put _ (some 60) _ = _)
             first | rfl | (simp only [Act.put, List.setIfInBounds_toArray, List.set_cons_zero, List.set_cons_succ, i64_w, i32_w]; rfl)
            refine pure_ (i := 11) (N := some 49) (v := ?_) (a' := ?_) X13 rfl rfl (any_of HT_.out (by kernel_rfl)) (fun _ _ _ h => h) (Or.inl ⟨by rfl, ?_⟩) ?_ ?_
            rotate_left
            ·
             intro w'
             go_simp
             with_reducible rfl
            rotate_left
            ·
             simp only [Act.put, List.setIfInBounds_toArray, List.set_cons_zero, List.set_cons_succ, i64_w, i32_w]
             rfl
            refine pure_ (i := 12) (N := some 61) (v := ?_) (a' := ?_) X14 rfl rfl (any_of HT_.out (by kernel_rfl)) (fun _ _ _ h => h) (Or.inl ⟨by rfl, ?_⟩) ?_ ?_
            rotate_left
            ·
             intro w'
             go_simp
             with_reducible rfl
            rotate_left
            ·
             simp only [Act.put, List.setIfInBounds_toArray, List.set_cons_zero, List.set_cons_succ, i64_w, i32_w]
             rfl
            refine pure_ (i := 13) (N := some 62) (v := ?_) (a' := ?_) X15 rfl rfl (any_of HT_.out (by kernel_rfl)) (fun _ _ _ h => h) (Or.inl ⟨by rfl, ?_⟩) ?_ ?_
            rotate_left
            ·
             intro w'
             go_simp
             with_reducible rfl
            rotate_left
            ·
             simp only [Act.put, List.setIfInBounds_toArray, List.set_cons_zero, List.set_cons_succ, i64_w, i32_w]
             rfl
            refine one_ (i := 14) (N := some 9) X16 rfl rfl (one_of HT_.out (by kernel_rfl)) (by decide) (fun K hK => ?_)
            go_simp
            have k_n := Kn.out.alloc (.cells #[.int .i64 0, .int .i64 0, .int .i64 0] 27 (0, 0)); have Dnx : w1.heap.size < w5.heap.size := Kn.out.lt
            have k_o := Ko.out.alloc (.cells #[.int .i64 0, .int .i64 0, .int .i64 0] 27 (0, 0)); have Dox : wr.heap.size < w5.heap.size := Ko.out.lt
            have k_a := Ka.out.alloc (.cells #[.int .i64 0, .int .i64 0, .int .i64 0] 27 (0, 0)); have Dax : wr.heap.size + 1 < w5.heap.size := Ka.out.lt
            have k_b := Kb.out.alloc (.cells #[.int .i64 0, .int .i64 0, .int .i64 0] 27 (0, 0)); have Dbx : wr.heap.size + 1 + 1 < w5.heap.size := Kb.out.lt
            have k_x := Blk.new w5 #[.int .i64 0, .int .i64 0, .int .i64 0] 27
            have h_ := below_alloc HB.out (.cells #[.int .i64 0, .int .i64 0, .int .i64 0] 27 (0, 0)); have Gx : w.heap.size ≤ w5.heap.size := HB.out.size
            refine hK.out _ _ ⟨k_n.cell 0 rfl, k_n.cell 1 rfl, k_n.cell 2 rfl, k_n.cell 3 rfl, k_n.cell 4 rfl, k_n.cell 5 rfl, k_o.cell 0 rfl, k_o.cell 1 rfl, k_o.cell 2 rfl, k_a.cell 0 rfl, k_a.cell 1 rfl, k_a.cell 2 rfl, k_b.cell 0 rfl, k_b.cell 1 rfl, k_b.cell 2 rfl⟩ (fun hHeld => ?_)
            clear hK K
            clear HB Kn Ko Ka Kb
            generalize w5.alloc (.cells #[.int .i64 0, .int .i64 0, .int .i64 0] 27 (0, 0)) = w6 at k_n k_o k_a k_b k_x h_ hHeld ⊢
            have HB := Asd.mk h_; clear h_; have Kn := Asd.mk k_n; clear k_n; have Ko := Asd.mk k_o; clear k_o; have Ka := Asd.mk k_a; clear k_a; have Kb := Asd.mk k_b; clear k_b; have Kx := Asd.mk k_x; clear k_x
            refine norm_ (a' := ?_) ?_ ?_
            rotate_left
            ·
             (try show Act.put _ (some 9) _ = _)
             first | rfl | (simp only [Act.put, List.setIfInBounds_toArray, List.set_cons_zero, List.set_cons_succ, i64_w, i32_w]; rfl)
            refine one_ (i := 15) (N := none) X17 rfl rfl (one_of HT_.out (by kernel_rfl)) (by decide) (fun K hK => ?_)
            have z_0 := Kx.out.cell 0 rfl; have y_0 := Kx.out.frozen 0
            have z_1 := Kx.out.cell 1 rfl; have y_1 := Kx.out.frozen 1
            have z_2 := Kx.out.cell 2 rfl; have y_2 := Kx.out.frozen 2
            go_simp
            clear z_0 y_0 z_1 y_1 z_2 y_2
            have k_n := (((Kn.out.far (g2 := w5.heap.size) (i := 0) (by omega) (.int .i64 (A1 + 1))).far (g2 := w5.heap.size) (i := 1) (by omega) (.int .i64 l)).far (g2 := w5.heap.size) (i := 2) (by omega) (.int .i64 (A1 + 1)))
            have k_o := (((Ko.out.far (g2 := w5.heap.size) (i := 0) (by omega) (.int .i64 (A1 + 1))).far (g2 := w5.heap.size) (i := 1) (by omega) (.int .i64 l)).far (g2 := w5.heap.size) (i := 2) (by omega) (.int .i64 (A1 + 1)))
            have k_a := (((Ka.out.far (g2 := w5.heap.size) (i := 0) (by omega) (.int .i64 (A1 + 1))).far (g2 := w5.heap.size) (i := 1) (by omega) (.int .i64 l)).far (g2 := w5.heap.size) (i := 2) (by omega) (.int .i64 (A1 + 1)))
            have k_b := (((Kb.out.far (g2 := w5.heap.size) (i := 0) (by omega) (.int .i64 (A1 + 1))).far (g2 := w5.heap.size) (i := 1) (by omega) (.int .i64 l)).far (g2 := w5.heap.size) (i := 2) (by omega) (.int .i64 (A1 + 1)))
            have k_x := (((Kx.out.put 0 (.int .i64 (A1 + 1)) rfl).put 1 (.int .i64 l) rfl).put 2 (.int .i64 (A1 + 1)) rfl)
            have h_ := below_set (below_set (below_set (HB.out) (j := 0) (v := .int .i64 (A1 + 1)) (g := w5.heap.size) (by omega)) (j := 1) (v := .int .i64 l) (g := w5.heap.size) (by omega)) (j := 2) (v := .int .i64 (A1 + 1)) (g := w5.heap.size) (by omega)
            refine hK.out _ _ ⟨k_n.cell 0 rfl, k_n.cell 1 rfl, k_n.cell 2 rfl, k_n.cell 3 rfl, k_n.cell 4 rfl, k_n.cell 5 rfl, k_o.cell 0 rfl, k_o.cell 1 rfl, k_o.cell 2 rfl, k_a.cell 0 rfl, k_a.cell 1 rfl, k_a.cell 2 rfl, k_b.cell 0 rfl, k_b.cell 1 rfl, k_b.cell 2 rfl⟩ (fun hHeld => ?_)
            clear hK K
            clear HB Kn Ko Ka Kb Kx
            generalize (((w6).setCell ⟨w5.heap.size, 0, none⟩ (.int .i64 (A1 + 1))).setCell ⟨w5.heap.size, 1, none⟩ (.int .i64 l)).setCell ⟨w5.heap.size, 2, none⟩ (.int .i64 (A1 + 1)) = w7 at k_n k_o k_a k_b k_x h_ hHeld ⊢
            have HB := Asd.mk h_; clear h_; have Kn := Asd.mk k_n; clear k_n; have Ko := Asd.mk k_o; clear k_o; have Ka := Asd.mk k_a; clear k_a; have Kb := Asd.mk k_b; clear k_b; have Kx := Asd.mk k_x; clear k_x
            refine pure_ (i := 16) (N := some 10) (v := ?_) (a' := ?_) X18 rfl rfl (any_of HT_.out (by kernel_rfl)) (fun _ _ _ h => h) (Or.inl ⟨by rfl, ?_⟩) ?_ ?_
            rotate_left
            ·
             intro w'
             go_simp
             with_reducible rfl
            rotate_left
            ·
             simp only [Act.put, List.setIfInBounds_toArray, List.set_cons_zero, List.set_cons_succ, i64_w, i32_w]
             rfl
            refine done_ (done_of HT_.out (by kernel_rfl)) ?_
            have Z : w.heap.size ≤ w7.heap.size := HB.out.size
            have Ln := Kn.out.lt; have cn0 := Kn.out.cell 0 rfl; have fn0 := Kn.out.frozen 0; have cn1 := Kn.out.cell 1 rfl; have fn1 := Kn.out.frozen 1; have cn2 := Kn.out.cell 2 rfl; have fn2 := Kn.out.frozen 2; have cn3 := Kn.out.cell 3 rfl; have fn3 := Kn.out.frozen 3; have cn4 := Kn.out.cell 4 rfl; have fn4 := Kn.out.frozen 4; have cn5 := Kn.out.cell 5 rfl; have fn5 := Kn.out.frozen 5
            have Lo := Ko.out.lt; have co0 := Ko.out.cell 0 rfl; have fo0 := Ko.out.frozen 0; have co1 := Ko.out.cell 1 rfl; have fo1 := Ko.out.frozen 1; have co2 := Ko.out.cell 2 rfl; have fo2 := Ko.out.frozen 2
            have La := Ka.out.lt; have ca0 := Ka.out.cell 0 rfl; have fa0 := Ka.out.frozen 0; have ca1 := Ka.out.cell 1 rfl; have fa1 := Ka.out.frozen 1; have ca2 := Ka.out.cell 2 rfl; have fa2 := Ka.out.frozen 2
            have Lb := Kb.out.lt; have cb0 := Kb.out.cell 0 rfl; have fb0 := Kb.out.frozen 0; have cb1 := Kb.out.cell 1 rfl; have fb1 := Kb.out.frozen 1; have cb2 := Kb.out.cell 2 rfl; have fb2 := Kb.out.frozen 2
            have Lx := Kx.out.lt; have cx0 := Kx.out.cell 0 rfl; have fx0 := Kx.out.frozen 0; have cx1 := Kx.out.cell 1 rfl; have fx1 := Kx.out.frozen 1; have cx2 := Kx.out.cell 2 rfl; have fx2 := Kx.out.frozen 2
            go_wp2
            go_meet
            case rel => exact ⟨A0, B0, P0, (A1 + 1), l, (A1 + 1), mid_promote1 R3.out h3.out (by omega) (by omega), (fun h_ => absurd h_ (by decide)), (fun _ => ⟨by omega, (by repeat (first | exact Ka.out | refine Blk.far ?_ (by omega) _))⟩), ((Kn.out.put 3 _ rfl).put 4 _ rfl).put 5 _ rfl, below_set (below_set (below_set HB.out (by omega)) (by omega)) (by omega)⟩
           ·
            skip
            go_simp
            have k_n := Kn.out.alloc (.cells #[.int .i64 0, .int .i64 0, .int .i64 0] 27 (0, 0)); have Dnx : w1.heap.size < w4.heap.size := Kn.out.lt
            have k_o := Ko.out.alloc (.cells #[.int .i64 0, .int .i64 0, .int .i64 0] 27 (0, 0)); have Dox : wr.heap.size < w4.heap.size := Ko.out.lt
            have k_a := Ka.out.alloc (.cells #[.int .i64 0, .int .i64 0, .int .i64 0] 27 (0, 0)); have Dax : wr.heap.size + 1 < w4.heap.size := Ka.out.lt
            have k_b := Kb.out.alloc (.cells #[.int .i64 0, .int .i64 0, .int .i64 0] 27 (0, 0)); have Dbx : wr.heap.size + 1 + 1 < w4.heap.size := Kb.out.lt
            have k_x := Blk.new w4 #[.int .i64 0, .int .i64 0, .int .i64 0] 27
            have h_ := below_alloc HB.out (.cells #[.int .i64 0, .int .i64 0, .int .i64 0] 27 (0, 0)); have Gx : w.heap.size ≤ w4.heap.size := HB.out.size
            refine hK.out _ _ ⟨k_n.cell 0 rfl, k_n.cell 1 rfl, k_n.cell 2 rfl, k_n.cell 3 rfl, k_n.cell 4 rfl, k_n.cell 5 rfl, k_o.cell 0 rfl, k_o.cell 1 rfl, k_o.cell 2 rfl, k_a.cell 0 rfl, k_a.cell 1 rfl, k_a.cell 2 rfl, k_b.cell 0 rfl, k_b.cell 1 rfl, k_b.cell 2 rfl⟩ (fun hHeld => ?_)
            clear hK K
            clear HB Kn Ko Ka Kb
            generalize w4.alloc (.cells #[.int .i64 0, .int .i64 0, .int .i64 0] 27 (0, 0)) = w5 at k_n k_o k_a k_b k_x h_ hHeld ⊢
            have HB := Asd.mk h_; clear h_; have Kn := Asd.mk k_n; clear k_n; have Ko := Asd.mk k_o; clear k_o; have Ka := Asd.mk k_a; clear k_a; have Kb := Asd.mk k_b; clear k_b; have Kx := Asd.mk k_x; clear k_x
            refine norm_ (a' := ?_) ?_ ?_
            rotate_left
            ·
             (try show Act.put _ (some 9) _ = _)
             first | rfl | (simp only [Act.put, List.setIfInBounds_toArray, List.set_cons_zero, List.set_cons_succ, i64_w, i32_w]; rfl)
            refine one_ (i := 10) (N := some 60) X19 rfl rfl (one_of HT_.out (by kernel_rfl)) (by decide) (fun K hK => ?_)
            refine goes_ Try.func9 (by kernel_rfl) rfl #[.agg #[.int .i64 A1, .int .i64 B1, .int .i64 P1], .int .i64 1, .int .i64 l] (by rfl) rfl rfl (by (try simp only [List.map_toArray, List.map_cons, List.map_nil]); first | done | rfl | (simp only [List.length_drop, List.length_take]; rfl)) ?_
            with_reducible refine (promote_at (e := A1) (b := B1) (p := P1) (n := 1) (l := l) (r1 := A1 + 1) (r2 := l) (r4 := 0) h1.out h2.out h3.out _).mono ?_
            rintro en w6 ⟨rfl, hb6⟩
            refine ⟨_, rfl, ?_⟩
            have k_n := Kn.out.below hb6
            have k_o := Ko.out.below hb6
            have k_a := Ka.out.below hb6
            have k_b := Kb.out.below hb6
            have k_x := Kx.out.below hb6
            have h_ := below_step HB.out hb6
            clear HB hb6 Kn Ko Ka Kb Kx; have HB := Asd.mk h_; clear h_; have Kn := Asd.mk k_n; clear k_n; have Ko := Asd.mk k_o; clear k_o; have Ka := Asd.mk k_a; clear k_a; have Kb := Asd.mk k_b; clear k_b; have Kx := Asd.mk k_x; clear k_x
            refine hK.out _ _ ⟨Kn.out.cell 0 rfl, Kn.out.cell 1 rfl, Kn.out.cell 2 rfl, Kn.out.cell 3 rfl, Kn.out.cell 4 rfl, Kn.out.cell 5 rfl, Ko.out.cell 0 rfl, Ko.out.cell 1 rfl, Ko.out.cell 2 rfl, Ka.out.cell 0 rfl, Ka.out.cell 1 rfl, Ka.out.cell 2 rfl, Kb.out.cell 0 rfl, Kb.out.cell 1 rfl, Kb.out.cell 2 rfl⟩ (fun hHeld => ?_)
            clear hK K
            refine norm_ (a' := ?_) ?_ ?_
            rotate_left
            ·
             (try show Act.put _ (some 60) _ = _)
             first | rfl | (simp only [Act.put, List.setIfInBounds_toArray, List.set_cons_zero, List.set_cons_succ, i64_w, i32_w]; rfl)
            refine pure_ (i := 11) (N := some 49) (v := ?_) (a' := ?_) X20 rfl rfl (any_of HT_.out (by kernel_rfl)) (fun _ _ _ h => h) (Or.inl ⟨by rfl, ?_⟩) ?_ ?_
            rotate_left
            ·
             intro w'
             go_simp
             with_reducible rfl
            rotate_left
            ·
             simp only [Act.put, List.setIfInBounds_toArray, List.set_cons_zero, List.set_cons_succ, i64_w, i32_w]
             rfl
            refine pure_ (i := 12) (N := some 61) (v := ?_) (a' := ?_) X21 rfl rfl (any_of HT_.out (by kernel_rfl)) (fun _ _ _ h => h) (Or.inl ⟨by rfl, ?_⟩) ?_ ?_
            rotate_left
            ·
             intro w'
             go_simp
             with_reducible rfl
            rotate_left
            ·
             simp only [Act.put, List.setIfInBounds_toArray, List.set_cons_zero, List.set_cons_succ, i64_w, i32_w]
             rfl
            refine pure_ (i := 13) (N := some 62) (v := ?_) (a' := ?_) X16 rfl rfl (any_of HT_.out (by kernel_rfl)) (fun _ _ _ h => h) (Or.inl ⟨by rfl, ?_⟩) ?_ ?_
            rotate_left
            ·
             intro w'
             go_simp
             with_reducible rfl
            rotate_left
            ·
             simp only [Act.put, List.setIfInBounds_toArray, List.set_cons_zero, List.set_cons_succ, i64_w, i32_w]
             rfl
            refine one_ (i := 15) (N := none) X17 rfl rfl (one_of HT_.out (by kernel_rfl)) (by decide) (fun K hK => ?_)
            have z_0 := Kx.out.cell 0 rfl; have y_0 := Kx.out.frozen 0
            have z_1 := Kx.out.cell 1 rfl; have y_1 := Kx.out.frozen 1
            have z_2 := Kx.out.cell 2 rfl; have y_2 := Kx.out.frozen 2
            go_simp
            clear z_0 y_0 z_1 y_1 z_2 y_2
            have k_n := (((Kn.out.far (g2 := w4.heap.size) (i := 0) (by omega) (.int .i64 (A1 + 1))).far (g2 := w4.heap.size) (i := 1) (by omega) (.int .i64 l)).far (g2 := w4.heap.size) (i := 2) (by omega) (.int .i64 (A1 + 1)))
            have k_o := (((Ko.out.far (g2 := w4.heap.size) (i := 0) (by omega) (.int .i64 (A1 + 1))).far (g2 := w4.heap.size) (i := 1) (by omega) (.int .i64 l)).far (g2 := w4.heap.size) (i := 2) (by omega) (.int .i64 (A1 + 1)))
            have k_a := (((Ka.out.far (g2 := w4.heap.size) (i := 0) (by omega) (.int .i64 (A1 + 1))).far (g2 := w4.heap.size) (i := 1) (by omega) (.int .i64 l)).far (g2 := w4.heap.size) (i := 2) (by omega) (.int .i64 (A1 + 1)))
            have k_b := (((Kb.out.far (g2 := w4.heap.size) (i := 0) (by omega) (.int .i64 (A1 + 1))).far (g2 := w4.heap.size) (i := 1) (by omega) (.int .i64 l)).far (g2 := w4.heap.size) (i := 2) (by omega) (.int .i64 (A1 + 1)))
            have k_x := (((Kx.out.put 0 (.int .i64 (A1 + 1)) rfl).put 1 (.int .i64 l) rfl).put 2 (.int .i64 (A1 + 1)) rfl)
            have h_ := below_set (below_set (below_set (HB.out) (j := 0) (v := .int .i64 (A1 + 1)) (g := w4.heap.size) (by omega)) (j := 1) (v := .int .i64 l) (g := w4.heap.size) (by omega)) (j := 2) (v := .int .i64 (A1 + 1)) (g := w4.heap.size) (by omega)
            refine hK.out _ _ ⟨k_n.cell 0 rfl, k_n.cell 1 rfl, k_n.cell 2 rfl, k_n.cell 3 rfl, k_n.cell 4 rfl, k_n.cell 5 rfl, k_o.cell 0 rfl, k_o.cell 1 rfl, k_o.cell 2 rfl, k_a.cell 0 rfl, k_a.cell 1 rfl, k_a.cell 2 rfl, k_b.cell 0 rfl, k_b.cell 1 rfl, k_b.cell 2 rfl⟩ (fun hHeld => ?_)
            clear hK K
            clear HB Kn Ko Ka Kb Kx
            generalize (((w6).setCell ⟨w4.heap.size, 0, none⟩ (.int .i64 (A1 + 1))).setCell ⟨w4.heap.size, 1, none⟩ (.int .i64 l)).setCell ⟨w4.heap.size, 2, none⟩ (.int .i64 (A1 + 1)) = w7 at k_n k_o k_a k_b k_x h_ hHeld ⊢
            have HB := Asd.mk h_; clear h_; have Kn := Asd.mk k_n; clear k_n; have Ko := Asd.mk k_o; clear k_o; have Ka := Asd.mk k_a; clear k_a; have Kb := Asd.mk k_b; clear k_b; have Kx := Asd.mk k_x; clear k_x
            refine pure_ (i := 16) (N := some 10) (v := ?_) (a' := ?_) X18 rfl rfl (any_of HT_.out (by kernel_rfl)) (fun _ _ _ h => h) (Or.inl ⟨by rfl, ?_⟩) ?_ ?_
            rotate_left
            ·
             intro w'
             go_simp
             with_reducible rfl
            rotate_left
            ·
             simp only [Act.put, List.setIfInBounds_toArray, List.set_cons_zero, List.set_cons_succ, i64_w, i32_w]
             rfl
            refine done_ (done_of HT_.out (by kernel_rfl)) ?_
            have Z : w.heap.size ≤ w7.heap.size := HB.out.size
            have Ln := Kn.out.lt; have cn0 := Kn.out.cell 0 rfl; have fn0 := Kn.out.frozen 0; have cn1 := Kn.out.cell 1 rfl; have fn1 := Kn.out.frozen 1; have cn2 := Kn.out.cell 2 rfl; have fn2 := Kn.out.frozen 2; have cn3 := Kn.out.cell 3 rfl; have fn3 := Kn.out.frozen 3; have cn4 := Kn.out.cell 4 rfl; have fn4 := Kn.out.frozen 4; have cn5 := Kn.out.cell 5 rfl; have fn5 := Kn.out.frozen 5
            have Lo := Ko.out.lt; have co0 := Ko.out.cell 0 rfl; have fo0 := Ko.out.frozen 0; have co1 := Ko.out.cell 1 rfl; have fo1 := Ko.out.frozen 1; have co2 := Ko.out.cell 2 rfl; have fo2 := Ko.out.frozen 2
            have La := Ka.out.lt; have ca0 := Ka.out.cell 0 rfl; have fa0 := Ka.out.frozen 0; have ca1 := Ka.out.cell 1 rfl; have fa1 := Ka.out.frozen 1; have ca2 := Ka.out.cell 2 rfl; have fa2 := Ka.out.frozen 2
            have Lb := Kb.out.lt; have cb0 := Kb.out.cell 0 rfl; have fb0 := Kb.out.frozen 0; have cb1 := Kb.out.cell 1 rfl; have fb1 := Kb.out.frozen 1; have cb2 := Kb.out.cell 2 rfl; have fb2 := Kb.out.frozen 2
            have Lx := Kx.out.lt; have cx0 := Kx.out.cell 0 rfl; have fx0 := Kx.out.frozen 0; have cx1 := Kx.out.cell 1 rfl; have fx1 := Kx.out.frozen 1; have cx2 := Kx.out.cell 2 rfl; have fx2 := Kx.out.frozen 2
            go_wp2
            go_meet
            case rel => exact ⟨A0, B0, P0, (A1 + 1), l, (A1 + 1), mid_promote1 R3.out h3.out (by omega) (by omega), (fun h_ => absurd h_ (by decide)), (fun _ => ⟨by omega, (by repeat (first | exact Ka.out | refine Blk.far ?_ (by omega) _))⟩), ((Kn.out.put 3 _ rfl).put 4 _ rfl).put 5 _ rfl, below_set (below_set (below_set HB.out (by omega)) (by omega)) (by omega)⟩
         ·
          obtain ⟨r0, hr0⟩ : ∃ r0, pOK A1 B1 P1 1 l = r0 := ⟨_, rfl⟩
          as_aux_lemma =>
           have hrr : (r0 == 0) = false := beq_eq_false_iff_ne.2 (by rw [← hr0]; exact hp)
           obtain ⟨r1, h1_⟩ : ∃ r, pE A1 B1 P1 1 l = r := ⟨_, rfl⟩; obtain ⟨r2, h2_⟩ : ∃ r, pB A1 B1 P1 1 l = r := ⟨_, rfl⟩
           have h1 := Asd.mk h1_; have h2 := Asd.mk h2_; have h3 := Asd.mk hr0; clear h1_ h2_ hr0 hp
           go_wp2_with fail
           have k_n := Kn.out.drew
           have k_o := Ko.out.drew
           have k_a := Ka.out.drew
           have k_b := Kb.out.drew
           have h_ := below_drew HB.out
           refine start_ (n := 17) (S := fun w' => w'.cell? ⟨w1.heap.size, 0, none⟩ = some (.int .i64 A0) ∧ w'.cell? ⟨w1.heap.size, 1, none⟩ = some (.int .i64 B0) ∧ w'.cell? ⟨w1.heap.size, 2, none⟩ = some (.int .i64 P0) ∧ w'.cell? ⟨w1.heap.size, 3, none⟩ = some (.int .i64 A1) ∧ w'.cell? ⟨w1.heap.size, 4, none⟩ = some (.int .i64 B1) ∧ w'.cell? ⟨w1.heap.size, 5, none⟩ = some (.int .i64 P1) ∧ w'.cell? ⟨wr.heap.size, 0, none⟩ = some (.int .i64 v0) ∧ w'.cell? ⟨wr.heap.size, 1, none⟩ = some (.int .i64 v1) ∧ w'.cell? ⟨wr.heap.size, 2, none⟩ = some (.int .i64 v2) ∧ w'.cell? ⟨wr.heap.size + 1, 0, none⟩ = some (.int .i64 A1) ∧ w'.cell? ⟨wr.heap.size + 1, 1, none⟩ = some (.int .i64 B1) ∧ w'.cell? ⟨wr.heap.size + 1, 2, none⟩ = some (.int .i64 P1) ∧ w'.cell? ⟨wr.heap.size + 1 + 1, 0, none⟩ = some (.int .i64 A0) ∧ w'.cell? ⟨wr.heap.size + 1 + 1, 1, none⟩ = some (.int .i64 B0) ∧ w'.cell? ⟨wr.heap.size + 1 + 1, 2, none⟩ = some (.int .i64 P0)) (ds := []) X0 (by kernel_rfl) rfl rfl ⟨k_n.cell 0 rfl, k_n.cell 1 rfl, k_n.cell 2 rfl, k_n.cell 3 rfl, k_n.cell 4 rfl, k_n.cell 5 rfl, k_o.cell 0 rfl, k_o.cell 1 rfl, k_o.cell 2 rfl, k_a.cell 0 rfl, k_a.cell 1 rfl, k_a.cell 2 rfl, k_b.cell 0 rfl, k_b.cell 1 rfl, k_b.cell 2 rfl⟩ (fun hHeld => ?_); refine with_tabW one13tab one13bits (fun HT_ HW_ => ?_)
           clear HB Kn Ko Ka Kb
           generalize w3.drew = w4 at k_n k_o k_a k_b h_ hHeld ⊢
           have HB := Asd.mk h_; clear h_; have Kn := Asd.mk k_n; clear k_n; have Ko := Asd.mk k_o; clear k_o; have Ka := Asd.mk k_a; clear k_a; have Kb := Asd.mk k_b; clear k_b
           clear Ln Lo La Lb cn0 fn0 cn1 fn1 cn2 fn2 cn3 fn3 cn4 fn4 cn5 fn5 co0 fo0 co1 fo1 co2 fo2 ca0 fa0 ca1 fa1 ca2 fa2 cb0 fb0 cb1 fb1 cb2 fb2
           refine pure_ (i := 0) (N := some 50) (v := ?_) (a' := ?_) X1 rfl rfl (any_of HT_.out (by kernel_rfl)) (fun _ _ _ h => h) (Or.inl ⟨by rfl, ?_⟩) ?_ ?_
           rotate_left
           ·
            intro w'
            go_simp
            with_reducible rfl
           rotate_left
           ·
            simp only [Act.put, List.setIfInBounds_toArray, List.set_cons_zero, List.set_cons_succ, i64_w, i32_w]
            rfl
           refine pure_ (i := 1) (N := some 51) (v := ?_) (a' := ?_) X2 rfl rfl (any_of HT_.out (by kernel_rfl)) (fun _ _ _ h => h) (Or.inl ⟨by rfl, ?_⟩) ?_ ?_
           rotate_left
           ·
            intro w'
            go_simp
            with_reducible rfl
           rotate_left
           ·
            simp only [Act.put, List.setIfInBounds_toArray, List.set_cons_zero, List.set_cons_succ, i64_w, i32_w]
            rfl
           refine pure_ (i := 2) (N := some 52) (v := ?_) (a' := ?_) X3 rfl rfl (any_of HT_.out (by kernel_rfl)) (fun _ _ _ h => h) (Or.inl ⟨by rfl, ?_⟩) ?_ ?_
           rotate_left
           ·
            intro w'
            go_simp
            with_reducible rfl
           rotate_left
           ·
            simp only [Act.put, List.setIfInBounds_toArray, List.set_cons_zero, List.set_cons_succ, i64_w, i32_w]
            rfl
           refine pure_ (i := 4) (N := some 54) (v := ?_) (a' := ?_) X4 rfl rfl (any_of HT_.out (by kernel_rfl)) (fun _ _ _ h => h) (Or.inl ⟨by rfl, ?_⟩) ?_ ?_
           rotate_left
           ·
            intro w'
            go_simp
            with_reducible rfl
           rotate_left
           ·
            simp only [Act.put, List.setIfInBounds_toArray, List.set_cons_zero, List.set_cons_succ, i64_w, i32_w]
            rfl
           refine pure_ (i := 5) (N := some 55) (v := ?_) (a' := ?_) X5 rfl rfl (any_of HT_.out (by kernel_rfl)) (fun _ _ _ h => h) (Or.inl ⟨by rfl, ?_⟩) ?_ ?_
           rotate_left
           ·
            intro w'
            go_simp
            with_reducible rfl
           rotate_left
           ·
            simp only [Act.put, List.setIfInBounds_toArray, List.set_cons_zero, List.set_cons_succ, i64_w, i32_w]
            rfl
           refine take_ (i := 3) (N := some 53) (v := ?_) (a' := ?_) X6 rfl rfl (take_ofW HT_.out HW_.out (by kernel_rfl)) (fun _ _ _ h => h) (Or.inl ⟨by rfl, ?_⟩) hHeld ?_ ?_
           rotate_left
           ·
            rintro w' ⟨s0, s1, s2, s3, s4, s5, s6, s7, s8, s9, s10, s11, s12, s13, s14⟩
            go_simp
            with_reducible rfl
           rotate_left
           ·
            simp only [Act.put, List.setIfInBounds_toArray, List.set_cons_zero, List.set_cons_succ, i64_w, i32_w]
            rfl
           refine take_ (i := 6) (N := some 56) (v := ?_) (a' := ?_) X7 rfl rfl (take_ofW HT_.out HW_.out (by kernel_rfl)) (fun _ _ _ h => h) (Or.inl ⟨by rfl, ?_⟩) hHeld ?_ ?_
           rotate_left
           ·
            rintro w' ⟨s0, s1, s2, s3, s4, s5, s6, s7, s8, s9, s10, s11, s12, s13, s14⟩
            go_simp
            with_reducible rfl
           rotate_left
           ·
            simp only [Act.put, List.setIfInBounds_toArray, List.set_cons_zero, List.set_cons_succ, i64_w, i32_w]
            rfl
           refine pure_ (i := 7) (N := some 57) (v := ?_) (a' := ?_) X8 rfl rfl (any_of HT_.out (by kernel_rfl)) (fun _ _ _ h => h) (Or.inl ⟨by rfl, ?_⟩) ?_ ?_
           rotate_left
           ·
            intro w'
            go_simp
            with_reducible rfl
           rotate_left
           ·
            simp only [Act.put, List.setIfInBounds_toArray, List.set_cons_zero, List.set_cons_succ, i64_w, i32_w]
            rfl
           refine pure_ (i := 8) (N := some 58) (v := ?_) (a' := ?_) X9 rfl rfl (any_of HT_.out (by kernel_rfl)) (fun _ _ _ h => h) (Or.inl ⟨by rfl, ?_⟩) ?_ ?_
           rotate_left
           ·
            intro w'
            go_simp
            with_reducible rfl
           rotate_left
           ·
            simp only [Act.put, List.setIfInBounds_toArray, List.set_cons_zero, List.set_cons_succ, i64_w, i32_w]
            rfl
           refine pure_ (i := 9) (N := some 59) (v := ?_) (a' := ?_) X10 rfl rfl (any_of HT_.out (by kernel_rfl)) (fun _ _ _ h => h) (Or.inl ⟨by rfl, ?_⟩) ?_ ?_
           rotate_left
           ·
            intro w'
            go_simp
            with_reducible rfl
           rotate_left
           ·
            simp only [Act.put, List.setIfInBounds_toArray, List.set_cons_zero, List.set_cons_succ, i64_w, i32_w]
            rfl
           refine two_ (i := 10) (j := 14) (Ni := some 60) (Nj := some 9) X11 X12 rfl rfl rfl rfl (two_of HT_.out (by kernel_rfl)) (by decide) (by decide) (fun K hK => ?_) (fun K hK => ?_)
           ·
            skip
            refine goes_ Try.func9 (by kernel_rfl) rfl #[.agg #[.int .i64 A1, .int .i64 B1, .int .i64 P1], .int .i64 1, .int .i64 l] (by rfl) rfl rfl (by (try simp only [List.map_toArray, List.map_cons, List.map_nil]); first | done | rfl | (simp only [List.length_drop, List.length_take]; rfl)) ?_
            with_reducible refine (promote_at (e := A1) (b := B1) (p := P1) (n := 1) (l := l) (r1 := r1) (r2 := r2) (r4 := r0) h1.out h2.out h3.out _).mono ?_
            rintro en w5 ⟨rfl, hb5⟩
            refine ⟨_, rfl, ?_⟩
            have k_n := Kn.out.below hb5
            have k_o := Ko.out.below hb5
            have k_a := Ka.out.below hb5
            have k_b := Kb.out.below hb5
            have h_ := below_step HB.out hb5
            clear HB hb5 Kn Ko Ka Kb; have HB := Asd.mk h_; clear h_; have Kn := Asd.mk k_n; clear k_n; have Ko := Asd.mk k_o; clear k_o; have Ka := Asd.mk k_a; clear k_a; have Kb := Asd.mk k_b; clear k_b
            refine hK.out _ _ ⟨Kn.out.cell 0 rfl, Kn.out.cell 1 rfl, Kn.out.cell 2 rfl, Kn.out.cell 3 rfl, Kn.out.cell 4 rfl, Kn.out.cell 5 rfl, Ko.out.cell 0 rfl, Ko.out.cell 1 rfl, Ko.out.cell 2 rfl, Ka.out.cell 0 rfl, Ka.out.cell 1 rfl, Ka.out.cell 2 rfl, Kb.out.cell 0 rfl, Kb.out.cell 1 rfl, Kb.out.cell 2 rfl⟩ (fun hHeld => ?_)
            clear hK K
            refine norm_ (a' := ?_) ?_ ?_
            rotate_left
            ·
             (try show Act.put _ (some 60) _ = _)
             first | rfl | (simp only [Act.put, List.setIfInBounds_toArray, List.set_cons_zero, List.set_cons_succ, i64_w, i32_w]; rfl)
            refine pure_ (i := 11) (N := some 49) (v := ?_) (a' := ?_) X13 rfl rfl (any_of HT_.out (by kernel_rfl)) (fun _ _ _ h => h) (Or.inl ⟨by rfl, ?_⟩) ?_ ?_
            rotate_left
            ·
             intro w'
             go_simp
             with_reducible rfl
            rotate_left
            ·
             simp only [Act.put, List.setIfInBounds_toArray, List.set_cons_zero, List.set_cons_succ, i64_w, i32_w]
             rfl
            refine pure_ (i := 12) (N := some 61) (v := ?_) (a' := ?_) X14 rfl rfl (any_of HT_.out (by kernel_rfl)) (fun _ _ _ h => h) (Or.inl ⟨by rfl, ?_⟩) ?_ ?_
            rotate_left
            ·
             intro w'
             go_simp
             with_reducible rfl
            rotate_left
            ·
             simp only [Act.put, List.setIfInBounds_toArray, List.set_cons_zero, List.set_cons_succ, i64_w, i32_w]
             rfl
            refine pure_ (i := 13) (N := some 62) (v := ?_) (a' := ?_) X15 rfl rfl (any_of HT_.out (by kernel_rfl)) (fun _ _ _ h => h) (Or.inl ⟨by rfl, ?_⟩) ?_ ?_
            rotate_left
            ·
             intro w'
             go_simp
             with_reducible rfl
            rotate_left
            ·
             simp only [Act.put, List.setIfInBounds_toArray, List.set_cons_zero, List.set_cons_succ, i64_w, i32_w]
             rfl
            refine one_ (i := 14) (N := some 9) X16 rfl rfl (one_of HT_.out (by kernel_rfl)) (by decide) (fun K hK => ?_)
            go_simp
            have k_n := Kn.out.alloc (.cells #[.int .i64 0, .int .i64 0, .int .i64 0] 27 (0, 0)); have Dnx : w1.heap.size < w5.heap.size := Kn.out.lt
            have k_o := Ko.out.alloc (.cells #[.int .i64 0, .int .i64 0, .int .i64 0] 27 (0, 0)); have Dox : wr.heap.size < w5.heap.size := Ko.out.lt
            have k_a := Ka.out.alloc (.cells #[.int .i64 0, .int .i64 0, .int .i64 0] 27 (0, 0)); have Dax : wr.heap.size + 1 < w5.heap.size := Ka.out.lt
            have k_b := Kb.out.alloc (.cells #[.int .i64 0, .int .i64 0, .int .i64 0] 27 (0, 0)); have Dbx : wr.heap.size + 1 + 1 < w5.heap.size := Kb.out.lt
            have k_x := Blk.new w5 #[.int .i64 0, .int .i64 0, .int .i64 0] 27
            have h_ := below_alloc HB.out (.cells #[.int .i64 0, .int .i64 0, .int .i64 0] 27 (0, 0)); have Gx : w.heap.size ≤ w5.heap.size := HB.out.size
            refine hK.out _ _ ⟨k_n.cell 0 rfl, k_n.cell 1 rfl, k_n.cell 2 rfl, k_n.cell 3 rfl, k_n.cell 4 rfl, k_n.cell 5 rfl, k_o.cell 0 rfl, k_o.cell 1 rfl, k_o.cell 2 rfl, k_a.cell 0 rfl, k_a.cell 1 rfl, k_a.cell 2 rfl, k_b.cell 0 rfl, k_b.cell 1 rfl, k_b.cell 2 rfl⟩ (fun hHeld => ?_)
            clear hK K
            clear HB Kn Ko Ka Kb
            generalize w5.alloc (.cells #[.int .i64 0, .int .i64 0, .int .i64 0] 27 (0, 0)) = w6 at k_n k_o k_a k_b k_x h_ hHeld ⊢
            have HB := Asd.mk h_; clear h_; have Kn := Asd.mk k_n; clear k_n; have Ko := Asd.mk k_o; clear k_o; have Ka := Asd.mk k_a; clear k_a; have Kb := Asd.mk k_b; clear k_b; have Kx := Asd.mk k_x; clear k_x
            refine norm_ (a' := ?_) ?_ ?_
            rotate_left
            ·
             (try show Act.put _ (some 9) _ = _)
             first | rfl | (simp only [Act.put, List.setIfInBounds_toArray, List.set_cons_zero, List.set_cons_succ, i64_w, i32_w]; rfl)
            refine one_ (i := 15) (N := none) X17 rfl rfl (one_of HT_.out (by kernel_rfl)) (by decide) (fun K hK => ?_)
            have z_0 := Kx.out.cell 0 rfl; have y_0 := Kx.out.frozen 0
            have z_1 := Kx.out.cell 1 rfl; have y_1 := Kx.out.frozen 1
            have z_2 := Kx.out.cell 2 rfl; have y_2 := Kx.out.frozen 2
            go_simp
            clear z_0 y_0 z_1 y_1 z_2 y_2
            have k_n := (((Kn.out.far (g2 := w5.heap.size) (i := 0) (by omega) (.int .i64 r1)).far (g2 := w5.heap.size) (i := 1) (by omega) (.int .i64 r2)).far (g2 := w5.heap.size) (i := 2) (by omega) (.int .i64 r1))
            have k_o := (((Ko.out.far (g2 := w5.heap.size) (i := 0) (by omega) (.int .i64 r1)).far (g2 := w5.heap.size) (i := 1) (by omega) (.int .i64 r2)).far (g2 := w5.heap.size) (i := 2) (by omega) (.int .i64 r1))
            have k_a := (((Ka.out.far (g2 := w5.heap.size) (i := 0) (by omega) (.int .i64 r1)).far (g2 := w5.heap.size) (i := 1) (by omega) (.int .i64 r2)).far (g2 := w5.heap.size) (i := 2) (by omega) (.int .i64 r1))
            have k_b := (((Kb.out.far (g2 := w5.heap.size) (i := 0) (by omega) (.int .i64 r1)).far (g2 := w5.heap.size) (i := 1) (by omega) (.int .i64 r2)).far (g2 := w5.heap.size) (i := 2) (by omega) (.int .i64 r1))
            have k_x := (((Kx.out.put 0 (.int .i64 r1) rfl).put 1 (.int .i64 r2) rfl).put 2 (.int .i64 r1) rfl)
            have h_ := below_set (below_set (below_set (HB.out) (j := 0) (v := .int .i64 r1) (g := w5.heap.size) (by omega)) (j := 1) (v := .int .i64 r2) (g := w5.heap.size) (by omega)) (j := 2) (v := .int .i64 r1) (g := w5.heap.size) (by omega)
            refine hK.out _ _ ⟨k_n.cell 0 rfl, k_n.cell 1 rfl, k_n.cell 2 rfl, k_n.cell 3 rfl, k_n.cell 4 rfl, k_n.cell 5 rfl, k_o.cell 0 rfl, k_o.cell 1 rfl, k_o.cell 2 rfl, k_a.cell 0 rfl, k_a.cell 1 rfl, k_a.cell 2 rfl, k_b.cell 0 rfl, k_b.cell 1 rfl, k_b.cell 2 rfl⟩ (fun hHeld => ?_)
            clear hK K
            clear HB Kn Ko Ka Kb Kx
            generalize (((w6).setCell ⟨w5.heap.size, 0, none⟩ (.int .i64 r1)).setCell ⟨w5.heap.size, 1, none⟩ (.int .i64 r2)).setCell ⟨w5.heap.size, 2, none⟩ (.int .i64 r1) = w7 at k_n k_o k_a k_b k_x h_ hHeld ⊢
            have HB := Asd.mk h_; clear h_; have Kn := Asd.mk k_n; clear k_n; have Ko := Asd.mk k_o; clear k_o; have Ka := Asd.mk k_a; clear k_a; have Kb := Asd.mk k_b; clear k_b; have Kx := Asd.mk k_x; clear k_x
            refine pure_ (i := 16) (N := some 10) (v := ?_) (a' := ?_) X18 rfl rfl (any_of HT_.out (by kernel_rfl)) (fun _ _ _ h => h) (Or.inl ⟨by rfl, ?_⟩) ?_ ?_
            rotate_left
            ·
             intro w'
             go_simp
             with_reducible rfl
            rotate_left
            ·
             simp only [Act.put, List.setIfInBounds_toArray, List.set_cons_zero, List.set_cons_succ, i64_w, i32_w]
             rfl
            refine done_ (done_of HT_.out (by kernel_rfl)) ?_
            have Z : w.heap.size ≤ w7.heap.size := HB.out.size
            have Ln := Kn.out.lt; have cn0 := Kn.out.cell 0 rfl; have fn0 := Kn.out.frozen 0; have cn1 := Kn.out.cell 1 rfl; have fn1 := Kn.out.frozen 1; have cn2 := Kn.out.cell 2 rfl; have fn2 := Kn.out.frozen 2; have cn3 := Kn.out.cell 3 rfl; have fn3 := Kn.out.frozen 3; have cn4 := Kn.out.cell 4 rfl; have fn4 := Kn.out.frozen 4; have cn5 := Kn.out.cell 5 rfl; have fn5 := Kn.out.frozen 5
            have Lo := Ko.out.lt; have co0 := Ko.out.cell 0 rfl; have fo0 := Ko.out.frozen 0; have co1 := Ko.out.cell 1 rfl; have fo1 := Ko.out.frozen 1; have co2 := Ko.out.cell 2 rfl; have fo2 := Ko.out.frozen 2
            have La := Ka.out.lt; have ca0 := Ka.out.cell 0 rfl; have fa0 := Ka.out.frozen 0; have ca1 := Ka.out.cell 1 rfl; have fa1 := Ka.out.frozen 1; have ca2 := Ka.out.cell 2 rfl; have fa2 := Ka.out.frozen 2
            have Lb := Kb.out.lt; have cb0 := Kb.out.cell 0 rfl; have fb0 := Kb.out.frozen 0; have cb1 := Kb.out.cell 1 rfl; have fb1 := Kb.out.frozen 1; have cb2 := Kb.out.cell 2 rfl; have fb2 := Kb.out.frozen 2
            have Lx := Kx.out.lt; have cx0 := Kx.out.cell 0 rfl; have fx0 := Kx.out.frozen 0; have cx1 := Kx.out.cell 1 rfl; have fx1 := Kx.out.frozen 1; have cx2 := Kx.out.cell 2 rfl; have fx2 := Kx.out.frozen 2
            go_wp2
            go_meet
            case rel => exact ⟨A0, B0, P0, A1, B1, P1, mid_same R3.out, (fun h_ => absurd h_ (by decide)), (fun _ => ⟨by omega, Ka.out⟩), Kn.out, HB.out⟩
           ·
            skip
            go_simp
            have k_n := Kn.out.alloc (.cells #[.int .i64 0, .int .i64 0, .int .i64 0] 27 (0, 0)); have Dnx : w1.heap.size < w4.heap.size := Kn.out.lt
            have k_o := Ko.out.alloc (.cells #[.int .i64 0, .int .i64 0, .int .i64 0] 27 (0, 0)); have Dox : wr.heap.size < w4.heap.size := Ko.out.lt
            have k_a := Ka.out.alloc (.cells #[.int .i64 0, .int .i64 0, .int .i64 0] 27 (0, 0)); have Dax : wr.heap.size + 1 < w4.heap.size := Ka.out.lt
            have k_b := Kb.out.alloc (.cells #[.int .i64 0, .int .i64 0, .int .i64 0] 27 (0, 0)); have Dbx : wr.heap.size + 1 + 1 < w4.heap.size := Kb.out.lt
            have k_x := Blk.new w4 #[.int .i64 0, .int .i64 0, .int .i64 0] 27
            have h_ := below_alloc HB.out (.cells #[.int .i64 0, .int .i64 0, .int .i64 0] 27 (0, 0)); have Gx : w.heap.size ≤ w4.heap.size := HB.out.size
            refine hK.out _ _ ⟨k_n.cell 0 rfl, k_n.cell 1 rfl, k_n.cell 2 rfl, k_n.cell 3 rfl, k_n.cell 4 rfl, k_n.cell 5 rfl, k_o.cell 0 rfl, k_o.cell 1 rfl, k_o.cell 2 rfl, k_a.cell 0 rfl, k_a.cell 1 rfl, k_a.cell 2 rfl, k_b.cell 0 rfl, k_b.cell 1 rfl, k_b.cell 2 rfl⟩ (fun hHeld => ?_)
            clear hK K
            clear HB Kn Ko Ka Kb
            generalize w4.alloc (.cells #[.int .i64 0, .int .i64 0, .int .i64 0] 27 (0, 0)) = w5 at k_n k_o k_a k_b k_x h_ hHeld ⊢
            have HB := Asd.mk h_; clear h_; have Kn := Asd.mk k_n; clear k_n; have Ko := Asd.mk k_o; clear k_o; have Ka := Asd.mk k_a; clear k_a; have Kb := Asd.mk k_b; clear k_b; have Kx := Asd.mk k_x; clear k_x
            refine norm_ (a' := ?_) ?_ ?_
            rotate_left
            ·
             (try show Act.put _ (some 9) _ = _)
             first | rfl | (simp only [Act.put, List.setIfInBounds_toArray, List.set_cons_zero, List.set_cons_succ, i64_w, i32_w]; rfl)
            refine one_ (i := 10) (N := some 60) X19 rfl rfl (one_of HT_.out (by kernel_rfl)) (by decide) (fun K hK => ?_)
            refine goes_ Try.func9 (by kernel_rfl) rfl #[.agg #[.int .i64 A1, .int .i64 B1, .int .i64 P1], .int .i64 1, .int .i64 l] (by rfl) rfl rfl (by (try simp only [List.map_toArray, List.map_cons, List.map_nil]); first | done | rfl | (simp only [List.length_drop, List.length_take]; rfl)) ?_
            with_reducible refine (promote_at (e := A1) (b := B1) (p := P1) (n := 1) (l := l) (r1 := r1) (r2 := r2) (r4 := r0) h1.out h2.out h3.out _).mono ?_
            rintro en w6 ⟨rfl, hb6⟩
            refine ⟨_, rfl, ?_⟩
            have k_n := Kn.out.below hb6
            have k_o := Ko.out.below hb6
            have k_a := Ka.out.below hb6
            have k_b := Kb.out.below hb6
            have k_x := Kx.out.below hb6
            have h_ := below_step HB.out hb6
            clear HB hb6 Kn Ko Ka Kb Kx; have HB := Asd.mk h_; clear h_; have Kn := Asd.mk k_n; clear k_n; have Ko := Asd.mk k_o; clear k_o; have Ka := Asd.mk k_a; clear k_a; have Kb := Asd.mk k_b; clear k_b; have Kx := Asd.mk k_x; clear k_x
            refine hK.out _ _ ⟨Kn.out.cell 0 rfl, Kn.out.cell 1 rfl, Kn.out.cell 2 rfl, Kn.out.cell 3 rfl, Kn.out.cell 4 rfl, Kn.out.cell 5 rfl, Ko.out.cell 0 rfl, Ko.out.cell 1 rfl, Ko.out.cell 2 rfl, Ka.out.cell 0 rfl, Ka.out.cell 1 rfl, Ka.out.cell 2 rfl, Kb.out.cell 0 rfl, Kb.out.cell 1 rfl, Kb.out.cell 2 rfl⟩ (fun hHeld => ?_)
            clear hK K
            refine norm_ (a' := ?_) ?_ ?_
            rotate_left
            ·
             (try show Act.put _ (some 60) _ = _)
             first | rfl | (simp only [Act.put, List.setIfInBounds_toArray, List.set_cons_zero, List.set_cons_succ, i64_w, i32_w]; rfl)
            refine pure_ (i := 11) (N := some 49) (v := ?_) (a' := ?_) X20 rfl rfl (any_of HT_.out (by kernel_rfl)) (fun _ _ _ h => h) (Or.inl ⟨by rfl, ?_⟩) ?_ ?_
            rotate_left
            ·
             intro w'
             go_simp
             with_reducible rfl
            rotate_left
            ·
             simp only [Act.put, List.setIfInBounds_toArray, List.set_cons_zero, List.set_cons_succ, i64_w, i32_w]
             rfl
            refine pure_ (i := 12) (N := some 61) (v := ?_) (a' := ?_) X21 rfl rfl (any_of HT_.out (by kernel_rfl)) (fun _ _ _ h => h) (Or.inl ⟨by rfl, ?_⟩) ?_ ?_
            rotate_left
            ·
             intro w'
             go_simp
             with_reducible rfl
            rotate_left
            ·
             simp only [Act.put, List.setIfInBounds_toArray, List.set_cons_zero, List.set_cons_succ, i64_w, i32_w]
             rfl
            refine pure_ (i := 13) (N := some 62) (v := ?_) (a' := ?_) X16 rfl rfl (any_of HT_.out (by kernel_rfl)) (fun _ _ _ h => h) (Or.inl ⟨by rfl, ?_⟩) ?_ ?_
            rotate_left
            ·
             intro w'
             go_simp
             with_reducible rfl
            rotate_left
            ·
             simp only [Act.put, List.setIfInBounds_toArray, List.set_cons_zero, List.set_cons_succ, i64_w, i32_w]
             rfl
            refine one_ (i := 15) (N := none) X17 rfl rfl (one_of HT_.out (by kernel_rfl)) (by decide) (fun K hK => ?_)
            have z_0 := Kx.out.cell 0 rfl; have y_0 := Kx.out.frozen 0
            have z_1 := Kx.out.cell 1 rfl; have y_1 := Kx.out.frozen 1
            have z_2 := Kx.out.cell 2 rfl; have y_2 := Kx.out.frozen 2
            go_simp
            clear z_0 y_0 z_1 y_1 z_2 y_2
            have k_n := (((Kn.out.far (g2 := w4.heap.size) (i := 0) (by omega) (.int .i64 r1)).far (g2 := w4.heap.size) (i := 1) (by omega) (.int .i64 r2)).far (g2 := w4.heap.size) (i := 2) (by omega) (.int .i64 r1))
            have k_o := (((Ko.out.far (g2 := w4.heap.size) (i := 0) (by omega) (.int .i64 r1)).far (g2 := w4.heap.size) (i := 1) (by omega) (.int .i64 r2)).far (g2 := w4.heap.size) (i := 2) (by omega) (.int .i64 r1))
            have k_a := (((Ka.out.far (g2 := w4.heap.size) (i := 0) (by omega) (.int .i64 r1)).far (g2 := w4.heap.size) (i := 1) (by omega) (.int .i64 r2)).far (g2 := w4.heap.size) (i := 2) (by omega) (.int .i64 r1))
            have k_b := (((Kb.out.far (g2 := w4.heap.size) (i := 0) (by omega) (.int .i64 r1)).far (g2 := w4.heap.size) (i := 1) (by omega) (.int .i64 r2)).far (g2 := w4.heap.size) (i := 2) (by omega) (.int .i64 r1))
            have k_x := (((Kx.out.put 0 (.int .i64 r1) rfl).put 1 (.int .i64 r2) rfl).put 2 (.int .i64 r1) rfl)
            have h_ := below_set (below_set (below_set (HB.out) (j := 0) (v := .int .i64 r1) (g := w4.heap.size) (by omega)) (j := 1) (v := .int .i64 r2) (g := w4.heap.size) (by omega)) (j := 2) (v := .int .i64 r1) (g := w4.heap.size) (by omega)
            refine hK.out _ _ ⟨k_n.cell 0 rfl, k_n.cell 1 rfl, k_n.cell 2 rfl, k_n.cell 3 rfl, k_n.cell 4 rfl, k_n.cell 5 rfl, k_o.cell 0 rfl, k_o.cell 1 rfl, k_o.cell 2 rfl, k_a.cell 0 rfl, k_a.cell 1 rfl, k_a.cell 2 rfl, k_b.cell 0 rfl, k_b.cell 1 rfl, k_b.cell 2 rfl⟩ (fun hHeld => ?_)
            clear hK K
            clear HB Kn Ko Ka Kb Kx
            generalize (((w6).setCell ⟨w4.heap.size, 0, none⟩ (.int .i64 r1)).setCell ⟨w4.heap.size, 1, none⟩ (.int .i64 r2)).setCell ⟨w4.heap.size, 2, none⟩ (.int .i64 r1) = w7 at k_n k_o k_a k_b k_x h_ hHeld ⊢
            have HB := Asd.mk h_; clear h_; have Kn := Asd.mk k_n; clear k_n; have Ko := Asd.mk k_o; clear k_o; have Ka := Asd.mk k_a; clear k_a; have Kb := Asd.mk k_b; clear k_b; have Kx := Asd.mk k_x; clear k_x
            refine pure_ (i := 16) (N := some 10) (v := ?_) (a' := ?_) X18 rfl rfl (any_of HT_.out (by kernel_rfl)) (fun _ _ _ h => h) (Or.inl ⟨by rfl, ?_⟩) ?_ ?_
            rotate_left
            ·
             intro w'
             go_simp
             with_reducible rfl
            rotate_left
            ·
             simp only [Act.put, List.setIfInBounds_toArray, List.set_cons_zero, List.set_cons_succ, i64_w, i32_w]
             rfl
            refine done_ (done_of HT_.out (by kernel_rfl)) ?_
            have Z : w.heap.size ≤ w7.heap.size := HB.out.size
            have Ln := Kn.out.lt; have cn0 := Kn.out.cell 0 rfl; have fn0 := Kn.out.frozen 0; have cn1 := Kn.out.cell 1 rfl; have fn1 := Kn.out.frozen 1; have cn2 := Kn.out.cell 2 rfl; have fn2 := Kn.out.frozen 2; have cn3 := Kn.out.cell 3 rfl; have fn3 := Kn.out.frozen 3; have cn4 := Kn.out.cell 4 rfl; have fn4 := Kn.out.frozen 4; have cn5 := Kn.out.cell 5 rfl; have fn5 := Kn.out.frozen 5
            have Lo := Ko.out.lt; have co0 := Ko.out.cell 0 rfl; have fo0 := Ko.out.frozen 0; have co1 := Ko.out.cell 1 rfl; have fo1 := Ko.out.frozen 1; have co2 := Ko.out.cell 2 rfl; have fo2 := Ko.out.frozen 2
            have La := Ka.out.lt; have ca0 := Ka.out.cell 0 rfl; have fa0 := Ka.out.frozen 0; have ca1 := Ka.out.cell 1 rfl; have fa1 := Ka.out.frozen 1; have ca2 := Ka.out.cell 2 rfl; have fa2 := Ka.out.frozen 2
            have Lb := Kb.out.lt; have cb0 := Kb.out.cell 0 rfl; have fb0 := Kb.out.frozen 0; have cb1 := Kb.out.cell 1 rfl; have fb1 := Kb.out.frozen 1; have cb2 := Kb.out.cell 2 rfl; have fb2 := Kb.out.frozen 2
            have Lx := Kx.out.lt; have cx0 := Kx.out.cell 0 rfl; have fx0 := Kx.out.frozen 0; have cx1 := Kx.out.cell 1 rfl; have fx1 := Kx.out.frozen 1; have cx2 := Kx.out.cell 2 rfl; have fx2 := Kx.out.frozen 2
            go_wp2
            go_meet
            case rel => exact ⟨A0, B0, P0, A1, B1, P1, mid_same R3.out, (fun h_ => absurd h_ (by decide)), (fun _ => ⟨by omega, Ka.out⟩), Kn.out, HB.out⟩
        ·
         have hkk0 : (v1 == 0) = false := beq_eq_false_iff_ne.2 hk0
         clear hk0
         by_cases hk1 : v1 = 1
         ·
          have hkk : (v1 == 1) = true := beq_iff_eq.2 hk1
          clear hk1
          by_cases hj : judgeI A1 B1 P1 1 A0 true = 2
          ·
           have h1 := Asd.mk hj; clear hj
           as_aux_lemma =>
            go_wp2_with fail
            go_region_held3 (fun w' => Below w.heap.size w w' ∧ Blk w' (w1.heap.size) #[.int .i64 A0, .int .i64 B0, .int .i64 P0, .int .i64 A1, .int .i64 B1, .int .i64 P1] 27 ∧ Blk w' (wr.heap.size) #[.int .i64 v0, .int .i64 v1, .int .i64 v2] 48 ∧ Blk w' (wr.heap.size + 1) #[.int .i64 A1, .int .i64 B1, .int .i64 P1] 27 ∧ Blk w' (wr.heap.size + 1 + 1) #[.int .i64 A0, .int .i64 B0, .int .i64 P0] 27 ∧ w'.cell? ⟨w1.heap.size, 0, none⟩ = some (.int .i64 A0) ∧ w'.cell? ⟨w1.heap.size, 1, none⟩ = some (.int .i64 B0) ∧ w'.cell? ⟨w1.heap.size, 2, none⟩ = some (.int .i64 P0) ∧ w'.cell? ⟨w1.heap.size, 3, none⟩ = some (.int .i64 A1) ∧ w'.cell? ⟨w1.heap.size, 4, none⟩ = some (.int .i64 B1) ∧ w'.cell? ⟨w1.heap.size, 5, none⟩ = some (.int .i64 P1) ∧ w'.cell? ⟨wr.heap.size, 0, none⟩ = some (.int .i64 v0) ∧ w'.cell? ⟨wr.heap.size, 1, none⟩ = some (.int .i64 v1) ∧ w'.cell? ⟨wr.heap.size, 2, none⟩ = some (.int .i64 v2) ∧ w'.cell? ⟨wr.heap.size + 1, 0, none⟩ = some (.int .i64 A1) ∧ w'.cell? ⟨wr.heap.size + 1, 1, none⟩ = some (.int .i64 B1) ∧ w'.cell? ⟨wr.heap.size + 1, 2, none⟩ = some (.int .i64 P1) ∧ w'.cell? ⟨wr.heap.size + 1 + 1, 0, none⟩ = some (.int .i64 A0) ∧ w'.cell? ⟨wr.heap.size + 1 + 1, 1, none⟩ = some (.int .i64 B0) ∧ w'.cell? ⟨wr.heap.size + 1 + 1, 2, none⟩ = some (.int .i64 P0)) (first | exact ⟨below_drew HB.out, Kn.out.drew, Ko.out.drew, Ka.out.drew, Kb.out.drew, Kn.out.drew.cell 0 rfl, Kn.out.drew.cell 1 rfl, Kn.out.drew.cell 2 rfl, Kn.out.drew.cell 3 rfl, Kn.out.drew.cell 4 rfl, Kn.out.drew.cell 5 rfl, Ko.out.drew.cell 0 rfl, Ko.out.drew.cell 1 rfl, Ko.out.drew.cell 2 rfl, Ka.out.drew.cell 0 rfl, Ka.out.drew.cell 1 rfl, Ka.out.drew.cell 2 rfl, Kb.out.drew.cell 0 rfl, Kb.out.drew.cell 1 rfl, Kb.out.drew.cell 2 rfl⟩ | (have hh := ‹Below w.heap.size w _ ∧ _›; exact ⟨below_step hh.1 hb, hh.2.1.below hb, hh.2.2.1.below hb, hh.2.2.2.1.below hb, hh.2.2.2.2.1.below hb, (hh.2.1.below hb).cell 0 rfl, (hh.2.1.below hb).cell 1 rfl, (hh.2.1.below hb).cell 2 rfl, (hh.2.1.below hb).cell 3 rfl, (hh.2.1.below hb).cell 4 rfl, (hh.2.1.below hb).cell 5 rfl, (hh.2.2.1.below hb).cell 0 rfl, (hh.2.2.1.below hb).cell 1 rfl, (hh.2.2.1.below hb).cell 2 rfl, (hh.2.2.2.1.below hb).cell 0 rfl, (hh.2.2.2.1.below hb).cell 1 rfl, (hh.2.2.2.1.below hb).cell 2 rfl, (hh.2.2.2.2.1.below hb).cell 0 rfl, (hh.2.2.2.2.1.below hb).cell 1 rfl, (hh.2.2.2.2.1.below hb).cell 2 rfl⟩) | exact ‹Below w.heap.size w _ ∧ _›) (first | (go_at_call 16; refine (judge_at (e := A1) (b := B1) (p := P1) (n := 1) (x := A0) (t := true) (r := 2) h1.out _).mono ?_; rintro en w40 ⟨rfl, hb⟩))
            obtain ⟨h_, k_n, k_o, k_a, k_b, _⟩ := ‹Below w.heap.size w w40 ∧ _›
            clear Kn Ln cn0 fn0 cn1 fn1 cn2 fn2 cn3 fn3 cn4 fn4 cn5 fn5 Ko Lo co0 fo0 co1 fo1 co2 fo2 Ka La ca0 fa0 ca1 fa1 ca2 fa2 Kb Lb cb0 fb0 cb1 fb1 cb2 fb2 HB Z; have HB := Asd.mk h_; clear h_; have Z : w.heap.size ≤ w40.heap.size := HB.out.size
            have Kn := Asd.mk k_n; have Ln := k_n.lt; have cn0 := k_n.cell 0 rfl; have fn0 := k_n.frozen 0; have cn1 := k_n.cell 1 rfl; have fn1 := k_n.frozen 1; have cn2 := k_n.cell 2 rfl; have fn2 := k_n.frozen 2; have cn3 := k_n.cell 3 rfl; have fn3 := k_n.frozen 3; have cn4 := k_n.cell 4 rfl; have fn4 := k_n.frozen 4; have cn5 := k_n.cell 5 rfl; have fn5 := k_n.frozen 5; clear k_n
            have Ko := Asd.mk k_o; have Lo := k_o.lt; have co0 := k_o.cell 0 rfl; have fo0 := k_o.frozen 0; have co1 := k_o.cell 1 rfl; have fo1 := k_o.frozen 1; have co2 := k_o.cell 2 rfl; have fo2 := k_o.frozen 2; clear k_o
            have Ka := Asd.mk k_a; have La := k_a.lt; have ca0 := k_a.cell 0 rfl; have fa0 := k_a.frozen 0; have ca1 := k_a.cell 1 rfl; have fa1 := k_a.frozen 1; have ca2 := k_a.cell 2 rfl; have fa2 := k_a.frozen 2; clear k_a
            have Kb := Asd.mk k_b; have Lb := k_b.lt; have cb0 := k_b.cell 0 rfl; have fb0 := k_b.frozen 0; have cb1 := k_b.cell 1 rfl; have fb1 := k_b.frozen 1; have cb2 := k_b.cell 2 rfl; have fb2 := k_b.frozen 2; clear k_b
            have hw := Asd.mk (show wrap64 (A1 + 1) = A1 + 1 by unfold wrap64; omega)
            go_wp2_with fail
            refine (promises_at (e := A1) (b := B1) (p := P1) (r := A1 + 1) hw.out _).mono ?_; rintro en w4 ⟨rfl, hb4⟩
            have k_n : Blk w4 (w1.heap.size) #[.int .i64 A0, .int .i64 B0, .int .i64 P0, .int .i64 A1, .int .i64 B1, .int .i64 P1] 27 := (by first | exact Kn.out.below hb4 | exact (Kn.out.alloc _).below hb4 | exact ((Kn.out.alloc _).alloc _).below hb4)
            have k_o : Blk w4 (wr.heap.size) #[.int .i64 v0, .int .i64 v1, .int .i64 v2] 48 := (by first | exact Ko.out.below hb4 | exact (Ko.out.alloc _).below hb4 | exact ((Ko.out.alloc _).alloc _).below hb4)
            have k_a : Blk w4 (wr.heap.size + 1) #[.int .i64 A1, .int .i64 B1, .int .i64 P1] 27 := (by first | exact Ka.out.below hb4 | exact (Ka.out.alloc _).below hb4 | exact ((Ka.out.alloc _).alloc _).below hb4)
            have k_b : Blk w4 (wr.heap.size + 1 + 1) #[.int .i64 A0, .int .i64 B0, .int .i64 P0] 27 := (by first | exact Kb.out.below hb4 | exact (Kb.out.alloc _).below hb4 | exact ((Kb.out.alloc _).alloc _).below hb4)
            have h_ : Below w.heap.size w w4 := below_step (by repeat (first | exact HB.out | apply below_alloc | apply below_drewN | apply below_drew | refine below_set ?_ (by have := HB.out.size; omega))) hb4
            clear Kn Ln cn0 fn0 cn1 fn1 cn2 fn2 cn3 fn3 cn4 fn4 cn5 fn5 Ko Lo co0 fo0 co1 fo1 co2 fo2 Ka La ca0 fa0 ca1 fa1 ca2 fa2 Kb Lb cb0 fb0 cb1 fb1 cb2 fb2
            clear HB hb4 Z; have HB := Asd.mk h_; clear h_; have Z : w.heap.size ≤ w4.heap.size := HB.out.size
            have Kn := Asd.mk k_n; have Ln := k_n.lt; have cn0 := k_n.cell 0 rfl; have fn0 := k_n.frozen 0; have cn1 := k_n.cell 1 rfl; have fn1 := k_n.frozen 1; have cn2 := k_n.cell 2 rfl; have fn2 := k_n.frozen 2; have cn3 := k_n.cell 3 rfl; have fn3 := k_n.frozen 3; have cn4 := k_n.cell 4 rfl; have fn4 := k_n.frozen 4; have cn5 := k_n.cell 5 rfl; have fn5 := k_n.frozen 5; clear k_n
            have Ko := Asd.mk k_o; have Lo := k_o.lt; have co0 := k_o.cell 0 rfl; have fo0 := k_o.frozen 0; have co1 := k_o.cell 1 rfl; have fo1 := k_o.frozen 1; have co2 := k_o.cell 2 rfl; have fo2 := k_o.frozen 2; clear k_o
            have Ka := Asd.mk k_a; have La := k_a.lt; have ca0 := k_a.cell 0 rfl; have fa0 := k_a.frozen 0; have ca1 := k_a.cell 1 rfl; have fa1 := k_a.frozen 1; have ca2 := k_a.cell 2 rfl; have fa2 := k_a.frozen 2; clear k_a
            have Kb := Asd.mk k_b; have Lb := k_b.lt; have cb0 := k_b.cell 0 rfl; have fb0 := k_b.frozen 0; have cb1 := k_b.cell 1 rfl; have fb1 := k_b.frozen 1; have cb2 := k_b.cell 2 rfl; have fb2 := k_b.frozen 2; clear k_b
            go_wp2
            go_meet
            case rel => exact ⟨A0, B0, P0, A1, B1, (A1 + 1), mid_promises1 R3.out h1.out, (fun h_ => absurd h_ (by decide)), (fun _ => ⟨by omega, (by repeat (first | exact Ka.out | refine Blk.far ?_ (by omega) _))⟩), ((Kn.out.put 3 _ rfl).put 4 _ rfl).put 5 _ rfl, below_set (below_set (below_set HB.out (by omega)) (by omega)) (by omega)⟩
          ·
           obtain ⟨j, hj_⟩ : ∃ j, judgeI A1 B1 P1 1 A0 true = j := ⟨_, rfl⟩
           as_aux_lemma =>
            have hjj : (j == 2) = false := beq_eq_false_iff_ne.2 (by rw [← hj_]; exact hj)
            have h1 := Asd.mk hj_; clear hj hj_
            go_wp2_with fail
            go_region_held3 (fun w' => Below w.heap.size w w' ∧ Blk w' (w1.heap.size) #[.int .i64 A0, .int .i64 B0, .int .i64 P0, .int .i64 A1, .int .i64 B1, .int .i64 P1] 27 ∧ Blk w' (wr.heap.size) #[.int .i64 v0, .int .i64 v1, .int .i64 v2] 48 ∧ Blk w' (wr.heap.size + 1) #[.int .i64 A1, .int .i64 B1, .int .i64 P1] 27 ∧ Blk w' (wr.heap.size + 1 + 1) #[.int .i64 A0, .int .i64 B0, .int .i64 P0] 27 ∧ w'.cell? ⟨w1.heap.size, 0, none⟩ = some (.int .i64 A0) ∧ w'.cell? ⟨w1.heap.size, 1, none⟩ = some (.int .i64 B0) ∧ w'.cell? ⟨w1.heap.size, 2, none⟩ = some (.int .i64 P0) ∧ w'.cell? ⟨w1.heap.size, 3, none⟩ = some (.int .i64 A1) ∧ w'.cell? ⟨w1.heap.size, 4, none⟩ = some (.int .i64 B1) ∧ w'.cell? ⟨w1.heap.size, 5, none⟩ = some (.int .i64 P1) ∧ w'.cell? ⟨wr.heap.size, 0, none⟩ = some (.int .i64 v0) ∧ w'.cell? ⟨wr.heap.size, 1, none⟩ = some (.int .i64 v1) ∧ w'.cell? ⟨wr.heap.size, 2, none⟩ = some (.int .i64 v2) ∧ w'.cell? ⟨wr.heap.size + 1, 0, none⟩ = some (.int .i64 A1) ∧ w'.cell? ⟨wr.heap.size + 1, 1, none⟩ = some (.int .i64 B1) ∧ w'.cell? ⟨wr.heap.size + 1, 2, none⟩ = some (.int .i64 P1) ∧ w'.cell? ⟨wr.heap.size + 1 + 1, 0, none⟩ = some (.int .i64 A0) ∧ w'.cell? ⟨wr.heap.size + 1 + 1, 1, none⟩ = some (.int .i64 B0) ∧ w'.cell? ⟨wr.heap.size + 1 + 1, 2, none⟩ = some (.int .i64 P0)) (first | exact ⟨below_drew HB.out, Kn.out.drew, Ko.out.drew, Ka.out.drew, Kb.out.drew, Kn.out.drew.cell 0 rfl, Kn.out.drew.cell 1 rfl, Kn.out.drew.cell 2 rfl, Kn.out.drew.cell 3 rfl, Kn.out.drew.cell 4 rfl, Kn.out.drew.cell 5 rfl, Ko.out.drew.cell 0 rfl, Ko.out.drew.cell 1 rfl, Ko.out.drew.cell 2 rfl, Ka.out.drew.cell 0 rfl, Ka.out.drew.cell 1 rfl, Ka.out.drew.cell 2 rfl, Kb.out.drew.cell 0 rfl, Kb.out.drew.cell 1 rfl, Kb.out.drew.cell 2 rfl⟩ | (have hh := ‹Below w.heap.size w _ ∧ _›; exact ⟨below_step hh.1 hb, hh.2.1.below hb, hh.2.2.1.below hb, hh.2.2.2.1.below hb, hh.2.2.2.2.1.below hb, (hh.2.1.below hb).cell 0 rfl, (hh.2.1.below hb).cell 1 rfl, (hh.2.1.below hb).cell 2 rfl, (hh.2.1.below hb).cell 3 rfl, (hh.2.1.below hb).cell 4 rfl, (hh.2.1.below hb).cell 5 rfl, (hh.2.2.1.below hb).cell 0 rfl, (hh.2.2.1.below hb).cell 1 rfl, (hh.2.2.1.below hb).cell 2 rfl, (hh.2.2.2.1.below hb).cell 0 rfl, (hh.2.2.2.1.below hb).cell 1 rfl, (hh.2.2.2.1.below hb).cell 2 rfl, (hh.2.2.2.2.1.below hb).cell 0 rfl, (hh.2.2.2.2.1.below hb).cell 1 rfl, (hh.2.2.2.2.1.below hb).cell 2 rfl⟩) | exact ‹Below w.heap.size w _ ∧ _›) (first | (go_at_call 16; refine (judge_at (e := A1) (b := B1) (p := P1) (n := 1) (x := A0) (t := true) (r := j) h1.out _).mono ?_; rintro en w40 ⟨rfl, hb⟩))
            obtain ⟨h_, k_n, k_o, k_a, k_b, _⟩ := ‹Below w.heap.size w w40 ∧ _›
            clear Kn Ln cn0 fn0 cn1 fn1 cn2 fn2 cn3 fn3 cn4 fn4 cn5 fn5 Ko Lo co0 fo0 co1 fo1 co2 fo2 Ka La ca0 fa0 ca1 fa1 ca2 fa2 Kb Lb cb0 fb0 cb1 fb1 cb2 fb2 HB Z; have HB := Asd.mk h_; clear h_; have Z : w.heap.size ≤ w40.heap.size := HB.out.size
            have Kn := Asd.mk k_n; have Ln := k_n.lt; have cn0 := k_n.cell 0 rfl; have fn0 := k_n.frozen 0; have cn1 := k_n.cell 1 rfl; have fn1 := k_n.frozen 1; have cn2 := k_n.cell 2 rfl; have fn2 := k_n.frozen 2; have cn3 := k_n.cell 3 rfl; have fn3 := k_n.frozen 3; have cn4 := k_n.cell 4 rfl; have fn4 := k_n.frozen 4; have cn5 := k_n.cell 5 rfl; have fn5 := k_n.frozen 5; clear k_n
            have Ko := Asd.mk k_o; have Lo := k_o.lt; have co0 := k_o.cell 0 rfl; have fo0 := k_o.frozen 0; have co1 := k_o.cell 1 rfl; have fo1 := k_o.frozen 1; have co2 := k_o.cell 2 rfl; have fo2 := k_o.frozen 2; clear k_o
            have Ka := Asd.mk k_a; have La := k_a.lt; have ca0 := k_a.cell 0 rfl; have fa0 := k_a.frozen 0; have ca1 := k_a.cell 1 rfl; have fa1 := k_a.frozen 1; have ca2 := k_a.cell 2 rfl; have fa2 := k_a.frozen 2; clear k_a
            have Kb := Asd.mk k_b; have Lb := k_b.lt; have cb0 := k_b.cell 0 rfl; have fb0 := k_b.frozen 0; have cb1 := k_b.cell 1 rfl; have fb1 := k_b.frozen 1; have cb2 := k_b.cell 2 rfl; have fb2 := k_b.frozen 2; clear k_b
            go_wp2
            go_meet
            case rel => exact ⟨A0, B0, P0, A1, B1, P1, mid_same R3.out, (fun h_ => absurd h_ (by decide)), (fun _ => ⟨by omega, Ka.out⟩), Kn.out, HB.out⟩
         ·
          have hkk1 : (v1 == 1) = false := beq_eq_false_iff_ne.2 hk1
          clear hk1
          by_cases hk2 : v1 = 2
          ·
           have hkk : (v1 == 2) = true := beq_iff_eq.2 hk2
           clear hk2
           by_cases hj : judgeI A1 B1 P1 1 A0 true = 2
           ·
            have h1 := Asd.mk hj; clear hj
            as_aux_lemma =>
             go_wp2_with fail
             go_region_held3 (fun w' => Below w.heap.size w w' ∧ Blk w' (w1.heap.size) #[.int .i64 A0, .int .i64 B0, .int .i64 P0, .int .i64 A1, .int .i64 B1, .int .i64 P1] 27 ∧ Blk w' (wr.heap.size) #[.int .i64 v0, .int .i64 v1, .int .i64 v2] 48 ∧ Blk w' (wr.heap.size + 1) #[.int .i64 A1, .int .i64 B1, .int .i64 P1] 27 ∧ Blk w' (wr.heap.size + 1 + 1) #[.int .i64 A0, .int .i64 B0, .int .i64 P0] 27 ∧ w'.cell? ⟨w1.heap.size, 0, none⟩ = some (.int .i64 A0) ∧ w'.cell? ⟨w1.heap.size, 1, none⟩ = some (.int .i64 B0) ∧ w'.cell? ⟨w1.heap.size, 2, none⟩ = some (.int .i64 P0) ∧ w'.cell? ⟨w1.heap.size, 3, none⟩ = some (.int .i64 A1) ∧ w'.cell? ⟨w1.heap.size, 4, none⟩ = some (.int .i64 B1) ∧ w'.cell? ⟨w1.heap.size, 5, none⟩ = some (.int .i64 P1) ∧ w'.cell? ⟨wr.heap.size, 0, none⟩ = some (.int .i64 v0) ∧ w'.cell? ⟨wr.heap.size, 1, none⟩ = some (.int .i64 v1) ∧ w'.cell? ⟨wr.heap.size, 2, none⟩ = some (.int .i64 v2) ∧ w'.cell? ⟨wr.heap.size + 1, 0, none⟩ = some (.int .i64 A1) ∧ w'.cell? ⟨wr.heap.size + 1, 1, none⟩ = some (.int .i64 B1) ∧ w'.cell? ⟨wr.heap.size + 1, 2, none⟩ = some (.int .i64 P1) ∧ w'.cell? ⟨wr.heap.size + 1 + 1, 0, none⟩ = some (.int .i64 A0) ∧ w'.cell? ⟨wr.heap.size + 1 + 1, 1, none⟩ = some (.int .i64 B0) ∧ w'.cell? ⟨wr.heap.size + 1 + 1, 2, none⟩ = some (.int .i64 P0)) (first | exact ⟨below_drew HB.out, Kn.out.drew, Ko.out.drew, Ka.out.drew, Kb.out.drew, Kn.out.drew.cell 0 rfl, Kn.out.drew.cell 1 rfl, Kn.out.drew.cell 2 rfl, Kn.out.drew.cell 3 rfl, Kn.out.drew.cell 4 rfl, Kn.out.drew.cell 5 rfl, Ko.out.drew.cell 0 rfl, Ko.out.drew.cell 1 rfl, Ko.out.drew.cell 2 rfl, Ka.out.drew.cell 0 rfl, Ka.out.drew.cell 1 rfl, Ka.out.drew.cell 2 rfl, Kb.out.drew.cell 0 rfl, Kb.out.drew.cell 1 rfl, Kb.out.drew.cell 2 rfl⟩ | (have hh := ‹Below w.heap.size w _ ∧ _›; exact ⟨below_step hh.1 hb, hh.2.1.below hb, hh.2.2.1.below hb, hh.2.2.2.1.below hb, hh.2.2.2.2.1.below hb, (hh.2.1.below hb).cell 0 rfl, (hh.2.1.below hb).cell 1 rfl, (hh.2.1.below hb).cell 2 rfl, (hh.2.1.below hb).cell 3 rfl, (hh.2.1.below hb).cell 4 rfl, (hh.2.1.below hb).cell 5 rfl, (hh.2.2.1.below hb).cell 0 rfl, (hh.2.2.1.below hb).cell 1 rfl, (hh.2.2.1.below hb).cell 2 rfl, (hh.2.2.2.1.below hb).cell 0 rfl, (hh.2.2.2.1.below hb).cell 1 rfl, (hh.2.2.2.1.below hb).cell 2 rfl, (hh.2.2.2.2.1.below hb).cell 0 rfl, (hh.2.2.2.2.1.below hb).cell 1 rfl, (hh.2.2.2.2.1.below hb).cell 2 rfl⟩) | exact ‹Below w.heap.size w _ ∧ _›) (first | (go_at_call 16; refine (judge_at (e := A1) (b := B1) (p := P1) (n := 1) (x := A0) (t := true) (r := 2) h1.out _).mono ?_; rintro en w40 ⟨rfl, hb⟩))
             obtain ⟨h_, k_n, k_o, k_a, k_b, _⟩ := ‹Below w.heap.size w w40 ∧ _›
             clear Kn Ln cn0 fn0 cn1 fn1 cn2 fn2 cn3 fn3 cn4 fn4 cn5 fn5 Ko Lo co0 fo0 co1 fo1 co2 fo2 Ka La ca0 fa0 ca1 fa1 ca2 fa2 Kb Lb cb0 fb0 cb1 fb1 cb2 fb2 HB Z; have HB := Asd.mk h_; clear h_; have Z : w.heap.size ≤ w40.heap.size := HB.out.size
             have Kn := Asd.mk k_n; have Ln := k_n.lt; have cn0 := k_n.cell 0 rfl; have fn0 := k_n.frozen 0; have cn1 := k_n.cell 1 rfl; have fn1 := k_n.frozen 1; have cn2 := k_n.cell 2 rfl; have fn2 := k_n.frozen 2; have cn3 := k_n.cell 3 rfl; have fn3 := k_n.frozen 3; have cn4 := k_n.cell 4 rfl; have fn4 := k_n.frozen 4; have cn5 := k_n.cell 5 rfl; have fn5 := k_n.frozen 5; clear k_n
             have Ko := Asd.mk k_o; have Lo := k_o.lt; have co0 := k_o.cell 0 rfl; have fo0 := k_o.frozen 0; have co1 := k_o.cell 1 rfl; have fo1 := k_o.frozen 1; have co2 := k_o.cell 2 rfl; have fo2 := k_o.frozen 2; clear k_o
             have Ka := Asd.mk k_a; have La := k_a.lt; have ca0 := k_a.cell 0 rfl; have fa0 := k_a.frozen 0; have ca1 := k_a.cell 1 rfl; have fa1 := k_a.frozen 1; have ca2 := k_a.cell 2 rfl; have fa2 := k_a.frozen 2; clear k_a
             have Kb := Asd.mk k_b; have Lb := k_b.lt; have cb0 := k_b.cell 0 rfl; have fb0 := k_b.frozen 0; have cb1 := k_b.cell 1 rfl; have fb1 := k_b.frozen 1; have cb2 := k_b.cell 2 rfl; have fb2 := k_b.frozen 2; clear k_b
             have hw := Asd.mk (show wrap64 (A1 + 1) = A1 + 1 by unfold wrap64; omega)
             go_wp2_with fail
             have k_n := Kn.out.drew
             have k_o := Ko.out.drew
             have k_a := Ka.out.drew
             have k_b := Kb.out.drew
             have h_ := below_drew HB.out
             refine start_ (n := 11) (S := fun w' => w'.cell? ⟨w1.heap.size, 0, none⟩ = some (.int .i64 A0) ∧ w'.cell? ⟨w1.heap.size, 1, none⟩ = some (.int .i64 B0) ∧ w'.cell? ⟨w1.heap.size, 2, none⟩ = some (.int .i64 P0) ∧ w'.cell? ⟨w1.heap.size, 3, none⟩ = some (.int .i64 A1) ∧ w'.cell? ⟨w1.heap.size, 4, none⟩ = some (.int .i64 B1) ∧ w'.cell? ⟨w1.heap.size, 5, none⟩ = some (.int .i64 P1) ∧ w'.cell? ⟨wr.heap.size, 0, none⟩ = some (.int .i64 v0) ∧ w'.cell? ⟨wr.heap.size, 1, none⟩ = some (.int .i64 v1) ∧ w'.cell? ⟨wr.heap.size, 2, none⟩ = some (.int .i64 v2) ∧ w'.cell? ⟨wr.heap.size + 1, 0, none⟩ = some (.int .i64 A1) ∧ w'.cell? ⟨wr.heap.size + 1, 1, none⟩ = some (.int .i64 B1) ∧ w'.cell? ⟨wr.heap.size + 1, 2, none⟩ = some (.int .i64 P1) ∧ w'.cell? ⟨wr.heap.size + 1 + 1, 0, none⟩ = some (.int .i64 A0) ∧ w'.cell? ⟨wr.heap.size + 1 + 1, 1, none⟩ = some (.int .i64 B0) ∧ w'.cell? ⟨wr.heap.size + 1 + 1, 2, none⟩ = some (.int .i64 P0)) (ds := [10]) X22 (by kernel_rfl) rfl rfl ⟨k_n.cell 0 rfl, k_n.cell 1 rfl, k_n.cell 2 rfl, k_n.cell 3 rfl, k_n.cell 4 rfl, k_n.cell 5 rfl, k_o.cell 0 rfl, k_o.cell 1 rfl, k_o.cell 2 rfl, k_a.cell 0 rfl, k_a.cell 1 rfl, k_a.cell 2 rfl, k_b.cell 0 rfl, k_b.cell 1 rfl, k_b.cell 2 rfl⟩ (fun hHeld => ?_); refine with_tabW one21tab one21bits (fun HT_ HW_ => ?_)
             clear HB Kn Ko Ka Kb
             generalize w40.drew = w4 at k_n k_o k_a k_b h_ hHeld ⊢
             have HB := Asd.mk h_; clear h_; have Kn := Asd.mk k_n; clear k_n; have Ko := Asd.mk k_o; clear k_o; have Ka := Asd.mk k_a; clear k_a; have Kb := Asd.mk k_b; clear k_b
             clear Ln Lo La Lb cn0 fn0 cn1 fn1 cn2 fn2 cn3 fn3 cn4 fn4 cn5 fn5 co0 fo0 co1 fo1 co2 fo2 ca0 fa0 ca1 fa1 ca2 fa2 cb0 fb0 cb1 fb1 cb2 fb2
             refine pure_ (i := 0) (N := some 99) (v := ?_) (a' := ?_) X23 rfl rfl (any_of HT_.out (by kernel_rfl)) (fun _ _ _ h => h) (Or.inl ⟨by rfl, ?_⟩) ?_ ?_
             rotate_left
             ·
              intro w'
              go_simp
              with_reducible rfl
             rotate_left
             ·
              simp only [Act.put, List.setIfInBounds_toArray, List.set_cons_zero, List.set_cons_succ, i64_w, i32_w]
              rfl
             refine pure_ (i := 1) (N := some 100) (v := ?_) (a' := ?_) X24 rfl rfl (any_of HT_.out (by kernel_rfl)) (fun _ _ _ h => h) (Or.inl ⟨by rfl, ?_⟩) ?_ ?_
             rotate_left
             ·
              intro w'
              go_simp
              with_reducible rfl
             rotate_left
             ·
              simp only [Act.put, List.setIfInBounds_toArray, List.set_cons_zero, List.set_cons_succ, i64_w, i32_w]
              rfl
             refine pure_ (i := 2) (N := some 101) (v := ?_) (a' := ?_) X25 rfl rfl (any_of HT_.out (by kernel_rfl)) (fun _ _ _ h => h) (Or.inl ⟨by rfl, ?_⟩) ?_ ?_
             rotate_left
             ·
              intro w'
              go_simp
              with_reducible rfl
             rotate_left
             ·
              simp only [Act.put, List.setIfInBounds_toArray, List.set_cons_zero, List.set_cons_succ, i64_w, i32_w]
              rfl
             refine pure_ (i := 3) (N := some 102) (v := ?_) (a' := ?_) X26 rfl rfl (any_of HT_.out (by kernel_rfl)) (fun _ _ _ h => h) (Or.inl ⟨by rfl, ?_⟩) ?_ ?_
             rotate_left
             ·
              intro w'
              go_simp
              with_reducible rfl
             rotate_left
             ·
              simp only [Act.put, List.setIfInBounds_toArray, List.set_cons_zero, List.set_cons_succ, i64_w, i32_w]
              rfl
             refine pure_ (i := 4) (N := some 103) (v := ?_) (a' := ?_) X27 rfl rfl (any_of HT_.out (by kernel_rfl)) (fun _ _ _ h => h) (Or.inl ⟨by rfl, ?_⟩) ?_ ?_
             rotate_left
             ·
              intro w'
              go_simp
              with_reducible rfl
             rotate_left
             ·
              simp only [Act.put, List.setIfInBounds_toArray, List.set_cons_zero, List.set_cons_succ, i64_w, i32_w]
              rfl
             refine pure_ (i := 6) (N := some 105) (v := ?_) (a' := ?_) X28 rfl rfl (any_of HT_.out (by kernel_rfl)) (fun _ _ _ h => h) (Or.inl ⟨by rfl, ?_⟩) ?_ ?_
             rotate_left
             ·
              intro w'
              go_simp
              with_reducible rfl
             rotate_left
             ·
              simp only [Act.put, List.setIfInBounds_toArray, List.set_cons_zero, List.set_cons_succ, i64_w, i32_w]
              rfl
             refine take_ (i := 5) (N := some 104) (v := ?_) (a' := ?_) X29 rfl rfl (take_ofW HT_.out HW_.out (by kernel_rfl)) (fun _ _ _ h => h) (Or.inl ⟨by rfl, ?_⟩) hHeld ?_ ?_
             rotate_left
             ·
              rintro w' ⟨s0, s1, s2, s3, s4, s5, s6, s7, s8, s9, s10, s11, s12, s13, s14⟩
              go_simp
              with_reducible rfl
             rotate_left
             ·
              simp only [Act.put, List.setIfInBounds_toArray, List.set_cons_zero, List.set_cons_succ, i64_w, i32_w]
              rfl
             refine take_ (i := 7) (N := some 106) (v := ?_) (a' := ?_) X30 rfl rfl (take_ofW HT_.out HW_.out (by kernel_rfl)) (fun _ _ _ h => h) (Or.inl ⟨by rfl, ?_⟩) hHeld ?_ ?_
             rotate_left
             ·
              rintro w' ⟨s0, s1, s2, s3, s4, s5, s6, s7, s8, s9, s10, s11, s12, s13, s14⟩
              go_simp
              with_reducible rfl
             rotate_left
             ·
              simp only [Act.put, List.setIfInBounds_toArray, List.set_cons_zero, List.set_cons_succ, i64_w, i32_w]
              rfl
             refine one_ (i := 8) (N := some 107) X31 rfl rfl (one_of HT_.out (by kernel_rfl)) (by decide) (fun K hK => ?_)
             refine goes_ Try.func21 (by kernel_rfl) rfl #[.agg #[.int .i64 A1, .int .i64 B1, .int .i64 P1], .int .i64 B0] (by rfl) rfl rfl (by (try simp only [List.map_toArray, List.map_cons, List.map_nil]); first | done | rfl | (simp only [List.length_drop, List.length_take]; rfl)) ?_
             with_reducible refine (adopt_at (e := A1) (b := B1) (p := P1) (n := B0) (r := A1 + 1) hw.out _).mono ?_
             rintro en w5 ⟨rfl, hb5⟩
             refine ⟨_, rfl, ?_⟩
             have k_n := Kn.out.below hb5
             have k_o := Ko.out.below hb5
             have k_a := Ka.out.below hb5
             have k_b := Kb.out.below hb5
             have h_ := below_step HB.out hb5
             clear HB hb5 Kn Ko Ka Kb; have HB := Asd.mk h_; clear h_; have Kn := Asd.mk k_n; clear k_n; have Ko := Asd.mk k_o; clear k_o; have Ka := Asd.mk k_a; clear k_a; have Kb := Asd.mk k_b; clear k_b
             refine hK.out _ _ ⟨Kn.out.cell 0 rfl, Kn.out.cell 1 rfl, Kn.out.cell 2 rfl, Kn.out.cell 3 rfl, Kn.out.cell 4 rfl, Kn.out.cell 5 rfl, Ko.out.cell 0 rfl, Ko.out.cell 1 rfl, Ko.out.cell 2 rfl, Ka.out.cell 0 rfl, Ka.out.cell 1 rfl, Ka.out.cell 2 rfl, Kb.out.cell 0 rfl, Kb.out.cell 1 rfl, Kb.out.cell 2 rfl⟩ (fun hHeld => ?_)
             clear hK K
             refine norm_ (a' := ?_) ?_ ?_
             rotate_left
             ·
              (try show Act.put _ (some 107) _ = _)
              first | rfl | (simp only [Act.put, List.setIfInBounds_toArray, List.set_cons_zero, List.set_cons_succ, i64_w, i32_w]; rfl)
             refine pure_ (i := 9) (N := some 108) (v := ?_) (a' := ?_) X32 rfl rfl (any_of HT_.out (by kernel_rfl)) (fun _ _ _ h => h) (Or.inl ⟨by rfl, ?_⟩) ?_ ?_
             rotate_left
             ·
              intro w'
              go_simp
              with_reducible rfl
             rotate_left
             ·
              simp only [Act.put, List.setIfInBounds_toArray, List.set_cons_zero, List.set_cons_succ, i64_w, i32_w]
              rfl
             refine last_ (i := 10) (N := none) X33 rfl rfl (one_of HT_.out (by kernel_rfl)) (by decide) (fun K hK => ?_)
             have z_3 := Kn.out.cell 3 rfl; have y_3 := Kn.out.frozen 3
             have z_4 := Kn.out.cell 4 rfl; have y_4 := Kn.out.frozen 4
             have z_5 := Kn.out.cell 5 rfl; have y_5 := Kn.out.frozen 5
             go_simp
             clear z_3 y_3 z_4 y_4 z_5 y_5
             have k_n := (((Kn.out.put 3 (.int .i64 (A1 + 1)) rfl).put 4 (.int .i64 B0) rfl).put 5 (.int .i64 (A1 + 1)) rfl)
             have k_o := (((Ko.out.far (g2 := w1.heap.size) (i := 3) (by omega) (.int .i64 (A1 + 1))).far (g2 := w1.heap.size) (i := 4) (by omega) (.int .i64 B0)).far (g2 := w1.heap.size) (i := 5) (by omega) (.int .i64 (A1 + 1)))
             have k_a := (((Ka.out.far (g2 := w1.heap.size) (i := 3) (by omega) (.int .i64 (A1 + 1))).far (g2 := w1.heap.size) (i := 4) (by omega) (.int .i64 B0)).far (g2 := w1.heap.size) (i := 5) (by omega) (.int .i64 (A1 + 1)))
             have k_b := (((Kb.out.far (g2 := w1.heap.size) (i := 3) (by omega) (.int .i64 (A1 + 1))).far (g2 := w1.heap.size) (i := 4) (by omega) (.int .i64 B0)).far (g2 := w1.heap.size) (i := 5) (by omega) (.int .i64 (A1 + 1)))
             have h_ := below_set (below_set (below_set (HB.out) (j := 3) (v := .int .i64 (A1 + 1)) (g := w1.heap.size) (by omega)) (j := 4) (v := .int .i64 B0) (g := w1.heap.size) (by omega)) (j := 5) (v := .int .i64 (A1 + 1)) (g := w1.heap.size) (by omega)
             refine hK.out _ _ ?_
             clear hK K
             clear HB Kn Ko Ka Kb
             generalize (((w5).setCell ⟨w1.heap.size, 3, none⟩ (.int .i64 (A1 + 1))).setCell ⟨w1.heap.size, 4, none⟩ (.int .i64 B0)).setCell ⟨w1.heap.size, 5, none⟩ (.int .i64 (A1 + 1)) = w6 at k_n k_o k_a k_b h_ ⊢
             have HB := Asd.mk h_; clear h_; have Kn := Asd.mk k_n; clear k_n; have Ko := Asd.mk k_o; clear k_o; have Ka := Asd.mk k_a; clear k_a; have Kb := Asd.mk k_b; clear k_b
             refine done_ (done_of HT_.out (by kernel_rfl)) ?_
             have Z : w.heap.size ≤ w6.heap.size := HB.out.size
             have Ln := Kn.out.lt; have cn0 := Kn.out.cell 0 rfl; have fn0 := Kn.out.frozen 0; have cn1 := Kn.out.cell 1 rfl; have fn1 := Kn.out.frozen 1; have cn2 := Kn.out.cell 2 rfl; have fn2 := Kn.out.frozen 2; have cn3 := Kn.out.cell 3 rfl; have fn3 := Kn.out.frozen 3; have cn4 := Kn.out.cell 4 rfl; have fn4 := Kn.out.frozen 4; have cn5 := Kn.out.cell 5 rfl; have fn5 := Kn.out.frozen 5
             have Lo := Ko.out.lt; have co0 := Ko.out.cell 0 rfl; have fo0 := Ko.out.frozen 0; have co1 := Ko.out.cell 1 rfl; have fo1 := Ko.out.frozen 1; have co2 := Ko.out.cell 2 rfl; have fo2 := Ko.out.frozen 2
             have La := Ka.out.lt; have ca0 := Ka.out.cell 0 rfl; have fa0 := Ka.out.frozen 0; have ca1 := Ka.out.cell 1 rfl; have fa1 := Ka.out.frozen 1; have ca2 := Ka.out.cell 2 rfl; have fa2 := Ka.out.frozen 2
             have Lb := Kb.out.lt; have cb0 := Kb.out.cell 0 rfl; have fb0 := Kb.out.frozen 0; have cb1 := Kb.out.cell 1 rfl; have fb1 := Kb.out.frozen 1; have cb2 := Kb.out.cell 2 rfl; have fb2 := Kb.out.frozen 2
             go_wp2
             go_meet
             case rel => exact ⟨A0, B0, P0, (A1 + 1), B0, (A1 + 1), mid_adopt1 (by omega) R3.out h1.out, (fun h_ => absurd h_ (by decide)), (fun _ => ⟨by omega, Ka.out⟩), Kn.out, HB.out⟩
           ·
            obtain ⟨j, hj_⟩ : ∃ j, judgeI A1 B1 P1 1 A0 true = j := ⟨_, rfl⟩
            as_aux_lemma =>
             have hjj : (j == 2) = false := beq_eq_false_iff_ne.2 (by rw [← hj_]; exact hj)
             have h1 := Asd.mk hj_; clear hj hj_
             go_wp2_with fail
             go_region_held3 (fun w' => Below w.heap.size w w' ∧ Blk w' (w1.heap.size) #[.int .i64 A0, .int .i64 B0, .int .i64 P0, .int .i64 A1, .int .i64 B1, .int .i64 P1] 27 ∧ Blk w' (wr.heap.size) #[.int .i64 v0, .int .i64 v1, .int .i64 v2] 48 ∧ Blk w' (wr.heap.size + 1) #[.int .i64 A1, .int .i64 B1, .int .i64 P1] 27 ∧ Blk w' (wr.heap.size + 1 + 1) #[.int .i64 A0, .int .i64 B0, .int .i64 P0] 27 ∧ w'.cell? ⟨w1.heap.size, 0, none⟩ = some (.int .i64 A0) ∧ w'.cell? ⟨w1.heap.size, 1, none⟩ = some (.int .i64 B0) ∧ w'.cell? ⟨w1.heap.size, 2, none⟩ = some (.int .i64 P0) ∧ w'.cell? ⟨w1.heap.size, 3, none⟩ = some (.int .i64 A1) ∧ w'.cell? ⟨w1.heap.size, 4, none⟩ = some (.int .i64 B1) ∧ w'.cell? ⟨w1.heap.size, 5, none⟩ = some (.int .i64 P1) ∧ w'.cell? ⟨wr.heap.size, 0, none⟩ = some (.int .i64 v0) ∧ w'.cell? ⟨wr.heap.size, 1, none⟩ = some (.int .i64 v1) ∧ w'.cell? ⟨wr.heap.size, 2, none⟩ = some (.int .i64 v2) ∧ w'.cell? ⟨wr.heap.size + 1, 0, none⟩ = some (.int .i64 A1) ∧ w'.cell? ⟨wr.heap.size + 1, 1, none⟩ = some (.int .i64 B1) ∧ w'.cell? ⟨wr.heap.size + 1, 2, none⟩ = some (.int .i64 P1) ∧ w'.cell? ⟨wr.heap.size + 1 + 1, 0, none⟩ = some (.int .i64 A0) ∧ w'.cell? ⟨wr.heap.size + 1 + 1, 1, none⟩ = some (.int .i64 B0) ∧ w'.cell? ⟨wr.heap.size + 1 + 1, 2, none⟩ = some (.int .i64 P0)) (first | exact ⟨below_drew HB.out, Kn.out.drew, Ko.out.drew, Ka.out.drew, Kb.out.drew, Kn.out.drew.cell 0 rfl, Kn.out.drew.cell 1 rfl, Kn.out.drew.cell 2 rfl, Kn.out.drew.cell 3 rfl, Kn.out.drew.cell 4 rfl, Kn.out.drew.cell 5 rfl, Ko.out.drew.cell 0 rfl, Ko.out.drew.cell 1 rfl, Ko.out.drew.cell 2 rfl, Ka.out.drew.cell 0 rfl, Ka.out.drew.cell 1 rfl, Ka.out.drew.cell 2 rfl, Kb.out.drew.cell 0 rfl, Kb.out.drew.cell 1 rfl, Kb.out.drew.cell 2 rfl⟩ | (have hh := ‹Below w.heap.size w _ ∧ _›; exact ⟨below_step hh.1 hb, hh.2.1.below hb, hh.2.2.1.below hb, hh.2.2.2.1.below hb, hh.2.2.2.2.1.below hb, (hh.2.1.below hb).cell 0 rfl, (hh.2.1.below hb).cell 1 rfl, (hh.2.1.below hb).cell 2 rfl, (hh.2.1.below hb).cell 3 rfl, (hh.2.1.below hb).cell 4 rfl, (hh.2.1.below hb).cell 5 rfl, (hh.2.2.1.below hb).cell 0 rfl, (hh.2.2.1.below hb).cell 1 rfl, (hh.2.2.1.below hb).cell 2 rfl, (hh.2.2.2.1.below hb).cell 0 rfl, (hh.2.2.2.1.below hb).cell 1 rfl, (hh.2.2.2.1.below hb).cell 2 rfl, (hh.2.2.2.2.1.below hb).cell 0 rfl, (hh.2.2.2.2.1.below hb).cell 1 rfl, (hh.2.2.2.2.1.below hb).cell 2 rfl⟩) | exact ‹Below w.heap.size w _ ∧ _›) (first | (go_at_call 16; refine (judge_at (e := A1) (b := B1) (p := P1) (n := 1) (x := A0) (t := true) (r := j) h1.out _).mono ?_; rintro en w40 ⟨rfl, hb⟩))
             obtain ⟨h_, k_n, k_o, k_a, k_b, _⟩ := ‹Below w.heap.size w w40 ∧ _›
             clear Kn Ln cn0 fn0 cn1 fn1 cn2 fn2 cn3 fn3 cn4 fn4 cn5 fn5 Ko Lo co0 fo0 co1 fo1 co2 fo2 Ka La ca0 fa0 ca1 fa1 ca2 fa2 Kb Lb cb0 fb0 cb1 fb1 cb2 fb2 HB Z; have HB := Asd.mk h_; clear h_; have Z : w.heap.size ≤ w40.heap.size := HB.out.size
             have Kn := Asd.mk k_n; have Ln := k_n.lt; have cn0 := k_n.cell 0 rfl; have fn0 := k_n.frozen 0; have cn1 := k_n.cell 1 rfl; have fn1 := k_n.frozen 1; have cn2 := k_n.cell 2 rfl; have fn2 := k_n.frozen 2; have cn3 := k_n.cell 3 rfl; have fn3 := k_n.frozen 3; have cn4 := k_n.cell 4 rfl; have fn4 := k_n.frozen 4; have cn5 := k_n.cell 5 rfl; have fn5 := k_n.frozen 5; clear k_n
             have Ko := Asd.mk k_o; have Lo := k_o.lt; have co0 := k_o.cell 0 rfl; have fo0 := k_o.frozen 0; have co1 := k_o.cell 1 rfl; have fo1 := k_o.frozen 1; have co2 := k_o.cell 2 rfl; have fo2 := k_o.frozen 2; clear k_o
             have Ka := Asd.mk k_a; have La := k_a.lt; have ca0 := k_a.cell 0 rfl; have fa0 := k_a.frozen 0; have ca1 := k_a.cell 1 rfl; have fa1 := k_a.frozen 1; have ca2 := k_a.cell 2 rfl; have fa2 := k_a.frozen 2; clear k_a
             have Kb := Asd.mk k_b; have Lb := k_b.lt; have cb0 := k_b.cell 0 rfl; have fb0 := k_b.frozen 0; have cb1 := k_b.cell 1 rfl; have fb1 := k_b.frozen 1; have cb2 := k_b.cell 2 rfl; have fb2 := k_b.frozen 2; clear k_b
             go_wp2
             go_meet
             case rel => exact ⟨A0, B0, P0, A1, B1, P1, mid_same R3.out, (fun h_ => absurd h_ (by decide)), (fun _ => ⟨by omega, Ka.out⟩), Kn.out, HB.out⟩
          ·
           have hkk2 : (v1 == 2) = false := beq_eq_false_iff_ne.2 hk2
           clear hk2
           go_wp2
           go_meet
           case rel => exact ⟨A0, B0, P0, A1, B1, P1, mid_same R3.out, (fun h_ => absurd h_ (by decide)), (fun _ => ⟨by omega, Ka.out⟩), Kn.out, HB.out⟩
      case rest =>
       as_aux_lemma =>
        obtain ⟨E0, F0, Q0, E1, F1, Q1, m1, m2, m3, m4, m5⟩ := hcut
        have M1 := Asd.mk m1; obtain ⟨⟨p1, p2, p3, p4, p5, p6⟩, ⟨q1, q2, q3, q4, q5, q6⟩, e1, e2, e3, e4⟩ := m1
        obtain ⟨⟨s1, s2, s3⟩, kA⟩ := m3 rfl
        clear m2 m3 Kn Ko Ka Kb Ln Lo La Lb HB Z cn0 fn0 cn1 fn1 cn2 fn2 cn3 fn3 cn4 fn4 cn5 fn5 co0 fo0 co1 fo1 co2 fo2 ca0 fa0 ca1 fa1 ca2 fa2 cb0 fb0 cb1 fb1 cb2 fb2
        have HB := Asd.mk m5; clear m5; have Z : w.heap.size ≤ wc.heap.size := HB.out.size; have k_n : Blk wc (w1.heap.size) #[.int .i64 E0, .int .i64 F0, .int .i64 Q0, .int .i64 E1, .int .i64 F1, .int .i64 Q1] 27 := m4; clear m4; have k_a : Blk wc (wr.heap.size + 1) #[.int .i64 A1, .int .i64 B1, .int .i64 P1] 27 := kA; clear kA
        have Kn := Asd.mk k_n; have Ln := k_n.lt; have cn0 := k_n.cell 0 rfl; have fn0 := k_n.frozen 0; have cn1 := k_n.cell 1 rfl; have fn1 := k_n.frozen 1; have cn2 := k_n.cell 2 rfl; have fn2 := k_n.frozen 2; have cn3 := k_n.cell 3 rfl; have fn3 := k_n.frozen 3; have cn4 := k_n.cell 4 rfl; have fn4 := k_n.frozen 4; have cn5 := k_n.cell 5 rfl; have fn5 := k_n.frozen 5; clear k_n
        have Ka := Asd.mk k_a; have La := k_a.lt; have ca0 := k_a.cell 0 rfl; have fa0 := k_a.frozen 0; have ca1 := k_a.cell 1 rfl; have fa1 := k_a.frozen 1; have ca2 := k_a.cell 2 rfl; have fa2 := k_a.frozen 2; clear k_a
        have hD1 : IntKind.i64.wrap (E0 - E1) = E0 - E1 := (i64_w _).trans (by unfold wrap64; omega); have hD2 : wrap64 (E0 - E1) = E0 - E1 := by unfold wrap64; omega
        have hA1 : IntKind.i64.wrap (A1 + 1) = A1 + 1 := (i64_w _).trans (by unfold wrap64; omega); have hQ1 : IntKind.i64.wrap (Q1 - 1) = Q1 - 1 := (i64_w _).trans (by unfold wrap64; omega)
        go_wp2_with fail
        go_quiet (fail)
        generalize hq_ : World.drewN wc _ = w4
        have k_n : Blk w4 (w1.heap.size) #[.int .i64 E0, .int .i64 F0, .int .i64 Q0, .int .i64 E1, .int .i64 F1, .int .i64 Q1] 27 := (by rw [← hq_]; exact Kn.out.drewN _)
        have k_a : Blk w4 (wr.heap.size + 1) #[.int .i64 A1, .int .i64 B1, .int .i64 P1] 27 := (by rw [← hq_]; exact Ka.out.drewN _)
        have h_ : Below w.heap.size w w4 := (by rw [← hq_]; exact below_drewN HB.out _)
        clear hq_ Kn Ln cn0 fn0 cn1 fn1 cn2 fn2 cn3 fn3 cn4 fn4 cn5 fn5 Ka La ca0 fa0 ca1 fa1 ca2 fa2 HB Z; have HB := Asd.mk h_; clear h_; have Z : w.heap.size ≤ w4.heap.size := HB.out.size
        have Kn := Asd.mk k_n; have Ln := k_n.lt; have cn0 := k_n.cell 0 rfl; have fn0 := k_n.frozen 0; have cn1 := k_n.cell 1 rfl; have fn1 := k_n.frozen 1; have cn2 := k_n.cell 2 rfl; have fn2 := k_n.frozen 2; have cn3 := k_n.cell 3 rfl; have fn3 := k_n.frozen 3; have cn4 := k_n.cell 4 rfl; have fn4 := k_n.frozen 4; have cn5 := k_n.cell 5 rfl; have fn5 := k_n.frozen 5; clear k_n
        have Ka := Asd.mk k_a; have La := k_a.lt; have ca0 := k_a.cell 0 rfl; have fa0 := k_a.frozen 0; have ca1 := k_a.cell 1 rfl; have fa1 := k_a.frozen 1; have ca2 := k_a.cell 2 rfl; have fa2 := k_a.frozen 2; clear k_a
        go_wp2_with fail
        skip
        have t1 : decide (E0 - E1 < -1) = false := decide_eq_false (by omega); have t2 : decide (1 < E0 - E1) = false := decide_eq_false (by omega); have t3 : decide (E1 < A1) = false := decide_eq_false (by omega); have t4 : decide (A1 + 1 < E1) = false := decide_eq_false (by omega); have t5 : decide (Q1 < P1) = false := decide_eq_false (by omega)
        go_quiet (fail)
        generalize hq_ : World.drewN w4 _ = w5
        have k_n : Blk w5 (w1.heap.size) #[.int .i64 E0, .int .i64 F0, .int .i64 Q0, .int .i64 E1, .int .i64 F1, .int .i64 Q1] 27 := (by rw [← hq_]; exact Kn.out.drewN _)
        have k_a : Blk w5 (wr.heap.size + 1) #[.int .i64 A1, .int .i64 B1, .int .i64 P1] 27 := (by rw [← hq_]; exact Ka.out.drewN _)
        have h_ : Below w.heap.size w w5 := (by rw [← hq_]; exact below_drewN HB.out _)
        clear hq_ Kn Ln cn0 fn0 cn1 fn1 cn2 fn2 cn3 fn3 cn4 fn4 cn5 fn5 Ka La ca0 fa0 ca1 fa1 ca2 fa2 HB Z; have HB := Asd.mk h_; clear h_; have Z : w.heap.size ≤ w5.heap.size := HB.out.size
        have Kn := Asd.mk k_n; have Ln := k_n.lt; have cn0 := k_n.cell 0 rfl; have fn0 := k_n.frozen 0; have cn1 := k_n.cell 1 rfl; have fn1 := k_n.frozen 1; have cn2 := k_n.cell 2 rfl; have fn2 := k_n.frozen 2; have cn3 := k_n.cell 3 rfl; have fn3 := k_n.frozen 3; have cn4 := k_n.cell 4 rfl; have fn4 := k_n.frozen 4; have cn5 := k_n.cell 5 rfl; have fn5 := k_n.frozen 5; clear k_n
        have Ka := Asd.mk k_a; have La := k_a.lt; have ca0 := k_a.cell 0 rfl; have fa0 := k_a.frozen 0; have ca1 := k_a.cell 1 rfl; have fa1 := k_a.frozen 1; have ca2 := k_a.cell 2 rfl; have fa2 := k_a.frozen 2; clear k_a
        clear t1 t2 t3 t4 t5
        go_wp2_with fail
        by_cases he : E0 = E1
        ·
         have hee : (E0 == E1) = true := beq_iff_eq.2 he
         have HE := Asd.mk he; clear he
         have hJ := Asd.mk (judge_old (e := E1) (b := F1) (p := Q1) (n := 1) (t := true) (by omega) (by omega) (by omega) (by omega) (by omega) (by omega) (by decide))
         cases hw0 : writesB E0 F0 Q0 0
         ·
          have h0 := Asd.mk hw0; clear hw0
          as_aux_lemma =>
           have k_n := Kn.out.drew
           have k_a := Ka.out.drew
           have h_ := below_drew HB.out
           refine start_ (n := 21) (S := fun w' => w'.cell? ⟨w1.heap.size, 0, none⟩ = some (.int .i64 E0) ∧ w'.cell? ⟨w1.heap.size, 1, none⟩ = some (.int .i64 F0) ∧ w'.cell? ⟨w1.heap.size, 2, none⟩ = some (.int .i64 Q0) ∧ w'.cell? ⟨w1.heap.size, 3, none⟩ = some (.int .i64 E1) ∧ w'.cell? ⟨w1.heap.size, 4, none⟩ = some (.int .i64 F1) ∧ w'.cell? ⟨w1.heap.size, 5, none⟩ = some (.int .i64 Q1) ∧ w'.cell? ⟨wr.heap.size + 1, 0, none⟩ = some (.int .i64 A1) ∧ w'.cell? ⟨wr.heap.size + 1, 1, none⟩ = some (.int .i64 B1) ∧ w'.cell? ⟨wr.heap.size + 1, 2, none⟩ = some (.int .i64 P1)) (ds := []) X34 (by kernel_rfl) rfl rfl ⟨k_n.cell 0 rfl, k_n.cell 1 rfl, k_n.cell 2 rfl, k_n.cell 3 rfl, k_n.cell 4 rfl, k_n.cell 5 rfl, k_a.cell 0 rfl, k_a.cell 1 rfl, k_a.cell 2 rfl⟩ (fun hHeld => ?_); refine with_tabW one25tab one25bits (fun HT_ HW_ => ?_)
           clear HB Kn Ka
           generalize w5.drew = w6 at k_n k_a h_ hHeld ⊢
           have HB := Asd.mk h_; clear h_; have Kn := Asd.mk k_n; clear k_n; have Ka := Asd.mk k_a; clear k_a
           clear Ln La cn0 fn0 cn1 fn1 cn2 fn2 cn3 fn3 cn4 fn4 cn5 fn5 ca0 fa0 ca1 fa1 ca2 fa2
           refine pure_ (i := 0) (N := some 155) (v := ?_) (a' := ?_) X35 rfl rfl (any_of HT_.out (by kernel_rfl)) (fun _ _ _ h => h) (Or.inl ⟨by rfl, ?_⟩) ?_ ?_
           rotate_left
           ·
            intro w'
            go_simp
            with_reducible rfl
           rotate_left
           ·
            simp only [Act.put, List.setIfInBounds_toArray, List.set_cons_zero, List.set_cons_succ, i64_w, i32_w]
            rfl
           refine pure_ (i := 1) (N := some 156) (v := ?_) (a' := ?_) X36 rfl rfl (any_of HT_.out (by kernel_rfl)) (fun _ _ _ h => h) (Or.inl ⟨by rfl, ?_⟩) ?_ ?_
           rotate_left
           ·
            intro w'
            go_simp
            with_reducible rfl
           rotate_left
           ·
            simp only [Act.put, List.setIfInBounds_toArray, List.set_cons_zero, List.set_cons_succ, i64_w, i32_w]
            rfl
           refine pure_ (i := 2) (N := some 157) (v := ?_) (a' := ?_) X37 rfl rfl (any_of HT_.out (by kernel_rfl)) (fun _ _ _ h => h) (Or.inl ⟨by rfl, ?_⟩) ?_ ?_
           rotate_left
           ·
            intro w'
            go_simp
            with_reducible rfl
           rotate_left
           ·
            simp only [Act.put, List.setIfInBounds_toArray, List.set_cons_zero, List.set_cons_succ, i64_w, i32_w]
            rfl
           refine pure_ (i := 4) (N := some 159) (v := ?_) (a' := ?_) X38 rfl rfl (any_of HT_.out (by kernel_rfl)) (fun _ _ _ h => h) (Or.inl ⟨by rfl, ?_⟩) ?_ ?_
           rotate_left
           ·
            intro w'
            go_simp
            with_reducible rfl
           rotate_left
           ·
            simp only [Act.put, List.setIfInBounds_toArray, List.set_cons_zero, List.set_cons_succ, i64_w, i32_w]
            rfl
           refine pure_ (i := 5) (N := some 160) (v := ?_) (a' := ?_) X39 rfl rfl (any_of HT_.out (by kernel_rfl)) (fun _ _ _ h => h) (Or.inl ⟨by rfl, ?_⟩) ?_ ?_
           rotate_left
           ·
            intro w'
            go_simp
            with_reducible rfl
           rotate_left
           ·
            simp only [Act.put, List.setIfInBounds_toArray, List.set_cons_zero, List.set_cons_succ, i64_w, i32_w]
            rfl
           refine pure_ (i := 6) (N := some 161) (v := ?_) (a' := ?_) X40 rfl rfl (any_of HT_.out (by kernel_rfl)) (fun _ _ _ h => h) (Or.inl ⟨by rfl, ?_⟩) ?_ ?_
           rotate_left
           ·
            intro w'
            go_simp
            with_reducible rfl
           rotate_left
           ·
            simp only [Act.put, List.setIfInBounds_toArray, List.set_cons_zero, List.set_cons_succ, i64_w, i32_w]
            rfl
           refine take_ (i := 3) (N := some 158) (v := ?_) (a' := ?_) X41 rfl rfl (take_ofW HT_.out HW_.out (by kernel_rfl)) (fun _ _ _ h => h) (Or.inl ⟨by rfl, ?_⟩) hHeld ?_ ?_
           rotate_left
           ·
            rintro w' ⟨s0, s1, s2, s3, s4, s5, s6, s7, s8⟩
            go_simp
            with_reducible rfl
           rotate_left
           ·
            simp only [Act.put, List.setIfInBounds_toArray, List.set_cons_zero, List.set_cons_succ, i64_w, i32_w]
            rfl
           refine take_ (i := 7) (N := some 162) (v := ?_) (a' := ?_) X42 rfl rfl (take_ofW HT_.out HW_.out (by kernel_rfl)) (fun _ _ _ h => h) (Or.inl ⟨by rfl, ?_⟩) hHeld ?_ ?_
           rotate_left
           ·
            rintro w' ⟨s0, s1, s2, s3, s4, s5, s6, s7, s8⟩
            go_simp
            with_reducible rfl
           rotate_left
           ·
            simp only [Act.put, List.setIfInBounds_toArray, List.set_cons_zero, List.set_cons_succ, i64_w, i32_w]
            rfl
           refine pure_ (i := 8) (N := some 163) (v := ?_) (a' := ?_) X43 rfl rfl (any_of HT_.out (by kernel_rfl)) (fun _ _ _ h => h) (Or.inl ⟨by rfl, ?_⟩) ?_ ?_
           rotate_left
           ·
            intro w'
            go_simp
            with_reducible rfl
           rotate_left
           ·
            simp only [Act.put, List.setIfInBounds_toArray, List.set_cons_zero, List.set_cons_succ, i64_w, i32_w]
            rfl
           refine pure_ (i := 9) (N := some 164) (v := ?_) (a' := ?_) X44 rfl rfl (any_of HT_.out (by kernel_rfl)) (fun _ _ _ h => h) (Or.inl ⟨by rfl, ?_⟩) ?_ ?_
           rotate_left
           ·
            intro w'
            go_simp
            with_reducible rfl
           rotate_left
           ·
            simp only [Act.put, List.setIfInBounds_toArray, List.set_cons_zero, List.set_cons_succ, i64_w, i32_w]
            rfl
           refine pure_ (i := 10) (N := some 165) (v := ?_) (a' := ?_) X45 rfl rfl (any_of HT_.out (by kernel_rfl)) (fun _ _ _ h => h) (Or.inl ⟨by rfl, ?_⟩) ?_ ?_
           rotate_left
           ·
            intro w'
            go_simp
            with_reducible rfl
           rotate_left
           ·
            simp only [Act.put, List.setIfInBounds_toArray, List.set_cons_zero, List.set_cons_succ, i64_w, i32_w]
            rfl
           refine pure_ (i := 11) (N := some 166) (v := ?_) (a' := ?_) X46 rfl rfl (any_of HT_.out (by kernel_rfl)) (fun _ _ _ h => h) (Or.inl ⟨by rfl, ?_⟩) ?_ ?_
           rotate_left
           ·
            intro w'
            go_simp
            with_reducible rfl
           rotate_left
           ·
            simp only [Act.put, List.setIfInBounds_toArray, List.set_cons_zero, List.set_cons_succ, i64_w, i32_w]
            rfl
           refine take_ (i := 12) (N := some 167) (v := ?_) (a' := ?_) X47 rfl rfl (take_ofW HT_.out HW_.out (by kernel_rfl)) (fun _ _ _ h => h) (Or.inl ⟨by rfl, ?_⟩) hHeld ?_ ?_
           rotate_left
           ·
            rintro w' ⟨s0, s1, s2, s3, s4, s5, s6, s7, s8⟩
            go_simp
            with_reducible rfl
           rotate_left
           ·
            simp only [Act.put, List.setIfInBounds_toArray, List.set_cons_zero, List.set_cons_succ, i64_w, i32_w]
            rfl
           refine one_ (i := 13) (N := some 168) X48 rfl rfl (one_of HT_.out (by kernel_rfl)) (by decide) (fun K hK => ?_)
           refine goes_ Try.func14 (by kernel_rfl) rfl #[.agg #[.int .i64 E0, .int .i64 F0, .int .i64 Q0], .int .i64 0] (by rfl) rfl rfl (by (try simp only [List.map_toArray, List.map_cons, List.map_nil]); first | done | rfl | (simp only [List.length_drop, List.length_take]; rfl)) ?_
           with_reducible refine (writes_at (e := E0) (b := F0) (p := Q0) (n := 0) (r := false) h0.out _).mono ?_
           rintro en w7 ⟨rfl, hb7⟩
           refine ⟨_, rfl, ?_⟩
           have k_n := Kn.out.below hb7
           have k_a := Ka.out.below hb7
           have h_ := below_step HB.out hb7
           clear HB hb7 Kn Ka; have HB := Asd.mk h_; clear h_; have Kn := Asd.mk k_n; clear k_n; have Ka := Asd.mk k_a; clear k_a
           refine hK.out _ _ ⟨Kn.out.cell 0 rfl, Kn.out.cell 1 rfl, Kn.out.cell 2 rfl, Kn.out.cell 3 rfl, Kn.out.cell 4 rfl, Kn.out.cell 5 rfl, Ka.out.cell 0 rfl, Ka.out.cell 1 rfl, Ka.out.cell 2 rfl⟩ (fun hHeld => ?_)
           clear hK K
           refine norm_ (a' := ?_) ?_ ?_
           rotate_left
           ·
            (try show Act.put _ (some 168) _ = _)
            first | rfl | (simp only [Act.put, List.setIfInBounds_toArray, List.set_cons_zero, List.set_cons_succ, i64_w, i32_w]; rfl)
           refine pure_ (i := 14) (N := some 169) (v := ?_) (a' := ?_) X49 rfl rfl (any_of HT_.out (by kernel_rfl)) (fun _ _ _ h => h) (Or.inl ⟨by rfl, ?_⟩) ?_ ?_
           rotate_left
           ·
            intro w'
            go_simp
            with_reducible rfl
           rotate_left
           ·
            simp only [Act.put, List.setIfInBounds_toArray, List.set_cons_zero, List.set_cons_succ, i64_w, i32_w]
            rfl
           refine pure_ (i := 15) (N := some 170) (v := ?_) (a' := ?_) X50 rfl rfl (any_of HT_.out (by kernel_rfl)) (fun _ _ _ h => h) (Or.inl ⟨by rfl, ?_⟩) ?_ ?_
           rotate_left
           ·
            intro w'
            go_simp
            with_reducible rfl
           rotate_left
           ·
            simp only [Act.put, List.setIfInBounds_toArray, List.set_cons_zero, List.set_cons_succ, i64_w, i32_w]
            rfl
           refine pure_ (i := 16) (N := some 171) (v := undef) (a' := ?_) X51 rfl rfl (any_of HT_.out (by kernel_rfl)) (fun _ _ _ h => h) (Or.inr ⟨by rfl, rfl⟩) ?_ ?_
           rotate_left
           ·
            simp only [Act.put, List.setIfInBounds_toArray, List.set_cons_zero, List.set_cons_succ, i64_w, i32_w]
            rfl
           refine pure_ (i := 17) (N := some 172) (v := undef) (a' := ?_) X52 rfl rfl (any_of HT_.out (by kernel_rfl)) (fun _ _ _ h => h) (Or.inr ⟨by rfl, rfl⟩) ?_ ?_
           rotate_left
           ·
            simp only [Act.put, List.setIfInBounds_toArray, List.set_cons_zero, List.set_cons_succ, i64_w, i32_w]
            rfl
           refine pure_ (i := 18) (N := some 173) (v := undef) (a' := ?_) X53 rfl rfl (any_of HT_.out (by kernel_rfl)) (fun _ _ _ h => h) (Or.inr ⟨by rfl, rfl⟩) ?_ ?_
           rotate_left
           ·
            simp only [Act.put, List.setIfInBounds_toArray, List.set_cons_zero, List.set_cons_succ, i64_w, i32_w]
            rfl
           refine pure_ (i := 19) (N := some 174) (v := undef) (a' := ?_) X54 rfl rfl (any_of HT_.out (by kernel_rfl)) (fun _ _ _ h => h) (Or.inr ⟨by rfl, rfl⟩) ?_ ?_
           rotate_left
           ·
            simp only [Act.put, List.setIfInBounds_toArray, List.set_cons_zero, List.set_cons_succ, i64_w, i32_w]
            rfl
           refine pure_ (i := 20) (N := some 175) (v := ?_) (a' := ?_) X55 rfl rfl (any_of HT_.out (by kernel_rfl)) (fun _ _ _ h => h) (Or.inl ⟨by rfl, ?_⟩) ?_ ?_
           rotate_left
           ·
            intro w'
            go_simp
            with_reducible rfl
           rotate_left
           ·
            simp only [Act.put, List.setIfInBounds_toArray, List.set_cons_zero, List.set_cons_succ, i64_w, i32_w]
            rfl
           refine done_ (done_of HT_.out (by kernel_rfl)) ?_
           have Z : w.heap.size ≤ w7.heap.size := HB.out.size
           have Ln := Kn.out.lt; have cn0 := Kn.out.cell 0 rfl; have fn0 := Kn.out.frozen 0; have cn1 := Kn.out.cell 1 rfl; have fn1 := Kn.out.frozen 1; have cn2 := Kn.out.cell 2 rfl; have fn2 := Kn.out.frozen 2; have cn3 := Kn.out.cell 3 rfl; have fn3 := Kn.out.frozen 3; have cn4 := Kn.out.cell 4 rfl; have fn4 := Kn.out.frozen 4; have cn5 := Kn.out.cell 5 rfl; have fn5 := Kn.out.frozen 5
           have La := Ka.out.lt; have ca0 := Ka.out.cell 0 rfl; have fa0 := Ka.out.frozen 0; have ca1 := Ka.out.cell 1 rfl; have fa1 := Ka.out.frozen 1; have ca2 := Ka.out.cell 2 rfl; have fa2 := Ka.out.frozen 2
           go_wp2_with fail
           go_region_held3 (fun w' => Below w.heap.size w w' ∧ Blk w' (w1.heap.size) #[.int .i64 E0, .int .i64 F0, .int .i64 Q0, .int .i64 E1, .int .i64 F1, .int .i64 Q1] 27 ∧ Blk w' (wr.heap.size + 1) #[.int .i64 A1, .int .i64 B1, .int .i64 P1] 27 ∧ w'.cell? ⟨w1.heap.size, 0, none⟩ = some (.int .i64 E0) ∧ w'.cell? ⟨w1.heap.size, 1, none⟩ = some (.int .i64 F0) ∧ w'.cell? ⟨w1.heap.size, 2, none⟩ = some (.int .i64 Q0) ∧ w'.cell? ⟨w1.heap.size, 3, none⟩ = some (.int .i64 E1) ∧ w'.cell? ⟨w1.heap.size, 4, none⟩ = some (.int .i64 F1) ∧ w'.cell? ⟨w1.heap.size, 5, none⟩ = some (.int .i64 Q1) ∧ w'.cell? ⟨wr.heap.size + 1, 0, none⟩ = some (.int .i64 A1) ∧ w'.cell? ⟨wr.heap.size + 1, 1, none⟩ = some (.int .i64 B1) ∧ w'.cell? ⟨wr.heap.size + 1, 2, none⟩ = some (.int .i64 P1)) (first | exact ⟨below_drew HB.out, Kn.out.drew, Ka.out.drew, Kn.out.drew.cell 0 rfl, Kn.out.drew.cell 1 rfl, Kn.out.drew.cell 2 rfl, Kn.out.drew.cell 3 rfl, Kn.out.drew.cell 4 rfl, Kn.out.drew.cell 5 rfl, Ka.out.drew.cell 0 rfl, Ka.out.drew.cell 1 rfl, Ka.out.drew.cell 2 rfl⟩ | (have hh := ‹Below w.heap.size w _ ∧ _›; exact ⟨below_step hh.1 hb, hh.2.1.below hb, hh.2.2.1.below hb, (hh.2.1.below hb).cell 0 rfl, (hh.2.1.below hb).cell 1 rfl, (hh.2.1.below hb).cell 2 rfl, (hh.2.1.below hb).cell 3 rfl, (hh.2.1.below hb).cell 4 rfl, (hh.2.1.below hb).cell 5 rfl, (hh.2.2.1.below hb).cell 0 rfl, (hh.2.2.1.below hb).cell 1 rfl, (hh.2.2.1.below hb).cell 2 rfl⟩) | exact ‹Below w.heap.size w _ ∧ _›) (first | (go_at_call 16; refine (judge_at (e := E1) (b := F1) (p := Q1) (n := 1) (x := Q1 - 1) (t := true) (r := 3) hJ.out _).mono ?_; rintro en w41 ⟨rfl, hb⟩))
           obtain ⟨h_, k_n, k_a, _⟩ := ‹Below w.heap.size w w41 ∧ _›
           clear Kn Ln cn0 fn0 cn1 fn1 cn2 fn2 cn3 fn3 cn4 fn4 cn5 fn5 Ka La ca0 fa0 ca1 fa1 ca2 fa2 HB Z; have HB := Asd.mk h_; clear h_; have Z : w.heap.size ≤ w41.heap.size := HB.out.size
           have Kn := Asd.mk k_n; have Ln := k_n.lt; have cn0 := k_n.cell 0 rfl; have fn0 := k_n.frozen 0; have cn1 := k_n.cell 1 rfl; have fn1 := k_n.frozen 1; have cn2 := k_n.cell 2 rfl; have fn2 := k_n.frozen 2; have cn3 := k_n.cell 3 rfl; have fn3 := k_n.frozen 3; have cn4 := k_n.cell 4 rfl; have fn4 := k_n.frozen 4; have cn5 := k_n.cell 5 rfl; have fn5 := k_n.frozen 5; clear k_n
           have Ka := Asd.mk k_a; have La := k_a.lt; have ca0 := k_a.cell 0 rfl; have fa0 := k_a.frozen 0; have ca1 := k_a.cell 1 rfl; have fa1 := k_a.frozen 1; have ca2 := k_a.cell 2 rfl; have fa2 := k_a.frozen 2; clear k_a
           go_wp2
           go_roundg (gk - 1)
           case measure => have := R2.out; omega
           case rel => exact ⟨k + 1, E0, F0, Q0, E1, F1, Q1, by go_num, by omega, (by have := R2.out; omega), M1.out, Kn.out, HB.out⟩
         ·
          have h0 := Asd.mk hw0; have h1 := Asd.mk (writes_one HE.out hw0 (b := F1) (p := Q1)); clear hw0
          as_aux_lemma =>
           have k_n := Kn.out.drew
           have k_a := Ka.out.drew
           have h_ := below_drew HB.out
           refine start_ (n := 21) (S := fun w' => w'.cell? ⟨w1.heap.size, 0, none⟩ = some (.int .i64 E0) ∧ w'.cell? ⟨w1.heap.size, 1, none⟩ = some (.int .i64 F0) ∧ w'.cell? ⟨w1.heap.size, 2, none⟩ = some (.int .i64 Q0) ∧ w'.cell? ⟨w1.heap.size, 3, none⟩ = some (.int .i64 E1) ∧ w'.cell? ⟨w1.heap.size, 4, none⟩ = some (.int .i64 F1) ∧ w'.cell? ⟨w1.heap.size, 5, none⟩ = some (.int .i64 Q1) ∧ w'.cell? ⟨wr.heap.size + 1, 0, none⟩ = some (.int .i64 A1) ∧ w'.cell? ⟨wr.heap.size + 1, 1, none⟩ = some (.int .i64 B1) ∧ w'.cell? ⟨wr.heap.size + 1, 2, none⟩ = some (.int .i64 P1)) (ds := []) X34 (by kernel_rfl) rfl rfl ⟨k_n.cell 0 rfl, k_n.cell 1 rfl, k_n.cell 2 rfl, k_n.cell 3 rfl, k_n.cell 4 rfl, k_n.cell 5 rfl, k_a.cell 0 rfl, k_a.cell 1 rfl, k_a.cell 2 rfl⟩ (fun hHeld => ?_); refine with_tabW one25tab one25bits (fun HT_ HW_ => ?_)
           clear HB Kn Ka
           generalize w5.drew = w6 at k_n k_a h_ hHeld ⊢
           have HB := Asd.mk h_; clear h_; have Kn := Asd.mk k_n; clear k_n; have Ka := Asd.mk k_a; clear k_a
           clear Ln La cn0 fn0 cn1 fn1 cn2 fn2 cn3 fn3 cn4 fn4 cn5 fn5 ca0 fa0 ca1 fa1 ca2 fa2
           refine pure_ (i := 0) (N := some 155) (v := ?_) (a' := ?_) X35 rfl rfl (any_of HT_.out (by kernel_rfl)) (fun _ _ _ h => h) (Or.inl ⟨by rfl, ?_⟩) ?_ ?_
           rotate_left
           ·
            intro w'
            go_simp
            with_reducible rfl
           rotate_left
           ·
            simp only [Act.put, List.setIfInBounds_toArray, List.set_cons_zero, List.set_cons_succ, i64_w, i32_w]
            rfl
           refine pure_ (i := 1) (N := some 156) (v := ?_) (a' := ?_) X36 rfl rfl (any_of HT_.out (by kernel_rfl)) (fun _ _ _ h => h) (Or.inl ⟨by rfl, ?_⟩) ?_ ?_
           rotate_left
           ·
            intro w'
            go_simp
            with_reducible rfl
           rotate_left
           ·
            simp only [Act.put, List.setIfInBounds_toArray, List.set_cons_zero, List.set_cons_succ, i64_w, i32_w]
            rfl
           refine pure_ (i := 2) (N := some 157) (v := ?_) (a' := ?_) X37 rfl rfl (any_of HT_.out (by kernel_rfl)) (fun _ _ _ h => h) (Or.inl ⟨by rfl, ?_⟩) ?_ ?_
           rotate_left
           ·
            intro w'
            go_simp
            with_reducible rfl
           rotate_left
           ·
            simp only [Act.put, List.setIfInBounds_toArray, List.set_cons_zero, List.set_cons_succ, i64_w, i32_w]
            rfl
           refine pure_ (i := 4) (N := some 159) (v := ?_) (a' := ?_) X38 rfl rfl (any_of HT_.out (by kernel_rfl)) (fun _ _ _ h => h) (Or.inl ⟨by rfl, ?_⟩) ?_ ?_
           rotate_left
           ·
            intro w'
            go_simp
            with_reducible rfl
           rotate_left
           ·
            simp only [Act.put, List.setIfInBounds_toArray, List.set_cons_zero, List.set_cons_succ, i64_w, i32_w]
            rfl
           refine pure_ (i := 5) (N := some 160) (v := ?_) (a' := ?_) X39 rfl rfl (any_of HT_.out (by kernel_rfl)) (fun _ _ _ h => h) (Or.inl ⟨by rfl, ?_⟩) ?_ ?_
           rotate_left
           ·
            intro w'
            go_simp
            with_reducible rfl
           rotate_left
           ·
            simp only [Act.put, List.setIfInBounds_toArray, List.set_cons_zero, List.set_cons_succ, i64_w, i32_w]
            rfl
           refine pure_ (i := 6) (N := some 161) (v := ?_) (a' := ?_) X40 rfl rfl (any_of HT_.out (by kernel_rfl)) (fun _ _ _ h => h) (Or.inl ⟨by rfl, ?_⟩) ?_ ?_
           rotate_left
           ·
            intro w'
            go_simp
            with_reducible rfl
           rotate_left
           ·
            simp only [Act.put, List.setIfInBounds_toArray, List.set_cons_zero, List.set_cons_succ, i64_w, i32_w]
            rfl
           refine take_ (i := 3) (N := some 158) (v := ?_) (a' := ?_) X41 rfl rfl (take_ofW HT_.out HW_.out (by kernel_rfl)) (fun _ _ _ h => h) (Or.inl ⟨by rfl, ?_⟩) hHeld ?_ ?_
           rotate_left
           ·
            rintro w' ⟨s0, s1, s2, s3, s4, s5, s6, s7, s8⟩
            go_simp
            with_reducible rfl
           rotate_left
           ·
            simp only [Act.put, List.setIfInBounds_toArray, List.set_cons_zero, List.set_cons_succ, i64_w, i32_w]
            rfl
           refine take_ (i := 7) (N := some 162) (v := ?_) (a' := ?_) X42 rfl rfl (take_ofW HT_.out HW_.out (by kernel_rfl)) (fun _ _ _ h => h) (Or.inl ⟨by rfl, ?_⟩) hHeld ?_ ?_
           rotate_left
           ·
            rintro w' ⟨s0, s1, s2, s3, s4, s5, s6, s7, s8⟩
            go_simp
            with_reducible rfl
           rotate_left
           ·
            simp only [Act.put, List.setIfInBounds_toArray, List.set_cons_zero, List.set_cons_succ, i64_w, i32_w]
            rfl
           refine pure_ (i := 8) (N := some 163) (v := ?_) (a' := ?_) X43 rfl rfl (any_of HT_.out (by kernel_rfl)) (fun _ _ _ h => h) (Or.inl ⟨by rfl, ?_⟩) ?_ ?_
           rotate_left
           ·
            intro w'
            go_simp
            with_reducible rfl
           rotate_left
           ·
            simp only [Act.put, List.setIfInBounds_toArray, List.set_cons_zero, List.set_cons_succ, i64_w, i32_w]
            rfl
           refine pure_ (i := 9) (N := some 164) (v := ?_) (a' := ?_) X44 rfl rfl (any_of HT_.out (by kernel_rfl)) (fun _ _ _ h => h) (Or.inl ⟨by rfl, ?_⟩) ?_ ?_
           rotate_left
           ·
            intro w'
            go_simp
            with_reducible rfl
           rotate_left
           ·
            simp only [Act.put, List.setIfInBounds_toArray, List.set_cons_zero, List.set_cons_succ, i64_w, i32_w]
            rfl
           refine pure_ (i := 10) (N := some 165) (v := ?_) (a' := ?_) X45 rfl rfl (any_of HT_.out (by kernel_rfl)) (fun _ _ _ h => h) (Or.inl ⟨by rfl, ?_⟩) ?_ ?_
           rotate_left
           ·
            intro w'
            go_simp
            with_reducible rfl
           rotate_left
           ·
            simp only [Act.put, List.setIfInBounds_toArray, List.set_cons_zero, List.set_cons_succ, i64_w, i32_w]
            rfl
           refine pure_ (i := 11) (N := some 166) (v := ?_) (a' := ?_) X46 rfl rfl (any_of HT_.out (by kernel_rfl)) (fun _ _ _ h => h) (Or.inl ⟨by rfl, ?_⟩) ?_ ?_
           rotate_left
           ·
            intro w'
            go_simp
            with_reducible rfl
           rotate_left
           ·
            simp only [Act.put, List.setIfInBounds_toArray, List.set_cons_zero, List.set_cons_succ, i64_w, i32_w]
            rfl
           refine take_ (i := 12) (N := some 167) (v := ?_) (a' := ?_) X47 rfl rfl (take_ofW HT_.out HW_.out (by kernel_rfl)) (fun _ _ _ h => h) (Or.inl ⟨by rfl, ?_⟩) hHeld ?_ ?_
           rotate_left
           ·
            rintro w' ⟨s0, s1, s2, s3, s4, s5, s6, s7, s8⟩
            go_simp
            with_reducible rfl
           rotate_left
           ·
            simp only [Act.put, List.setIfInBounds_toArray, List.set_cons_zero, List.set_cons_succ, i64_w, i32_w]
            rfl
           refine one_ (i := 13) (N := some 168) X48 rfl rfl (one_of HT_.out (by kernel_rfl)) (by decide) (fun K hK => ?_)
           refine goes_ Try.func14 (by kernel_rfl) rfl #[.agg #[.int .i64 E0, .int .i64 F0, .int .i64 Q0], .int .i64 0] (by rfl) rfl rfl (by (try simp only [List.map_toArray, List.map_cons, List.map_nil]); first | done | rfl | (simp only [List.length_drop, List.length_take]; rfl)) ?_
           with_reducible refine (writes_at (e := E0) (b := F0) (p := Q0) (n := 0) (r := true) h0.out _).mono ?_
           rintro en w7 ⟨rfl, hb7⟩
           refine ⟨_, rfl, ?_⟩
           have k_n := Kn.out.below hb7
           have k_a := Ka.out.below hb7
           have h_ := below_step HB.out hb7
           clear HB hb7 Kn Ka; have HB := Asd.mk h_; clear h_; have Kn := Asd.mk k_n; clear k_n; have Ka := Asd.mk k_a; clear k_a
           refine hK.out _ _ ⟨Kn.out.cell 0 rfl, Kn.out.cell 1 rfl, Kn.out.cell 2 rfl, Kn.out.cell 3 rfl, Kn.out.cell 4 rfl, Kn.out.cell 5 rfl, Ka.out.cell 0 rfl, Ka.out.cell 1 rfl, Ka.out.cell 2 rfl⟩ (fun hHeld => ?_)
           clear hK K
           refine norm_ (a' := ?_) ?_ ?_
           rotate_left
           ·
            (try show Act.put _ (some 168) _ = _)
            first | rfl | (simp only [Act.put, List.setIfInBounds_toArray, List.set_cons_zero, List.set_cons_succ, i64_w, i32_w]; rfl)
           refine pure_ (i := 14) (N := some 169) (v := ?_) (a' := ?_) X49 rfl rfl (any_of HT_.out (by kernel_rfl)) (fun _ _ _ h => h) (Or.inl ⟨by rfl, ?_⟩) ?_ ?_
           rotate_left
           ·
            intro w'
            go_simp
            with_reducible rfl
           rotate_left
           ·
            simp only [Act.put, List.setIfInBounds_toArray, List.set_cons_zero, List.set_cons_succ, i64_w, i32_w]
            rfl
           refine pure_ (i := 15) (N := some 170) (v := ?_) (a' := ?_) X50 rfl rfl (any_of HT_.out (by kernel_rfl)) (fun _ _ _ h => h) (Or.inl ⟨by rfl, ?_⟩) ?_ ?_
           rotate_left
           ·
            intro w'
            go_simp
            with_reducible rfl
           rotate_left
           ·
            simp only [Act.put, List.setIfInBounds_toArray, List.set_cons_zero, List.set_cons_succ, i64_w, i32_w]
            rfl
           refine pure_ (i := 16) (N := some 171) (v := ?_) (a' := ?_) X51 rfl rfl (any_of HT_.out (by kernel_rfl)) (fun _ _ _ h => h) (Or.inl ⟨by rfl, ?_⟩) ?_ ?_
           rotate_left
           ·
            intro w'
            go_simp
            with_reducible rfl
           rotate_left
           ·
            simp only [Act.put, List.setIfInBounds_toArray, List.set_cons_zero, List.set_cons_succ, i64_w, i32_w]
            rfl
           refine pure_ (i := 17) (N := some 172) (v := ?_) (a' := ?_) X52 rfl rfl (any_of HT_.out (by kernel_rfl)) (fun _ _ _ h => h) (Or.inl ⟨by rfl, ?_⟩) ?_ ?_
           rotate_left
           ·
            intro w'
            go_simp
            with_reducible rfl
           rotate_left
           ·
            simp only [Act.put, List.setIfInBounds_toArray, List.set_cons_zero, List.set_cons_succ, i64_w, i32_w]
            rfl
           refine take_ (i := 18) (N := some 173) (v := ?_) (a' := ?_) X53 rfl rfl (take_ofW HT_.out HW_.out (by kernel_rfl)) (fun _ _ _ h => h) (Or.inl ⟨by rfl, ?_⟩) hHeld ?_ ?_
           rotate_left
           ·
            rintro w' ⟨s0, s1, s2, s3, s4, s5, s6, s7, s8⟩
            go_simp
            with_reducible rfl
           rotate_left
           ·
            simp only [Act.put, List.setIfInBounds_toArray, List.set_cons_zero, List.set_cons_succ, i64_w, i32_w]
            rfl
           refine one_ (i := 19) (N := some 174) X54 rfl rfl (one_of HT_.out (by kernel_rfl)) (by decide) (fun K hK => ?_)
           refine goes_ Try.func14 (by kernel_rfl) rfl #[.agg #[.int .i64 E1, .int .i64 F1, .int .i64 Q1], .int .i64 1] (by rfl) rfl rfl (by (try simp only [List.map_toArray, List.map_cons, List.map_nil]); first | done | rfl | (simp only [List.length_drop, List.length_take]; rfl)) ?_
           with_reducible refine (writes_at (e := E1) (b := F1) (p := Q1) (n := 1) (r := false) h1.out _).mono ?_
           rintro en w8 ⟨rfl, hb8⟩
           refine ⟨_, rfl, ?_⟩
           have k_n := Kn.out.below hb8
           have k_a := Ka.out.below hb8
           have h_ := below_step HB.out hb8
           clear HB hb8 Kn Ka; have HB := Asd.mk h_; clear h_; have Kn := Asd.mk k_n; clear k_n; have Ka := Asd.mk k_a; clear k_a
           refine hK.out _ _ ⟨Kn.out.cell 0 rfl, Kn.out.cell 1 rfl, Kn.out.cell 2 rfl, Kn.out.cell 3 rfl, Kn.out.cell 4 rfl, Kn.out.cell 5 rfl, Ka.out.cell 0 rfl, Ka.out.cell 1 rfl, Ka.out.cell 2 rfl⟩ (fun hHeld => ?_)
           clear hK K
           refine norm_ (a' := ?_) ?_ ?_
           rotate_left
           ·
            (try show Act.put _ (some 174) _ = _)
            first | rfl | (simp only [Act.put, List.setIfInBounds_toArray, List.set_cons_zero, List.set_cons_succ, i64_w, i32_w]; rfl)
           refine pure_ (i := 20) (N := some 175) (v := ?_) (a' := ?_) X55 rfl rfl (any_of HT_.out (by kernel_rfl)) (fun _ _ _ h => h) (Or.inl ⟨by rfl, ?_⟩) ?_ ?_
           rotate_left
           ·
            intro w'
            go_simp
            with_reducible rfl
           rotate_left
           ·
            simp only [Act.put, List.setIfInBounds_toArray, List.set_cons_zero, List.set_cons_succ, i64_w, i32_w]
            rfl
           refine done_ (done_of HT_.out (by kernel_rfl)) ?_
           have Z : w.heap.size ≤ w8.heap.size := HB.out.size
           have Ln := Kn.out.lt; have cn0 := Kn.out.cell 0 rfl; have fn0 := Kn.out.frozen 0; have cn1 := Kn.out.cell 1 rfl; have fn1 := Kn.out.frozen 1; have cn2 := Kn.out.cell 2 rfl; have fn2 := Kn.out.frozen 2; have cn3 := Kn.out.cell 3 rfl; have fn3 := Kn.out.frozen 3; have cn4 := Kn.out.cell 4 rfl; have fn4 := Kn.out.frozen 4; have cn5 := Kn.out.cell 5 rfl; have fn5 := Kn.out.frozen 5
           have La := Ka.out.lt; have ca0 := Ka.out.cell 0 rfl; have fa0 := Ka.out.frozen 0; have ca1 := Ka.out.cell 1 rfl; have fa1 := Ka.out.frozen 1; have ca2 := Ka.out.cell 2 rfl; have fa2 := Ka.out.frozen 2
           go_wp2_with fail
           go_region_held3 (fun w' => Below w.heap.size w w' ∧ Blk w' (w1.heap.size) #[.int .i64 E0, .int .i64 F0, .int .i64 Q0, .int .i64 E1, .int .i64 F1, .int .i64 Q1] 27 ∧ Blk w' (wr.heap.size + 1) #[.int .i64 A1, .int .i64 B1, .int .i64 P1] 27 ∧ w'.cell? ⟨w1.heap.size, 0, none⟩ = some (.int .i64 E0) ∧ w'.cell? ⟨w1.heap.size, 1, none⟩ = some (.int .i64 F0) ∧ w'.cell? ⟨w1.heap.size, 2, none⟩ = some (.int .i64 Q0) ∧ w'.cell? ⟨w1.heap.size, 3, none⟩ = some (.int .i64 E1) ∧ w'.cell? ⟨w1.heap.size, 4, none⟩ = some (.int .i64 F1) ∧ w'.cell? ⟨w1.heap.size, 5, none⟩ = some (.int .i64 Q1) ∧ w'.cell? ⟨wr.heap.size + 1, 0, none⟩ = some (.int .i64 A1) ∧ w'.cell? ⟨wr.heap.size + 1, 1, none⟩ = some (.int .i64 B1) ∧ w'.cell? ⟨wr.heap.size + 1, 2, none⟩ = some (.int .i64 P1)) (first | exact ⟨below_drew HB.out, Kn.out.drew, Ka.out.drew, Kn.out.drew.cell 0 rfl, Kn.out.drew.cell 1 rfl, Kn.out.drew.cell 2 rfl, Kn.out.drew.cell 3 rfl, Kn.out.drew.cell 4 rfl, Kn.out.drew.cell 5 rfl, Ka.out.drew.cell 0 rfl, Ka.out.drew.cell 1 rfl, Ka.out.drew.cell 2 rfl⟩ | (have hh := ‹Below w.heap.size w _ ∧ _›; exact ⟨below_step hh.1 hb, hh.2.1.below hb, hh.2.2.1.below hb, (hh.2.1.below hb).cell 0 rfl, (hh.2.1.below hb).cell 1 rfl, (hh.2.1.below hb).cell 2 rfl, (hh.2.1.below hb).cell 3 rfl, (hh.2.1.below hb).cell 4 rfl, (hh.2.1.below hb).cell 5 rfl, (hh.2.2.1.below hb).cell 0 rfl, (hh.2.2.1.below hb).cell 1 rfl, (hh.2.2.1.below hb).cell 2 rfl⟩) | exact ‹Below w.heap.size w _ ∧ _›) (first | (go_at_call 16; refine (judge_at (e := E1) (b := F1) (p := Q1) (n := 1) (x := Q1 - 1) (t := true) (r := 3) hJ.out _).mono ?_; rintro en w41 ⟨rfl, hb⟩))
           obtain ⟨h_, k_n, k_a, _⟩ := ‹Below w.heap.size w w41 ∧ _›
           clear Kn Ln cn0 fn0 cn1 fn1 cn2 fn2 cn3 fn3 cn4 fn4 cn5 fn5 Ka La ca0 fa0 ca1 fa1 ca2 fa2 HB Z; have HB := Asd.mk h_; clear h_; have Z : w.heap.size ≤ w41.heap.size := HB.out.size
           have Kn := Asd.mk k_n; have Ln := k_n.lt; have cn0 := k_n.cell 0 rfl; have fn0 := k_n.frozen 0; have cn1 := k_n.cell 1 rfl; have fn1 := k_n.frozen 1; have cn2 := k_n.cell 2 rfl; have fn2 := k_n.frozen 2; have cn3 := k_n.cell 3 rfl; have fn3 := k_n.frozen 3; have cn4 := k_n.cell 4 rfl; have fn4 := k_n.frozen 4; have cn5 := k_n.cell 5 rfl; have fn5 := k_n.frozen 5; clear k_n
           have Ka := Asd.mk k_a; have La := k_a.lt; have ca0 := k_a.cell 0 rfl; have fa0 := k_a.frozen 0; have ca1 := k_a.cell 1 rfl; have fa1 := k_a.frozen 1; have ca2 := k_a.cell 2 rfl; have fa2 := k_a.frozen 2; clear k_a
           go_wp2
           go_roundg (gk - 1)
           case measure => have := R2.out; omega
           case rel => exact ⟨k + 1, E0, F0, Q0, E1, F1, Q1, by go_num, by omega, (by have := R2.out; omega), M1.out, Kn.out, HB.out⟩
        ·
         have hee : (E0 == E1) = false := beq_eq_false_iff_ne.2 he
         clear he
         as_aux_lemma =>
          have hJ := Asd.mk (judge_old (e := E1) (b := F1) (p := Q1) (n := 1) (t := true) (by omega) (by omega) (by omega) (by omega) (by omega) (by omega) (by decide))
          have k_n := Kn.out.drew
          have k_a := Ka.out.drew
          have h_ := below_drew HB.out
          refine start_ (n := 21) (S := fun w' => w'.cell? ⟨w1.heap.size, 0, none⟩ = some (.int .i64 E0) ∧ w'.cell? ⟨w1.heap.size, 1, none⟩ = some (.int .i64 F0) ∧ w'.cell? ⟨w1.heap.size, 2, none⟩ = some (.int .i64 Q0) ∧ w'.cell? ⟨w1.heap.size, 3, none⟩ = some (.int .i64 E1) ∧ w'.cell? ⟨w1.heap.size, 4, none⟩ = some (.int .i64 F1) ∧ w'.cell? ⟨w1.heap.size, 5, none⟩ = some (.int .i64 Q1) ∧ w'.cell? ⟨wr.heap.size + 1, 0, none⟩ = some (.int .i64 A1) ∧ w'.cell? ⟨wr.heap.size + 1, 1, none⟩ = some (.int .i64 B1) ∧ w'.cell? ⟨wr.heap.size + 1, 2, none⟩ = some (.int .i64 P1)) (ds := []) X34 (by kernel_rfl) rfl rfl ⟨k_n.cell 0 rfl, k_n.cell 1 rfl, k_n.cell 2 rfl, k_n.cell 3 rfl, k_n.cell 4 rfl, k_n.cell 5 rfl, k_a.cell 0 rfl, k_a.cell 1 rfl, k_a.cell 2 rfl⟩ (fun hHeld => ?_); refine with_tabW one25tab one25bits (fun HT_ HW_ => ?_)
          clear HB Kn Ka
          generalize w5.drew = w6 at k_n k_a h_ hHeld ⊢
          have HB := Asd.mk h_; clear h_; have Kn := Asd.mk k_n; clear k_n; have Ka := Asd.mk k_a; clear k_a
          clear Ln La cn0 fn0 cn1 fn1 cn2 fn2 cn3 fn3 cn4 fn4 cn5 fn5 ca0 fa0 ca1 fa1 ca2 fa2
          refine pure_ (i := 0) (N := some 155) (v := ?_) (a' := ?_) X35 rfl rfl (any_of HT_.out (by kernel_rfl)) (fun _ _ _ h => h) (Or.inl ⟨by rfl, ?_⟩) ?_ ?_
          rotate_left
          ·
           intro w'
           go_simp
           with_reducible rfl
          rotate_left
          ·
           simp only [Act.put, List.setIfInBounds_toArray, List.set_cons_zero, List.set_cons_succ, i64_w, i32_w]
           rfl
          refine pure_ (i := 1) (N := some 156) (v := ?_) (a' := ?_) X36 rfl rfl (any_of HT_.out (by kernel_rfl)) (fun _ _ _ h => h) (Or.inl ⟨by rfl, ?_⟩) ?_ ?_
          rotate_left
          ·
           intro w'
           go_simp
           with_reducible rfl
          rotate_left
          ·
           simp only [Act.put, List.setIfInBounds_toArray, List.set_cons_zero, List.set_cons_succ, i64_w, i32_w]
           rfl
          refine pure_ (i := 2) (N := some 157) (v := ?_) (a' := ?_) X37 rfl rfl (any_of HT_.out (by kernel_rfl)) (fun _ _ _ h => h) (Or.inl ⟨by rfl, ?_⟩) ?_ ?_
          rotate_left
          ·
           intro w'
           go_simp
           with_reducible rfl
          rotate_left
          ·
           simp only [Act.put, List.setIfInBounds_toArray, List.set_cons_zero, List.set_cons_succ, i64_w, i32_w]
           rfl
          refine pure_ (i := 4) (N := some 159) (v := ?_) (a' := ?_) X38 rfl rfl (any_of HT_.out (by kernel_rfl)) (fun _ _ _ h => h) (Or.inl ⟨by rfl, ?_⟩) ?_ ?_
          rotate_left
          ·
           intro w'
           go_simp
           with_reducible rfl
          rotate_left
          ·
           simp only [Act.put, List.setIfInBounds_toArray, List.set_cons_zero, List.set_cons_succ, i64_w, i32_w]
           rfl
          refine pure_ (i := 5) (N := some 160) (v := ?_) (a' := ?_) X39 rfl rfl (any_of HT_.out (by kernel_rfl)) (fun _ _ _ h => h) (Or.inl ⟨by rfl, ?_⟩) ?_ ?_
          rotate_left
          ·
           intro w'
           go_simp
           with_reducible rfl
          rotate_left
          ·
           simp only [Act.put, List.setIfInBounds_toArray, List.set_cons_zero, List.set_cons_succ, i64_w, i32_w]
           rfl
          refine pure_ (i := 6) (N := some 161) (v := ?_) (a' := ?_) X40 rfl rfl (any_of HT_.out (by kernel_rfl)) (fun _ _ _ h => h) (Or.inl ⟨by rfl, ?_⟩) ?_ ?_
          rotate_left
          ·
           intro w'
           go_simp
           with_reducible rfl
          rotate_left
          ·
           simp only [Act.put, List.setIfInBounds_toArray, List.set_cons_zero, List.set_cons_succ, i64_w, i32_w]
           rfl
          refine take_ (i := 3) (N := some 158) (v := ?_) (a' := ?_) X41 rfl rfl (take_ofW HT_.out HW_.out (by kernel_rfl)) (fun _ _ _ h => h) (Or.inl ⟨by rfl, ?_⟩) hHeld ?_ ?_
          rotate_left
          ·
           rintro w' ⟨s0, s1, s2, s3, s4, s5, s6, s7, s8⟩
           go_simp
           with_reducible rfl
          rotate_left
          ·
           simp only [Act.put, List.setIfInBounds_toArray, List.set_cons_zero, List.set_cons_succ, i64_w, i32_w]
           rfl
          refine take_ (i := 7) (N := some 162) (v := ?_) (a' := ?_) X42 rfl rfl (take_ofW HT_.out HW_.out (by kernel_rfl)) (fun _ _ _ h => h) (Or.inl ⟨by rfl, ?_⟩) hHeld ?_ ?_
          rotate_left
          ·
           rintro w' ⟨s0, s1, s2, s3, s4, s5, s6, s7, s8⟩
           go_simp
           with_reducible rfl
          rotate_left
          ·
           simp only [Act.put, List.setIfInBounds_toArray, List.set_cons_zero, List.set_cons_succ, i64_w, i32_w]
           rfl
          refine pure_ (i := 8) (N := some 163) (v := ?_) (a' := ?_) X43 rfl rfl (any_of HT_.out (by kernel_rfl)) (fun _ _ _ h => h) (Or.inl ⟨by rfl, ?_⟩) ?_ ?_
          rotate_left
          ·
           intro w'
           go_simp
           with_reducible rfl
          rotate_left
          ·
           simp only [Act.put, List.setIfInBounds_toArray, List.set_cons_zero, List.set_cons_succ, i64_w, i32_w]
           rfl
          refine pure_ (i := 9) (N := some 164) (v := ?_) (a' := ?_) X44 rfl rfl (any_of HT_.out (by kernel_rfl)) (fun _ _ _ h => h) (Or.inl ⟨by rfl, ?_⟩) ?_ ?_
          rotate_left
          ·
           intro w'
           go_simp
           with_reducible rfl
          rotate_left
          ·
           simp only [Act.put, List.setIfInBounds_toArray, List.set_cons_zero, List.set_cons_succ, i64_w, i32_w]
           rfl
          refine pure_ (i := 10) (N := some 165) (v := undef) (a' := ?_) X45 rfl rfl (any_of HT_.out (by kernel_rfl)) (fun _ _ _ h => h) (Or.inr ⟨by rfl, rfl⟩) ?_ ?_
          rotate_left
          ·
           simp only [Act.put, List.setIfInBounds_toArray, List.set_cons_zero, List.set_cons_succ, i64_w, i32_w]
           rfl
          refine pure_ (i := 11) (N := some 166) (v := undef) (a' := ?_) X46 rfl rfl (any_of HT_.out (by kernel_rfl)) (fun _ _ _ h => h) (Or.inr ⟨by rfl, rfl⟩) ?_ ?_
          rotate_left
          ·
           simp only [Act.put, List.setIfInBounds_toArray, List.set_cons_zero, List.set_cons_succ, i64_w, i32_w]
           rfl
          refine pure_ (i := 12) (N := some 167) (v := undef) (a' := ?_) X47 rfl rfl (any_of HT_.out (by kernel_rfl)) (fun _ _ _ h => h) (Or.inr ⟨by rfl, rfl⟩) ?_ ?_
          rotate_left
          ·
           simp only [Act.put, List.setIfInBounds_toArray, List.set_cons_zero, List.set_cons_succ, i64_w, i32_w]
           rfl
          refine pure_ (i := 13) (N := some 168) (v := undef) (a' := ?_) X48 rfl rfl (any_of HT_.out (by kernel_rfl)) (fun _ _ _ h => h) (Or.inr ⟨by rfl, rfl⟩) ?_ ?_
          rotate_left
          ·
           simp only [Act.put, List.setIfInBounds_toArray, List.set_cons_zero, List.set_cons_succ, i64_w, i32_w]
           rfl
          refine pure_ (i := 14) (N := some 169) (v := ?_) (a' := ?_) X49 rfl rfl (any_of HT_.out (by kernel_rfl)) (fun _ _ _ h => h) (Or.inl ⟨by rfl, ?_⟩) ?_ ?_
          rotate_left
          ·
           intro w'
           go_simp
           with_reducible rfl
          rotate_left
          ·
           simp only [Act.put, List.setIfInBounds_toArray, List.set_cons_zero, List.set_cons_succ, i64_w, i32_w]
           rfl
          refine pure_ (i := 15) (N := some 170) (v := ?_) (a' := ?_) X50 rfl rfl (any_of HT_.out (by kernel_rfl)) (fun _ _ _ h => h) (Or.inl ⟨by rfl, ?_⟩) ?_ ?_
          rotate_left
          ·
           intro w'
           go_simp
           with_reducible rfl
          rotate_left
          ·
           simp only [Act.put, List.setIfInBounds_toArray, List.set_cons_zero, List.set_cons_succ, i64_w, i32_w]
           rfl
          refine pure_ (i := 16) (N := some 171) (v := undef) (a' := ?_) X51 rfl rfl (any_of HT_.out (by kernel_rfl)) (fun _ _ _ h => h) (Or.inr ⟨by rfl, rfl⟩) ?_ ?_
          rotate_left
          ·
           simp only [Act.put, List.setIfInBounds_toArray, List.set_cons_zero, List.set_cons_succ, i64_w, i32_w]
           rfl
          refine pure_ (i := 17) (N := some 172) (v := undef) (a' := ?_) X52 rfl rfl (any_of HT_.out (by kernel_rfl)) (fun _ _ _ h => h) (Or.inr ⟨by rfl, rfl⟩) ?_ ?_
          rotate_left
          ·
           simp only [Act.put, List.setIfInBounds_toArray, List.set_cons_zero, List.set_cons_succ, i64_w, i32_w]
           rfl
          refine pure_ (i := 18) (N := some 173) (v := undef) (a' := ?_) X53 rfl rfl (any_of HT_.out (by kernel_rfl)) (fun _ _ _ h => h) (Or.inr ⟨by rfl, rfl⟩) ?_ ?_
          rotate_left
          ·
           simp only [Act.put, List.setIfInBounds_toArray, List.set_cons_zero, List.set_cons_succ, i64_w, i32_w]
           rfl
          refine pure_ (i := 19) (N := some 174) (v := undef) (a' := ?_) X54 rfl rfl (any_of HT_.out (by kernel_rfl)) (fun _ _ _ h => h) (Or.inr ⟨by rfl, rfl⟩) ?_ ?_
          rotate_left
          ·
           simp only [Act.put, List.setIfInBounds_toArray, List.set_cons_zero, List.set_cons_succ, i64_w, i32_w]
           rfl
          refine pure_ (i := 20) (N := some 175) (v := ?_) (a' := ?_) X55 rfl rfl (any_of HT_.out (by kernel_rfl)) (fun _ _ _ h => h) (Or.inl ⟨by rfl, ?_⟩) ?_ ?_
          rotate_left
          ·
           intro w'
           go_simp
           with_reducible rfl
          rotate_left
          ·
           simp only [Act.put, List.setIfInBounds_toArray, List.set_cons_zero, List.set_cons_succ, i64_w, i32_w]
           rfl
          refine done_ (done_of HT_.out (by kernel_rfl)) ?_
          have Z : w.heap.size ≤ w6.heap.size := HB.out.size
          have Ln := Kn.out.lt; have cn0 := Kn.out.cell 0 rfl; have fn0 := Kn.out.frozen 0; have cn1 := Kn.out.cell 1 rfl; have fn1 := Kn.out.frozen 1; have cn2 := Kn.out.cell 2 rfl; have fn2 := Kn.out.frozen 2; have cn3 := Kn.out.cell 3 rfl; have fn3 := Kn.out.frozen 3; have cn4 := Kn.out.cell 4 rfl; have fn4 := Kn.out.frozen 4; have cn5 := Kn.out.cell 5 rfl; have fn5 := Kn.out.frozen 5
          have La := Ka.out.lt; have ca0 := Ka.out.cell 0 rfl; have fa0 := Ka.out.frozen 0; have ca1 := Ka.out.cell 1 rfl; have fa1 := Ka.out.frozen 1; have ca2 := Ka.out.cell 2 rfl; have fa2 := Ka.out.frozen 2
          go_wp2_with fail
          go_region_held3 (fun w' => Below w.heap.size w w' ∧ Blk w' (w1.heap.size) #[.int .i64 E0, .int .i64 F0, .int .i64 Q0, .int .i64 E1, .int .i64 F1, .int .i64 Q1] 27 ∧ Blk w' (wr.heap.size + 1) #[.int .i64 A1, .int .i64 B1, .int .i64 P1] 27 ∧ w'.cell? ⟨w1.heap.size, 0, none⟩ = some (.int .i64 E0) ∧ w'.cell? ⟨w1.heap.size, 1, none⟩ = some (.int .i64 F0) ∧ w'.cell? ⟨w1.heap.size, 2, none⟩ = some (.int .i64 Q0) ∧ w'.cell? ⟨w1.heap.size, 3, none⟩ = some (.int .i64 E1) ∧ w'.cell? ⟨w1.heap.size, 4, none⟩ = some (.int .i64 F1) ∧ w'.cell? ⟨w1.heap.size, 5, none⟩ = some (.int .i64 Q1) ∧ w'.cell? ⟨wr.heap.size + 1, 0, none⟩ = some (.int .i64 A1) ∧ w'.cell? ⟨wr.heap.size + 1, 1, none⟩ = some (.int .i64 B1) ∧ w'.cell? ⟨wr.heap.size + 1, 2, none⟩ = some (.int .i64 P1)) (first | exact ⟨below_drew HB.out, Kn.out.drew, Ka.out.drew, Kn.out.drew.cell 0 rfl, Kn.out.drew.cell 1 rfl, Kn.out.drew.cell 2 rfl, Kn.out.drew.cell 3 rfl, Kn.out.drew.cell 4 rfl, Kn.out.drew.cell 5 rfl, Ka.out.drew.cell 0 rfl, Ka.out.drew.cell 1 rfl, Ka.out.drew.cell 2 rfl⟩ | (have hh := ‹Below w.heap.size w _ ∧ _›; exact ⟨below_step hh.1 hb, hh.2.1.below hb, hh.2.2.1.below hb, (hh.2.1.below hb).cell 0 rfl, (hh.2.1.below hb).cell 1 rfl, (hh.2.1.below hb).cell 2 rfl, (hh.2.1.below hb).cell 3 rfl, (hh.2.1.below hb).cell 4 rfl, (hh.2.1.below hb).cell 5 rfl, (hh.2.2.1.below hb).cell 0 rfl, (hh.2.2.1.below hb).cell 1 rfl, (hh.2.2.1.below hb).cell 2 rfl⟩) | exact ‹Below w.heap.size w _ ∧ _›) (first | (go_at_call 16; refine (judge_at (e := E1) (b := F1) (p := Q1) (n := 1) (x := Q1 - 1) (t := true) (r := 3) hJ.out _).mono ?_; rintro en w41 ⟨rfl, hb⟩))
          obtain ⟨h_, k_n, k_a, _⟩ := ‹Below w.heap.size w w41 ∧ _›
          clear Kn Ln cn0 fn0 cn1 fn1 cn2 fn2 cn3 fn3 cn4 fn4 cn5 fn5 Ka La ca0 fa0 ca1 fa1 ca2 fa2 HB Z; have HB := Asd.mk h_; clear h_; have Z : w.heap.size ≤ w41.heap.size := HB.out.size
          have Kn := Asd.mk k_n; have Ln := k_n.lt; have cn0 := k_n.cell 0 rfl; have fn0 := k_n.frozen 0; have cn1 := k_n.cell 1 rfl; have fn1 := k_n.frozen 1; have cn2 := k_n.cell 2 rfl; have fn2 := k_n.frozen 2; have cn3 := k_n.cell 3 rfl; have fn3 := k_n.frozen 3; have cn4 := k_n.cell 4 rfl; have fn4 := k_n.frozen 4; have cn5 := k_n.cell 5 rfl; have fn5 := k_n.frozen 5; clear k_n
          have Ka := Asd.mk k_a; have La := k_a.lt; have ca0 := k_a.cell 0 rfl; have fa0 := k_a.frozen 0; have ca1 := k_a.cell 1 rfl; have fa1 := k_a.frozen 1; have ca2 := k_a.cell 2 rfl; have fa2 := k_a.frozen 2; clear k_a
          go_wp2
          go_roundg (gk - 1)
          case measure => have := R2.out; omega
          case rel => exact ⟨k + 1, E0, F0, Q0, E1, F1, Q1, by go_num, by omega, (by have := R2.out; omega), M1.out, Kn.out, HB.out⟩
   ·
    go_wp2
    go_ret
    exact ⟨rfl, HB.out⟩
  ·
   go_wp2
   go_ret
   exact ⟨rfl, HB.out⟩
end Go.Proofs.Ytlokgfoobjepdaa.Fx
