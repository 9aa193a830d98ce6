/- Contracts of net: take. -/
import Derived.Test.YtcdbnbdeinhokaaNx2
import Derived.Test.YtcdbnbdeinhokaaWLast
namespace Go.Proofs.Ytcdbnbdeinhokaa.Nx
open Go.RowKit
open Go.Proofs.Ytcdbnbdeinhokaa.Xb Go.Proofs.Ytcdbnbdeinhokaa.Nb
open Go.Proofs.YtcdbnbdeinhokaaW.PrintLast (start_ take_ pure_ one_ two_ last_ norm_ goes_ done_ done_of any_of one_of two_of take_ofW with_tabW rtab waitsOk opsOf i64_w i32_w)
set_option linter.unusedSimpArgs false
set_option linter.unusedVariables false
def take4T : Bool × List (List Nat × List Nat) := (true, [([], []), ([0], [0]), ([1], [1]), ([2], [2]), ([], []), ([], []), ([], []), ([6], [6]), ([7], [7]), ([8], [8]), ([], []), ([9, 10], [9, 10]), ([11], [11]), ([], []), ([13], [13]), ([14], [14]), ([15], [15]), ([], []), ([16, 17], [16, 17]), ([3, 4, 0, 1, 2, 3, 4, 6, 7, 8, 9, 10, 11, 12, 16], [3, 4]), ([19, 12, 0, 1, 2, 3, 4, 6, 7, 8, 9, 10, 11, 12, 16], [12, 19]), ([5, 0, 1, 2, 3, 4, 5, 6, 7, 8, 9, 10, 11, 12, 13, 14, 15, 16, 17, 18, 19, 20], [5]), ([21, 0, 1, 2, 3, 4, 5, 6, 7, 8, 9, 10, 11, 12, 13, 14, 15, 16, 17, 18, 19, 20], [21]), ([22, 18, 20, 0, 1, 2, 3, 4, 5, 6, 7, 8, 9, 10, 11, 12, 13, 14, 15, 16, 17, 18, 19, 20], [18, 22])])
def take4B : List Nat := [0, 1, 3, 7, 0, 0, 0, 64, 192, 448, 0, 1984, 4032, 0, 8192, 24576, 57344, 0, 253952, 131039, 655327, 2097151, 4194303, 8388607]
theorem take4tab : rtab .any (opsOf Try.f10 4) = take4T := by kernel_rfl
theorem take4bits : waitsOk take4T.2 take4B = true := by kernel_rfl
set_option maxHeartbeats 4000000 in
theorem take_core {base : Nat} {w : World} {g gr m cap : Nat} {gone : Int} {cur : Array Value} {p : PV} {t0 : Int} {gb n1 c1 : Nat} {b0 : Bool} {q0 q1 q2 : Value} (hb : Blk w g #[.slice (some ⟨gr, 0, none⟩) (m + 1) cap, .int .i64 gone] 49) (hr : Blk w gr cur 51) (hne : g ≠ gr) (hbg : base ≤ g) (hbr : base ≤ gr) (hm : m < 64) (hc : m + 1 ≤ cap)
    (i : Nat) (hi : i < m + 1) (u0 : cur[m * 3]? = some (.int .i64 t0)) (u1 : cur[m * 3 + 1]? = some (.slice (some ⟨gb, 0, none⟩) n1 c1)) (u2 : cur[m * 3 + 2]? = some (.bool b0)) (o0 : cur[i * 3]? = some q0) (o1 : cur[i * 3 + 1]? = some q1) (o2 : cur[i * 3 + 2]? = some q2)
    (hat : Calls Try.prog 15 #[.pointer (some ⟨g, 0, none⟩), .int .i64 (i : Int)] w fun e w' => AtSome p e ∧ Below w.heap.size w w') :
    Calls Try.prog 10 #[.pointer (some ⟨g, 0, none⟩), .int .i64 (i : Int)] w fun e w' => AtSome p e ∧ Blk w' g #[.slice (some ⟨gr, 0, none⟩) m cap, .int .i64 gone] 49 ∧ Blk w' gr (((cur.setIfInBounds (i * 3) (.int .i64 t0)).setIfInBounds (i * 3 + 1) (.slice (some ⟨gb, 0, none⟩) n1 c1)).setIfInBounds (i * 3 + 2) (.bool b0)) 51 ∧ NChg base w w' := by
  have HA := Asd.mk hat; clear hat
  have hw1 : IntKind.i64.wrap (((m + 1 : Nat) : Int) - 1) = (m : Int) := (i64_w _).trans (by unfold wrap64; omega)
  have j0 : (m : Int) < (m : Int) + 1 := by omega
  have j1 : (i : Int) < (m : Int) + 1 := by omega
  have j2 : m ≤ cap := by omega
  go_enter Try.func10, Try.ntmps10
  go_wp2_with fail
  refine HA.out.mono ?_; rintro en w1 ⟨rfl, hb1⟩; clear HA
  have k_n := hb.below hb1; have k_r := hr.below hb1; have h_ : NChg base w w1 := NChg.of_below hb1; clear hb hr hb1
  have Kn := Asd.mk k_n; have Kr := Asd.mk k_r; have HB := Asd.mk h_; have cn0 := k_n.cell 0 rfl; clear k_n k_r h_
  go_wp2_with fail
  skip
  have fn0 := Kn.out.frozen 0; have cn1 := Kn.out.cell 1 rfl; have fn1 := Kn.out.frozen 1; have Ln := Kn.out.lt; have Lr := Kr.out.lt; have cr0 := Kr.out.cell (m * 3) u0; have fr0 := Kr.out.frozen (m * 3); have cr1 := Kr.out.cell (m * 3 + 1) u1; have fr1 := Kr.out.frozen (m * 3 + 1); have cr2 := Kr.out.cell (m * 3 + 2) u2; have fr2 := Kr.out.frozen (m * 3 + 2)
  have k_n := Kn.out.drew
  have k_r := Kr.out.drew
  have h_ := HB.out.drew
  refine start_ (n := 24) (S := fun w' => w'.cell? ⟨g, 0, none⟩ = some (.slice (some ⟨gr, 0, none⟩) (m + 1) cap) ∧ w'.cell? ⟨g, 1, none⟩ = some (.int .i64 gone) ∧ w'.cell? ⟨gr, m * 3, none⟩ = some (.int .i64 t0) ∧ w'.cell? ⟨gr, m * 3 + 1, none⟩ = some (.slice (some ⟨gb, 0, none⟩) n1 c1) ∧ w'.cell? ⟨gr, m * 3 + 2, none⟩ = some (.bool b0)) (ds := [20, 23]) #[false, false, false, false, false, false, false, false, false, false, false, false, false, false, false, false, false, false, false, false, false, false, false, false] (by kernel_rfl) rfl rfl ⟨k_n.cell 0 rfl, k_n.cell 1 rfl, k_r.cell (m * 3) u0, k_r.cell (m * 3 + 1) u1, k_r.cell (m * 3 + 2) u2⟩ (fun hHeld => ?_); refine with_tabW take4tab take4bits (fun HT_ HW_ => ?_)
  clear HB Kn Kr
  generalize w1.drew = w2 at k_n k_r h_ hHeld ⊢
  have HB := Asd.mk h_; clear h_; have Kn := Asd.mk k_n; clear k_n; have Kr := Asd.mk k_r; clear k_r
  clear Ln Lr cn0 fn0 cn1 fn1 cr0 fr0 cr1 fr1 cr2 fr2
  refine pure_ (i := 0) (N := some 26) (v := ?_) (a' := ?_) #[true, false, false, false, false, false, false, false, false, false, false, false, false, false, false, false, false, false, false, false, false, false, false, false] rfl rfl (any_of HT_.out (by kernel_rfl)) (fun _ _ _ h => h) (Or.inl ⟨by rfl, ?_⟩) ?_ ?_
  rotate_left
  · intro w'
    go_simp
    with_reducible rfl
  rotate_left
  · simp only [Act.put, List.setIfInBounds_toArray, List.set_cons_zero, List.set_cons_succ, i64_w, i32_w]
    rfl
  refine pure_ (i := 1) (N := some 27) (v := ?_) (a' := ?_) #[true, true, false, false, false, false, false, false, false, false, false, false, false, false, false, false, false, false, false, false, false, false, false, false] rfl rfl (any_of HT_.out (by kernel_rfl)) (fun _ _ _ h => h) (Or.inl ⟨by rfl, ?_⟩) ?_ ?_
  rotate_left
  · intro w'
    go_simp
    with_reducible rfl
  rotate_left
  · simp only [Act.put, List.setIfInBounds_toArray, List.set_cons_zero, List.set_cons_succ, i64_w, i32_w]
    rfl
  refine pure_ (i := 2) (N := some 28) (v := ?_) (a' := ?_) #[true, true, true, false, false, false, false, false, false, false, false, false, false, false, false, false, false, false, false, false, false, false, false, false] rfl rfl (any_of HT_.out (by kernel_rfl)) (fun _ _ _ h => h) (Or.inl ⟨by rfl, ?_⟩) ?_ ?_
  rotate_left
  · intro w'
    go_simp
    with_reducible rfl
  rotate_left
  · simp only [Act.put, List.setIfInBounds_toArray, List.set_cons_zero, List.set_cons_succ, i64_w, i32_w]
    rfl
  refine pure_ (i := 4) (N := some 30) (v := ?_) (a' := ?_) #[true, true, true, false, true, false, false, false, false, false, false, false, false, false, false, false, false, false, false, false, false, false, false, false] rfl rfl (any_of HT_.out (by kernel_rfl)) (fun _ _ _ h => h) (Or.inl ⟨by rfl, ?_⟩) ?_ ?_
  rotate_left
  · intro w'
    go_simp
    with_reducible rfl
  rotate_left
  · simp only [Act.put, List.setIfInBounds_toArray, List.set_cons_zero, List.set_cons_succ, i64_w, i32_w]
    rfl
  refine pure_ (i := 5) (N := some 31) (v := ?_) (a' := ?_) #[true, true, true, false, true, true, false, false, false, false, false, false, false, false, false, false, false, false, false, false, false, false, false, false] rfl rfl (any_of HT_.out (by kernel_rfl)) (fun _ _ _ h => h) (Or.inl ⟨by rfl, ?_⟩) ?_ ?_
  rotate_left
  · intro w'
    go_simp
    with_reducible rfl
  rotate_left
  · simp only [Act.put, List.setIfInBounds_toArray, List.set_cons_zero, List.set_cons_succ, i64_w, i32_w]
    rfl
  refine pure_ (i := 6) (N := some 32) (v := ?_) (a' := ?_) #[true, true, true, false, true, true, true, false, false, false, false, false, false, false, false, false, false, false, false, false, false, false, false, false] rfl rfl (any_of HT_.out (by kernel_rfl)) (fun _ _ _ h => h) (Or.inl ⟨by rfl, ?_⟩) ?_ ?_
  rotate_left
  · intro w'
    go_simp
    with_reducible rfl
  rotate_left
  · simp only [Act.put, List.setIfInBounds_toArray, List.set_cons_zero, List.set_cons_succ, i64_w, i32_w]
    rfl
  refine pure_ (i := 7) (N := some 33) (v := ?_) (a' := ?_) #[true, true, true, false, true, true, true, true, false, false, false, false, false, false, false, false, false, false, false, false, false, false, false, false] rfl rfl (any_of HT_.out (by kernel_rfl)) (fun _ _ _ h => h) (Or.inl ⟨by rfl, ?_⟩) ?_ ?_
  rotate_left
  · intro w'
    go_simp
    with_reducible rfl
  rotate_left
  · simp only [Act.put, List.setIfInBounds_toArray, List.set_cons_zero, List.set_cons_succ, i64_w, i32_w]
    rfl
  refine pure_ (i := 8) (N := some 34) (v := ?_) (a' := ?_) #[true, true, true, false, true, true, true, true, true, false, false, false, false, false, false, false, false, false, false, false, false, false, false, false] rfl rfl (any_of HT_.out (by kernel_rfl)) (fun _ _ _ h => h) (Or.inl ⟨by rfl, ?_⟩) ?_ ?_
  rotate_left
  · intro w'
    go_simp
    with_reducible rfl
  rotate_left
  · simp only [Act.put, List.setIfInBounds_toArray, List.set_cons_zero, List.set_cons_succ, i64_w, i32_w]
    rfl
  refine pure_ (i := 10) (N := some 36) (v := ?_) (a' := ?_) #[true, true, true, false, true, true, true, true, true, false, true, false, false, false, false, false, false, false, false, false, false, false, false, false] rfl rfl (any_of HT_.out (by kernel_rfl)) (fun _ _ _ h => h) (Or.inl ⟨by rfl, ?_⟩) ?_ ?_
  rotate_left
  · intro w'
    go_simp
    with_reducible rfl
  rotate_left
  · simp only [Act.put, List.setIfInBounds_toArray, List.set_cons_zero, List.set_cons_succ, i64_w, i32_w]
    rfl
  refine pure_ (i := 13) (N := some 39) (v := ?_) (a' := ?_) #[true, true, true, false, true, true, true, true, true, false, true, false, false, true, false, false, false, false, false, false, false, false, false, false] rfl rfl (any_of HT_.out (by kernel_rfl)) (fun _ _ _ h => h) (Or.inl ⟨by rfl, ?_⟩) ?_ ?_
  rotate_left
  · intro w'
    go_simp
    with_reducible rfl
  rotate_left
  · simp only [Act.put, List.setIfInBounds_toArray, List.set_cons_zero, List.set_cons_succ, i64_w, i32_w]
    rfl
  refine pure_ (i := 14) (N := some 40) (v := ?_) (a' := ?_) #[true, true, true, false, true, true, true, true, true, false, true, false, false, true, true, false, false, false, false, false, false, false, false, false] rfl rfl (any_of HT_.out (by kernel_rfl)) (fun _ _ _ h => h) (Or.inl ⟨by rfl, ?_⟩) ?_ ?_
  rotate_left
  · intro w'
    go_simp
    with_reducible rfl
  rotate_left
  · simp only [Act.put, List.setIfInBounds_toArray, List.set_cons_zero, List.set_cons_succ, i64_w, i32_w]
    rfl
  refine pure_ (i := 15) (N := some 41) (v := ?_) (a' := ?_) #[true, true, true, false, true, true, true, true, true, false, true, false, false, true, true, true, false, false, false, false, false, false, false, false] rfl rfl (any_of HT_.out (by kernel_rfl)) (fun _ _ _ h => h) (Or.inl ⟨by rfl, ?_⟩) ?_ ?_
  rotate_left
  · intro w'
    go_simp
    with_reducible rfl
  rotate_left
  · simp only [Act.put, List.setIfInBounds_toArray, List.set_cons_zero, List.set_cons_succ, i64_w, i32_w]
    rfl
  refine pure_ (i := 17) (N := some 43) (v := ?_) (a' := ?_) #[true, true, true, false, true, true, true, true, true, false, true, false, false, true, true, true, false, true, false, false, false, false, false, false] rfl rfl (any_of HT_.out (by kernel_rfl)) (fun _ _ _ h => h) (Or.inl ⟨by rfl, ?_⟩) ?_ ?_
  rotate_left
  · intro w'
    go_simp
    with_reducible rfl
  rotate_left
  · simp only [Act.put, List.setIfInBounds_toArray, List.set_cons_zero, List.set_cons_succ, i64_w, i32_w]
    rfl
  refine take_ (i := 3) (N := some 29) (v := ?_) (a' := ?_) #[true, true, true, true, true, true, true, true, true, false, true, false, false, true, true, true, false, true, false, false, false, false, false, false] rfl rfl (take_ofW HT_.out HW_.out (by kernel_rfl)) (fun _ _ _ h => h) (Or.inl ⟨by rfl, ?_⟩) hHeld ?_ ?_
  rotate_left
  · rintro w' ⟨s0, s1, s2, s3, s4⟩
    go_simp
    with_reducible rfl
  rotate_left
  · simp only [Act.put, List.setIfInBounds_toArray, List.set_cons_zero, List.set_cons_succ, i64_w, i32_w]
    rfl
  refine take_ (i := 9) (N := some 35) (v := ?_) (a' := ?_) #[true, true, true, true, true, true, true, true, true, true, true, false, false, true, true, true, false, true, false, false, false, false, false, false] rfl rfl (take_ofW HT_.out HW_.out (by kernel_rfl)) (fun _ _ _ h => h) (Or.inl ⟨by rfl, ?_⟩) hHeld ?_ ?_
  rotate_left
  · rintro w' ⟨s0, s1, s2, s3, s4⟩
    go_simp
    with_reducible rfl
  rotate_left
  · simp only [Act.put, List.setIfInBounds_toArray, List.set_cons_zero, List.set_cons_succ, i64_w, i32_w]
    rfl
  refine pure_ (i := 11) (N := some 37) (v := ?_) (a' := ?_) #[true, true, true, true, true, true, true, true, true, true, true, true, false, true, true, true, false, true, false, false, false, false, false, false] rfl rfl (any_of HT_.out (by kernel_rfl)) (fun _ _ _ h => h) (Or.inl ⟨by rfl, ?_⟩) ?_ ?_
  rotate_left
  · intro w'
    go_simp
    with_reducible rfl
  rotate_left
  · simp only [Act.put, List.setIfInBounds_toArray, List.set_cons_zero, List.set_cons_succ, i64_w, i32_w]
    rfl
  refine take_ (i := 12) (N := some 38) (v := ?_) (a' := ?_) #[true, true, true, true, true, true, true, true, true, true, true, true, true, true, true, true, false, true, false, false, false, false, false, false] rfl rfl (take_ofW HT_.out HW_.out (by kernel_rfl)) (fun _ _ _ h => h) (Or.inl ⟨by rfl, ?_⟩) hHeld ?_ ?_
  rotate_left
  · rintro w' ⟨s0, s1, s2, s3, s4⟩
    go_simp
    with_reducible rfl
  rotate_left
  · simp only [Act.put, List.setIfInBounds_toArray, List.set_cons_zero, List.set_cons_succ, i64_w, i32_w]
    rfl
  refine take_ (i := 16) (N := some 42) (v := ?_) (a' := ?_) #[true, true, true, true, true, true, true, true, true, true, true, true, true, true, true, true, true, true, false, false, false, false, false, false] rfl rfl (take_ofW HT_.out HW_.out (by kernel_rfl)) (fun _ _ _ h => h) (Or.inl ⟨by rfl, ?_⟩) hHeld ?_ ?_
  rotate_left
  · rintro w' ⟨s0, s1, s2, s3, s4⟩
    go_simp
    with_reducible rfl
  rotate_left
  · simp only [Act.put, List.setIfInBounds_toArray, List.set_cons_zero, List.set_cons_succ, i64_w, i32_w]
    rfl
  refine pure_ (i := 18) (N := some 44) (v := ?_) (a' := ?_) #[true, true, true, true, true, true, true, true, true, true, true, true, true, true, true, true, true, true, true, false, false, false, false, false] rfl rfl (any_of HT_.out (by kernel_rfl)) (fun _ _ _ h => h) (Or.inl ⟨by rfl, ?_⟩) ?_ ?_
  rotate_left
  · intro w'
    go_simp
    with_reducible rfl
  rotate_left
  · simp only [Act.put, List.setIfInBounds_toArray, List.set_cons_zero, List.set_cons_succ, i64_w, i32_w]
    rfl
  refine pure_ (i := 19) (N := some 45) (v := ?_) (a' := ?_) #[true, true, true, true, true, true, true, true, true, true, true, true, true, true, true, true, true, true, true, true, false, false, false, false] rfl rfl (any_of HT_.out (by kernel_rfl)) (fun _ _ _ h => h) (Or.inl ⟨by rfl, ?_⟩) ?_ ?_
  rotate_left
  · intro w'
    go_simp
    with_reducible rfl
  rotate_left
  · simp only [Act.put, List.setIfInBounds_toArray, List.set_cons_zero, List.set_cons_succ, i64_w, i32_w]
    rfl
  refine last_ (i := 20) (N := none) #[true, true, true, true, true, true, true, true, true, true, true, true, true, true, true, true, true, true, true, true, true, false, false, false] rfl rfl (one_of HT_.out (by kernel_rfl)) (by decide) (fun K hK => ?_)
  have z0 := Kr.out.cell (i * 3) o0; have y0 := Kr.out.frozen (i * 3)
  have z1 := Kr.out.cell (i * 3 + 1) o1; have y1 := Kr.out.frozen (i * 3 + 1)
  have z2 := Kr.out.cell (i * 3 + 2) o2; have y2 := Kr.out.frozen (i * 3 + 2)
  go_simp
  clear z0 z1 z2 y0 y1 y2
  have k_n := ((Kn.out.far (g2 := gr) (i := i * 3) hne (.int .i64 t0)).far (g2 := gr) (i := i * 3 + 1) hne (.slice (some ⟨gb, 0, none⟩) n1 c1)).far (g2 := gr) (i := i * 3 + 2) hne (.bool b0)
  have k_r := ((Kr.out.put (i * 3) (.int .i64 t0) rfl).put (i * 3 + 1) (.slice (some ⟨gb, 0, none⟩) n1 c1) rfl).put (i * 3 + 2) (.bool b0) rfl
  have h_ := ((HB.out.trans (NChg.set Kr.out (.inr rfl) hbr (i * 3) (.int .i64 t0))).trans (NChg.set (Kr.out.put (i * 3) (.int .i64 t0) rfl) (.inr rfl) hbr (i * 3 + 1) (.slice (some ⟨gb, 0, none⟩) n1 c1))).trans (NChg.set ((Kr.out.put (i * 3) (.int .i64 t0) rfl).put (i * 3 + 1) (.slice (some ⟨gb, 0, none⟩) n1 c1) rfl) (.inr rfl) hbr (i * 3 + 2) (.bool b0))
  refine hK.out _ _ ?_
  clear hK K HB Kn Kr
  generalize (((w2.setCell ⟨gr, i * 3, none⟩ (.int .i64 t0)).setCell ⟨gr, i * 3 + 1, none⟩ (.slice (some ⟨gb, 0, none⟩) n1 c1)).setCell ⟨gr, i * 3 + 2, none⟩ (.bool b0)) = w3 at k_n k_r h_ ⊢
  have HB := Asd.mk h_; have Kn := Asd.mk k_n; have Kr := Asd.mk k_r; clear h_ k_n k_r
  refine pure_ (i := 21) (N := some 46) (v := ?_) (a' := ?_) #[true, true, true, true, true, true, true, true, true, true, true, true, true, true, true, true, true, true, true, true, true, true, false, false] rfl rfl (any_of HT_.out (by kernel_rfl)) (fun _ _ _ h => h) (Or.inl ⟨by rfl, ?_⟩) ?_ ?_
  rotate_left
  · intro w'
    go_simp
    with_reducible rfl
  rotate_left
  · simp only [Act.put, List.setIfInBounds_toArray, List.set_cons_zero, List.set_cons_succ, i64_w, i32_w]
    rfl
  refine pure_ (i := 22) (N := some 47) (v := ?_) (a' := ?_) #[true, true, true, true, true, true, true, true, true, true, true, true, true, true, true, true, true, true, true, true, true, true, true, false] rfl rfl (any_of HT_.out (by kernel_rfl)) (fun _ _ _ h => h) (Or.inl ⟨by rfl, ?_⟩) ?_ ?_
  rotate_left
  · intro w'
    go_simp
    with_reducible rfl
  rotate_left
  · simp only [Act.put, List.setIfInBounds_toArray, List.set_cons_zero, List.set_cons_succ, i64_w, i32_w]
    rfl
  refine last_ (i := 23) (N := none) #[true, true, true, true, true, true, true, true, true, true, true, true, true, true, true, true, true, true, true, true, true, true, true, true] rfl rfl (one_of HT_.out (by kernel_rfl)) (by decide) (fun K hK => ?_)
  have z0 := Kn.out.cell 0 rfl; have y0 := Kn.out.frozen 0
  go_simp
  clear z0 y0
  have k_n := Kn.out.put 0 (.slice (some ⟨gr, 0, none⟩) m cap) rfl; have k_r := Kr.out.far (g2 := g) (i := 0) (Ne.symm hne) (.slice (some ⟨gr, 0, none⟩) m cap)
  have h_ := HB.out.trans (NChg.set Kn.out (.inl rfl) hbg 0 (.slice (some ⟨gr, 0, none⟩) m cap))
  refine hK.out _ _ ?_
  clear hK K HB Kn Kr
  generalize (w3.setCell ⟨g, 0, none⟩ (.slice (some ⟨gr, 0, none⟩) m cap)) = w4 at k_n k_r h_ ⊢
  have HB := Asd.mk h_; have Kn := Asd.mk k_n; have Kr := Asd.mk k_r; clear h_ k_n k_r
  refine done_ (done_of HT_.out (by kernel_rfl)) ?_
  have Z : w.heap.size ≤ w4.heap.size := HB.out.size
  have Ln := Kn.out.lt; have cn0 := Kn.out.cell 0 rfl; have fn0 := Kn.out.frozen 0; have cn1 := Kn.out.cell 1 rfl; have fn1 := Kn.out.frozen 1
  go_wp2
  go_ret3
  exact ⟨rfl, Kn.out, Kr.out, HB.out⟩
end Go.Proofs.Ytcdbnbdeinhokaa.Nx
