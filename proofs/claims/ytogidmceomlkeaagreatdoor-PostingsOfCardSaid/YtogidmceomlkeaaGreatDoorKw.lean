/- The index works. -/
import Derived.Test.YtogidmceomlkeaaGreatDoorKf
namespace Go.Proofs.YtogidmceomlkeaaGreatDoor.SL
open Go.RowKit Go.Proofs.YtogidmceomlkeaaGreatDoor
open Go.Proofs.YtogidmceomlkeaaGreatDoorW.PrintLast (rtab opsOf)
set_option linter.unusedVariables false
set_option linter.unusedSimpArgs false

theorem pick_len (F : Bool → Bool → Bool) (l m : List Int) : (pickF F l m).length ≤ l.length + m.length := by
  have key : ∀ k xs ys, (pkF F k xs ys).length ≤ k := by
    intro k
    induction k with
    | zero => intro xs ys; simp [pkF]
    | succ k ih => intro xs ys; simp only [pkF]; split
                   · simp
                   · rw [List.length_append]; have := ih (tl (inB xs ys) xs) (tl (inB ys xs) ys); split <;> simp <;> omega
  have h := key ((rising l).length + (rising m).length) (rising l) (rising m)
  have h1 := rising_len l
  have h2 := rising_len m
  show (pkF F _ _ _).length ≤ _
  omega
theorem mem_pAnd (l m : List Int) (z : Int) : z ∈ pickF fAnd l m ↔ z ∈ l ∧ z ∈ m := by
  rw [(pickF_spec fAnd l m).2]; simp only [fAnd, Bool.and_eq_true, decide_eq_true_eq]; exact ⟨fun h => h.2, fun h => ⟨.inl h.1, h⟩⟩
theorem mem_pOr (l m : List Int) (z : Int) : z ∈ pickF fOr l m ↔ z ∈ l ∨ z ∈ m := by
  rw [(pickF_spec fOr l m).2]; simp [fOr]
theorem mem_pLess (l m : List Int) (z : Int) : z ∈ pickF fLess l m ↔ z ∈ l ∧ z ∉ m := by
  rw [(pickF_spec fLess l m).2]; simp only [fLess, Bool.not_eq_true', decide_eq_false_iff_not]; exact ⟨fun h => ⟨h.1.resolve_right h.2, h.2⟩, fun h => ⟨.inl h.1, h.2⟩⟩
theorem pk_eq {F G : Bool → Bool → Bool} {l m l' m' : List Int} (h : ∀ z, z ∈ pickF F l m ↔ z ∈ pickF G l' m') : pickF F l m = pickF G l' m' := asc_ext (pickF_spec F l m).1 (pickF_spec G l' m').1 h

theorem ev_and : pickF fAnd [3, 1, 2] [2, 3, 5] = [2, 3] := (pick_and _ _).trans (by decide)
theorem ev_or : pickF fOr [3, 1, 2] [2, 3, 5] = [1, 2, 3, 5] := (pick_or _ _).trans (by decide)
theorem ev_less : pickF fLess [3, 1, 2] [2, 3, 5] = [1] := (pick_less _ _).trans (by decide)
theorem ev_of : ofF [[(⟨[97], [49]⟩ : Pr)], [⟨[97], [50]⟩, ⟨[98], [49]⟩]] ⟨[98], [49]⟩ = [1] := by decide
theorem ev_find : findF [[(⟨[97], [49]⟩ : Pr)], [⟨[97], [50]⟩, ⟨[98], [49]⟩]] [⟨2, [97], [49]⟩] = [1] := by decide
set_option maxHeartbeats 2000000 in
theorem pworks_spec {B w : World} {L : List HP} (hS : St B L w) : Does Tryz.prog 6 [] w (fun v w1 => v = .bool true ∧ St B L w1) := by
 refine enter (n := 53) Tryz.func6 rfl rfl [] rfl ?_
 refine WP.seq ?_
 refine WP.region rfl ?_
 refine WO.val (run_assign rfl) rfl rfl rfl ?_
 refine WO.nil ?_
 refine NX.go ?_
 refine WP.seq ?_
 refine WP.region rfl ?_
 refine WO.buildSlice (l := [Value.int .i64 3, Value.int .i64 1, Value.int .i64 2]) hS Tryz.underlying22 rfl (fun w => by kernel_rfl) rfl (fun g2 w1 lg2 hS1 => ?_)
 clear hS
 have hS1 := hS1.own_of_cel (m := 3) (k := 1) rfl
 replace hS1 : St B (own (some ⟨g2, 0, none⟩) 3 3 3 1 (ri [3, 1, 2]) :: L) w1 := hS1
 refine WO.buildSlice (l := [Value.int .i64 2, Value.int .i64 3, Value.int .i64 5]) hS1 Tryz.underlying22 rfl (fun w => by kernel_rfl) rfl (fun g4 w3 lg4 hS3 => ?_)
 clear hS1
 have hS3 := hS3.own_of_cel (m := 3) (k := 1) rfl
 replace hS3 : St B (own (some ⟨g4, 0, none⟩) 3 3 3 1 (ri [2, 3, 5]) :: own (some ⟨g2, 0, none⟩) 3 3 3 1 (ri [3, 1, 2]) :: L) w3 := hS3
 refine WO.val (run_assign rfl) rfl rfl rfl ?_
 refine WO.val (run_assign rfl) rfl rfl rfl ?_
 refine WO.nil ?_
 refine NX.go ?_
 refine WP.seq ?_
 refine WP.region rfl ?_
 refine WO.val (run_build (v := Value.agg #[str [97], str [49]]) rfl (fun w => by kernel_rfl)) rfl rfl rfl ?_
 refine WO.buildSlice (l := [str [97], str [49]]) hS3 Tryz.underlying29 rfl (fun w => by kernel_rfl) rfl (fun g6 w5 lg6 hS5 => ?_)
 clear hS3
 have hS5 := hS5.own_of_cel (m := 1) (k := 2) rfl
 refine WO.val (run_build (v := Value.agg #[str [97], str [50]]) rfl (fun w => by kernel_rfl)) rfl rfl rfl ?_
 refine WO.val (run_build (v := Value.agg #[str [98], str [49]]) rfl (fun w => by kernel_rfl)) rfl rfl rfl ?_
 refine WO.buildSlice (l := [str [97], str [50], str [98], str [49]]) hS5 Tryz.underlying29 rfl (fun w => by kernel_rfl) rfl (fun g8 w7 lg8 hS7 => ?_)
 clear hS5
 have hS7 := hS7.own_of_cel (m := 2) (k := 2) rfl
 refine WO.buildSlice (l := [Value.slice (some ⟨g6, 0, none⟩) 1 1, Value.slice (some ⟨g8, 0, none⟩) 2 2]) hS7 Tryz.underlying27 rfl (fun w => by kernel_rfl) rfl (fun g10 w9 lg10 hS9 => ?_)
 clear hS7
 have hS9 := hS9.own_of_cel (m := 2) (k := 1) rfl
 refine WO.val (run_assign rfl) rfl rfl rfl ?_
 refine WO.nil ?_
 refine NX.go ?_
 refine WP.seq ?_
 have hj0 : St B (own (some ⟨g8, 0, none⟩) 2 2 35 2 [str [97], str [50], str [98], str [49]] :: own (some ⟨g6, 0, none⟩) 1 1 35 2 [str [97], str [49]] :: own (some ⟨g10, 0, none⟩) 2 2 29 1 [Value.slice (some ⟨g6, 0, none⟩) 1 1, Value.slice (some ⟨g8, 0, none⟩) 2 2] :: own (some ⟨g4, 0, none⟩) 3 3 3 1 (ri [2, 3, 5]) :: own (some ⟨g2, 0, none⟩) 3 3 3 1 (ri [3, 1, 2]) :: L) w9 := ((hS9.permT [2, 1, 0, 0, 0] (L' := own (some ⟨g6, 0, none⟩) 1 1 35 2 [str [97], str [49]] :: own (some ⟨g8, 0, none⟩) 2 2 35 2 [str [97], str [50], str [98], str [49]] :: own (some ⟨g10, 0, none⟩) 2 2 29 1 [Value.slice (some ⟨g6, 0, none⟩) 1 1, Value.slice (some ⟨g8, 0, none⟩) 2 2] :: own (some ⟨g4, 0, none⟩) 3 3 3 1 (ri [2, 3, 5]) :: own (some ⟨g2, 0, none⟩) 3 3 3 1 (ri [3, 1, 2]) :: L) rfl)).permT [1] rfl
 have hja : St B (own (some ⟨g8, 0, none⟩) 2 2 35 2 [str [97], str [50], str [98], str [49]] :: .pure True :: own (some ⟨g6, 0, none⟩) 1 1 35 2 [str [97], str [49]] :: own (some ⟨g10, 0, none⟩) 2 2 29 1 [Value.slice (some ⟨g6, 0, none⟩) 1 1, Value.slice (some ⟨g8, 0, none⟩) 2 2] :: own (some ⟨g4, 0, none⟩) 3 3 3 1 (ri [2, 3, 5]) :: own (some ⟨g2, 0, none⟩) 3 3 3 1 (ri [3, 1, 2]) :: L) w9 := (hj0.addPure (p := True) trivial).permT [1, 0] rfl
 have hj1 : St B (own (some ⟨g6, 0, none⟩) 1 1 35 2 [str [97], str [49]] :: HP.sep (own (some ⟨g8, 0, none⟩) 2 2 35 2 [str [97], str [50], str [98], str [49]]) (.pure True) :: own (some ⟨g10, 0, none⟩) 2 2 29 1 [Value.slice (some ⟨g6, 0, none⟩) 1 1, Value.slice (some ⟨g8, 0, none⟩) 2 2] :: own (some ⟨g4, 0, none⟩) 3 3 3 1 (ri [2, 3, 5]) :: own (some ⟨g2, 0, none⟩) 3 3 3 1 (ri [3, 1, 2]) :: L) w9 := hja.join.permT [1, 0] rfl
 have hS11 : St B ((HP.sep (own (some ⟨g10, 0, none⟩) 2 2 29 1 ([(⟨some ⟨g6, 0, none⟩, [⟨[97], [49]⟩], 1⟩ : RowV), ⟨some ⟨g8, 0, none⟩, [⟨[97], [50]⟩, ⟨[98], [49]⟩], 2⟩].flatMap rowc)) (ownRows [(⟨some ⟨g6, 0, none⟩, [⟨[97], [49]⟩], 1⟩ : RowV), ⟨some ⟨g8, 0, none⟩, [⟨[97], [50]⟩, ⟨[98], [49]⟩], 2⟩])) :: own (some ⟨g4, 0, none⟩) 3 3 3 1 (ri [2, 3, 5]) :: own (some ⟨g2, 0, none⟩) 3 3 3 1 (ri [3, 1, 2]) :: L) w9 := St.join (hj1.join.permT [1, 0] (L' := own (some ⟨g10, 0, none⟩) 2 2 29 1 [Value.slice (some ⟨g6, 0, none⟩) 1 1, Value.slice (some ⟨g8, 0, none⟩) 2 2] :: ownRows [(⟨some ⟨g6, 0, none⟩, [⟨[97], [49]⟩], 1⟩ : RowV), ⟨some ⟨g8, 0, none⟩, [⟨[97], [50]⟩, ⟨[98], [49]⟩], 2⟩] :: own (some ⟨g4, 0, none⟩) 3 3 3 1 (ri [2, 3, 5]) :: own (some ⟨g2, 0, none⟩) 3 3 3 1 (ri [3, 1, 2]) :: L) rfl)
 clear hS9
 refine WP.region rfl ?_
 refine WO.val (run_move rfl) rfl rfl rfl ?_
 refine WO.call rfl rfl Ty.hd11 rfl (pNew_spec (X := (HP.sep (own (some ⟨g10, 0, none⟩) 2 2 29 1 ([(⟨some ⟨g6, 0, none⟩, [⟨[97], [49]⟩], 1⟩ : RowV), ⟨some ⟨g8, 0, none⟩, [⟨[97], [50]⟩, ⟨[98], [49]⟩], 2⟩].flatMap rowc)) (ownRows [(⟨some ⟨g6, 0, none⟩, [⟨[97], [49]⟩], 1⟩ : RowV), ⟨some ⟨g8, 0, none⟩, [⟨[97], [50]⟩, ⟨[98], [49]⟩], 2⟩]))) (R := [(⟨some ⟨g6, 0, none⟩, [⟨[97], [49]⟩], 1⟩ : RowV), ⟨some ⟨g8, 0, none⟩, [⟨[97], [50]⟩, ⟨[98], [49]⟩], 2⟩]) (fun h => ⟨h.sep.own_rd.1, ownRows_rd (h.sep.permT [1, 0] rfl)⟩) (Nat.le_of_ble_eq_true rfl) (by intro r hr; simp only [List.mem_cons, List.mem_nil_iff, or_false] at hr; rcases hr with e | e <;> (subst e; exact Nat.le_of_ble_eq_true rfl)) hS11) (fun v13 w12 pv13 => ?_)
 obtain ⟨g, ar, cr, Q, rfl, hQ, hS12⟩ := pv13
 clear hS11
 replace hQ : Q.map RowV.l = [[(⟨[97], [49]⟩ : Pr)], [⟨[97], [50]⟩, ⟨[98], [49]⟩]] := hQ
 have hQn : Q.length = 2 := by have := congrArg List.length hQ; simpa using this
 have hQb : ∀ r ∈ Q, r.l.length ≤ 4398046511104 := by
  intro q hq
  have h1 : q.l ∈ Q.map RowV.l := List.mem_map_of_mem hq
  rw [hQ] at h1
  simp at h1
  rcases h1 with e | e <;> rw [e] <;> decide
 refine WO.val (run_assign rfl) rfl rfl rfl ?_
 refine WO.nil ?_
 refine NX.go ?_
 refine WP.seq ?_
 refine WP.region rfl ?_
 refine WO.val (run_move rfl) rfl rfl rfl ?_
 refine WO.val (run_neqNilP Tryz.underlying30 rfl rfl) rfl rfl rfl ?_
 refine WO.val (run_move rfl) rfl rfl rfl ?_
 refine WO.on rfl rfl rfl ?_
 refine WO.val (run_move rfl) rfl rfl rfl ?_
 refine WO.on rfl rfl rfl ?_
 refine WO.val (run_move rfl) rfl rfl rfl ?_
 refine WO.on rfl rfl rfl ?_
 have hS16 := hS12.permT [4, 3, 0, 0, 0] (L' := own (some ⟨g2, 0, none⟩) 3 3 3 1 (ri [3, 1, 2]) :: own (some ⟨g4, 0, none⟩) 3 3 3 1 (ri [2, 3, 5]) :: cel g [Value.slice ar Q.length cr, Value.int .u32 0, Value.int .i32 0, Value.int .u32 0, Value.map none] 57 :: (rowsP ar Q) :: (HP.sep (own (some ⟨g10, 0, none⟩) 2 2 29 1 ([(⟨some ⟨g6, 0, none⟩, [⟨[97], [49]⟩], 1⟩ : RowV), ⟨some ⟨g8, 0, none⟩, [⟨[97], [50]⟩, ⟨[98], [49]⟩], 2⟩].flatMap rowc)) (ownRows [(⟨some ⟨g6, 0, none⟩, [⟨[97], [49]⟩], 1⟩ : RowV), ⟨some ⟨g8, 0, none⟩, [⟨[97], [50]⟩, ⟨[98], [49]⟩], 2⟩])) :: L) rfl
 clear hS12
 refine WO.call rfl rfl Ty.hd7 rfl (pAnd_spec (l := [3, 1, 2]) (m := [2, 3, 5]) (fun h => h.own_rd.1) (fun h => h.own_rd.1) (Nat.le_of_ble_eq_true rfl) (Nat.le_of_ble_eq_true rfl) hS16) (fun v18 w17 pv18 => ?_)
 obtain ⟨a14, c15, hva14, hS17⟩ := pv18
 clear hS16
 rw [ev_and] at hva14 hS17
 subst hva14
 replace hS17 : St B (own a14 (([2, 3] : List Int).length) c15 3 1 (ri [2, 3]) :: own (some ⟨g2, 0, none⟩) 3 3 3 1 (ri [3, 1, 2]) :: own (some ⟨g4, 0, none⟩) 3 3 3 1 (ri [2, 3, 5]) :: cel g [Value.slice ar Q.length cr, Value.int .u32 0, Value.int .i32 0, Value.int .u32 0, Value.map none] 57 :: (rowsP ar Q) :: (HP.sep (own (some ⟨g10, 0, none⟩) 2 2 29 1 ([(⟨some ⟨g6, 0, none⟩, [⟨[97], [49]⟩], 1⟩ : RowV), ⟨some ⟨g8, 0, none⟩, [⟨[97], [50]⟩, ⟨[98], [49]⟩], 2⟩].flatMap rowc)) (ownRows [(⟨some ⟨g6, 0, none⟩, [⟨[97], [49]⟩], 1⟩ : RowV), ⟨some ⟨g8, 0, none⟩, [⟨[97], [50]⟩, ⟨[98], [49]⟩], 2⟩])) :: L) w17 := hS17
 refine WO.on rfl rfl rfl ?_
 refine WO.buildSlice (l := [Value.int .i64 2, Value.int .i64 3]) hS17 Tryz.underlying22 rfl (fun w => by kernel_rfl) rfl (fun g20 w19 lg20 hS19 => ?_)
 clear hS17
 have hS19 := hS19.own_of_cel (m := 2) (k := 1) rfl
 replace hS19 : St B (own (some ⟨g20, 0, none⟩) 2 2 3 1 (ri [2, 3]) :: own a14 (([2, 3] : List Int).length) c15 3 1 (ri [2, 3]) :: own (some ⟨g2, 0, none⟩) 3 3 3 1 (ri [3, 1, 2]) :: own (some ⟨g4, 0, none⟩) 3 3 3 1 (ri [2, 3, 5]) :: cel g [Value.slice ar Q.length cr, Value.int .u32 0, Value.int .i32 0, Value.int .u32 0, Value.map none] 57 :: (rowsP ar Q) :: (HP.sep (own (some ⟨g10, 0, none⟩) 2 2 29 1 ([(⟨some ⟨g6, 0, none⟩, [⟨[97], [49]⟩], 1⟩ : RowV), ⟨some ⟨g8, 0, none⟩, [⟨[97], [50]⟩, ⟨[98], [49]⟩], 2⟩].flatMap rowc)) (ownRows [(⟨some ⟨g6, 0, none⟩, [⟨[97], [49]⟩], 1⟩ : RowV), ⟨some ⟨g8, 0, none⟩, [⟨[97], [50]⟩, ⟨[98], [49]⟩], 2⟩])) :: L) w19 := hS19
 refine WO.on rfl rfl rfl ?_
 have hS21 := hS19.permT [1, 0, 0, 0, 0, 0, 0] (L' := own a14 (([2, 3] : List Int).length) c15 3 1 (ri [2, 3]) :: own (some ⟨g20, 0, none⟩) 2 2 3 1 (ri [2, 3]) :: own (some ⟨g2, 0, none⟩) 3 3 3 1 (ri [3, 1, 2]) :: own (some ⟨g4, 0, none⟩) 3 3 3 1 (ri [2, 3, 5]) :: cel g [Value.slice ar Q.length cr, Value.int .u32 0, Value.int .i32 0, Value.int .u32 0, Value.map none] 57 :: (rowsP ar Q) :: (HP.sep (own (some ⟨g10, 0, none⟩) 2 2 29 1 ([(⟨some ⟨g6, 0, none⟩, [⟨[97], [49]⟩], 1⟩ : RowV), ⟨some ⟨g8, 0, none⟩, [⟨[97], [50]⟩, ⟨[98], [49]⟩], 2⟩].flatMap rowc)) (ownRows [(⟨some ⟨g6, 0, none⟩, [⟨[97], [49]⟩], 1⟩ : RowV), ⟨some ⟨g8, 0, none⟩, [⟨[97], [50]⟩, ⟨[98], [49]⟩], 2⟩])) :: L) rfl
 clear hS19
 refine WO.call rfl rfl Ty.hd10 rfl (same_spec (l := [2, 3]) (m := [2, 3]) (fun h => h.own_rd.1) (fun h => h.own_rd.1) (Nat.le_of_ble_eq_true rfl) hS21) (fun v23 w22 pv23 => ?_)
 obtain ⟨hv, hS22⟩ := pv23
 clear hS21
 replace hv : v23 = Value.bool true := hv.trans (congrArg Value.bool (decide_eq_true rfl))
 subst hv
 replace hS22 : St B (own a14 (([2, 3] : List Int).length) c15 3 1 (ri [2, 3]) :: own (some ⟨g20, 0, none⟩) 2 2 3 1 (ri [2, 3]) :: own (some ⟨g2, 0, none⟩) 3 3 3 1 (ri [3, 1, 2]) :: own (some ⟨g4, 0, none⟩) 3 3 3 1 (ri [2, 3, 5]) :: cel g [Value.slice ar Q.length cr, Value.int .u32 0, Value.int .i32 0, Value.int .u32 0, Value.map none] 57 :: (rowsP ar Q) :: (HP.sep (own (some ⟨g10, 0, none⟩) 2 2 29 1 ([(⟨some ⟨g6, 0, none⟩, [⟨[97], [49]⟩], 1⟩ : RowV), ⟨some ⟨g8, 0, none⟩, [⟨[97], [50]⟩, ⟨[98], [49]⟩], 2⟩].flatMap rowc)) (ownRows [(⟨some ⟨g6, 0, none⟩, [⟨[97], [49]⟩], 1⟩ : RowV), ⟨some ⟨g8, 0, none⟩, [⟨[97], [50]⟩, ⟨[98], [49]⟩], 2⟩])) :: L) w22 := hS22
 have hS24 : St B (own (some ⟨g2, 0, none⟩) 3 3 3 1 (ri [3, 1, 2]) :: own (some ⟨g4, 0, none⟩) 3 3 3 1 (ri [2, 3, 5]) :: cel g [Value.slice ar Q.length cr, Value.int .u32 0, Value.int .i32 0, Value.int .u32 0, Value.map none] 57 :: (rowsP ar Q) :: L) w22 := (hS22.permT [0, 0, 4, 0, 0, 0, 0] (L' := own a14 (([2, 3] : List Int).length) c15 3 1 (ri [2, 3]) :: own (some ⟨g20, 0, none⟩) 2 2 3 1 (ri [2, 3]) :: (HP.sep (own (some ⟨g10, 0, none⟩) 2 2 29 1 ([(⟨some ⟨g6, 0, none⟩, [⟨[97], [49]⟩], 1⟩ : RowV), ⟨some ⟨g8, 0, none⟩, [⟨[97], [50]⟩, ⟨[98], [49]⟩], 2⟩].flatMap rowc)) (ownRows [(⟨some ⟨g6, 0, none⟩, [⟨[97], [49]⟩], 1⟩ : RowV), ⟨some ⟨g8, 0, none⟩, [⟨[97], [50]⟩, ⟨[98], [49]⟩], 2⟩])) :: own (some ⟨g2, 0, none⟩) 3 3 3 1 (ri [3, 1, 2]) :: own (some ⟨g4, 0, none⟩) 3 3 3 1 (ri [2, 3, 5]) :: cel g [Value.slice ar Q.length cr, Value.int .u32 0, Value.int .i32 0, Value.int .u32 0, Value.map none] 57 :: (rowsP ar Q) :: L) rfl).drop.drop.drop
 clear hS22
 refine WO.val (run_pickT rfl rfl rfl) rfl rfl rfl ?_
 refine WO.val (run_move rfl) rfl rfl rfl ?_
 refine WO.on rfl rfl rfl ?_
 refine WO.val (run_move rfl) rfl rfl rfl ?_
 refine WO.on rfl rfl rfl ?_
 refine WO.val (run_move rfl) rfl rfl rfl ?_
 refine WO.on rfl rfl rfl ?_
 refine WO.call rfl rfl Ty.hd8 rfl (pOr_spec (l := [3, 1, 2]) (m := [2, 3, 5]) (fun h => h.own_rd.1) (fun h => h.own_rd.1) (Nat.le_of_ble_eq_true rfl) (Nat.le_of_ble_eq_true rfl) hS24) (fun v28 w27 pv28 => ?_)
 obtain ⟨a25, c26, hva25, hS27⟩ := pv28
 clear hS24
 rw [ev_or] at hva25 hS27
 subst hva25
 replace hS27 : St B (own a25 (([1, 2, 3, 5] : List Int).length) c26 3 1 (ri [1, 2, 3, 5]) :: own (some ⟨g2, 0, none⟩) 3 3 3 1 (ri [3, 1, 2]) :: own (some ⟨g4, 0, none⟩) 3 3 3 1 (ri [2, 3, 5]) :: cel g [Value.slice ar Q.length cr, Value.int .u32 0, Value.int .i32 0, Value.int .u32 0, Value.map none] 57 :: (rowsP ar Q) :: L) w27 := hS27
 refine WO.on rfl rfl rfl ?_
 refine WO.buildSlice (l := [Value.int .i64 1, Value.int .i64 2, Value.int .i64 3, Value.int .i64 5]) hS27 Tryz.underlying22 rfl (fun w => by kernel_rfl) rfl (fun g30 w29 lg30 hS29 => ?_)
 clear hS27
 have hS29 := hS29.own_of_cel (m := 4) (k := 1) rfl
 replace hS29 : St B (own (some ⟨g30, 0, none⟩) 4 4 3 1 (ri [1, 2, 3, 5]) :: own a25 (([1, 2, 3, 5] : List Int).length) c26 3 1 (ri [1, 2, 3, 5]) :: own (some ⟨g2, 0, none⟩) 3 3 3 1 (ri [3, 1, 2]) :: own (some ⟨g4, 0, none⟩) 3 3 3 1 (ri [2, 3, 5]) :: cel g [Value.slice ar Q.length cr, Value.int .u32 0, Value.int .i32 0, Value.int .u32 0, Value.map none] 57 :: (rowsP ar Q) :: L) w29 := hS29
 refine WO.on rfl rfl rfl ?_
 have hS31 := hS29.permT [1, 0, 0, 0, 0, 0] (L' := own a25 (([1, 2, 3, 5] : List Int).length) c26 3 1 (ri [1, 2, 3, 5]) :: own (some ⟨g30, 0, none⟩) 4 4 3 1 (ri [1, 2, 3, 5]) :: own (some ⟨g2, 0, none⟩) 3 3 3 1 (ri [3, 1, 2]) :: own (some ⟨g4, 0, none⟩) 3 3 3 1 (ri [2, 3, 5]) :: cel g [Value.slice ar Q.length cr, Value.int .u32 0, Value.int .i32 0, Value.int .u32 0, Value.map none] 57 :: (rowsP ar Q) :: L) rfl
 clear hS29
 refine WO.call rfl rfl Ty.hd10 rfl (same_spec (l := [1, 2, 3, 5]) (m := [1, 2, 3, 5]) (fun h => h.own_rd.1) (fun h => h.own_rd.1) (Nat.le_of_ble_eq_true rfl) hS31) (fun v33 w32 pv33 => ?_)
 obtain ⟨hv, hS32⟩ := pv33
 clear hS31
 replace hv : v33 = Value.bool true := hv.trans (congrArg Value.bool (decide_eq_true rfl))
 subst hv
 replace hS32 : St B (own a25 (([1, 2, 3, 5] : List Int).length) c26 3 1 (ri [1, 2, 3, 5]) :: own (some ⟨g30, 0, none⟩) 4 4 3 1 (ri [1, 2, 3, 5]) :: own (some ⟨g2, 0, none⟩) 3 3 3 1 (ri [3, 1, 2]) :: own (some ⟨g4, 0, none⟩) 3 3 3 1 (ri [2, 3, 5]) :: cel g [Value.slice ar Q.length cr, Value.int .u32 0, Value.int .i32 0, Value.int .u32 0, Value.map none] 57 :: (rowsP ar Q) :: L) w32 := hS32
 have hS34 : St B (own (some ⟨g2, 0, none⟩) 3 3 3 1 (ri [3, 1, 2]) :: own (some ⟨g4, 0, none⟩) 3 3 3 1 (ri [2, 3, 5]) :: cel g [Value.slice ar Q.length cr, Value.int .u32 0, Value.int .i32 0, Value.int .u32 0, Value.map none] 57 :: (rowsP ar Q) :: L) w32 := hS32.drop.drop
 clear hS32
 refine WO.val (run_pickT rfl rfl rfl) rfl rfl rfl ?_
 refine WO.val (run_move rfl) rfl rfl rfl ?_
 refine WO.on rfl rfl rfl ?_
 refine WO.val (run_move rfl) rfl rfl rfl ?_
 refine WO.on rfl rfl rfl ?_
 refine WO.val (run_move rfl) rfl rfl rfl ?_
 refine WO.on rfl rfl rfl ?_
 refine WO.call rfl rfl Ty.hd9 rfl (pLess_spec (l := [3, 1, 2]) (m := [2, 3, 5]) (fun h => h.own_rd.1) (fun h => h.own_rd.1) (Nat.le_of_ble_eq_true rfl) (Nat.le_of_ble_eq_true rfl) hS34) (fun v38 w37 pv38 => ?_)
 obtain ⟨a35, c36, hva35, hS37⟩ := pv38
 clear hS34
 rw [ev_less] at hva35 hS37
 subst hva35
 replace hS37 : St B (own a35 (([1] : List Int).length) c36 3 1 (ri [1]) :: own (some ⟨g2, 0, none⟩) 3 3 3 1 (ri [3, 1, 2]) :: own (some ⟨g4, 0, none⟩) 3 3 3 1 (ri [2, 3, 5]) :: cel g [Value.slice ar Q.length cr, Value.int .u32 0, Value.int .i32 0, Value.int .u32 0, Value.map none] 57 :: (rowsP ar Q) :: L) w37 := hS37
 refine WO.on rfl rfl rfl ?_
 refine WO.buildSlice (l := [Value.int .i64 1]) hS37 Tryz.underlying22 rfl (fun w => by kernel_rfl) rfl (fun g40 w39 lg40 hS39 => ?_)
 clear hS37
 have hS39 := hS39.own_of_cel (m := 1) (k := 1) rfl
 replace hS39 : St B (own (some ⟨g40, 0, none⟩) 1 1 3 1 (ri [1]) :: own a35 (([1] : List Int).length) c36 3 1 (ri [1]) :: own (some ⟨g2, 0, none⟩) 3 3 3 1 (ri [3, 1, 2]) :: own (some ⟨g4, 0, none⟩) 3 3 3 1 (ri [2, 3, 5]) :: cel g [Value.slice ar Q.length cr, Value.int .u32 0, Value.int .i32 0, Value.int .u32 0, Value.map none] 57 :: (rowsP ar Q) :: L) w39 := hS39
 refine WO.on rfl rfl rfl ?_
 have hS41 := hS39.permT [1, 0, 0, 0, 0, 0] (L' := own a35 (([1] : List Int).length) c36 3 1 (ri [1]) :: own (some ⟨g40, 0, none⟩) 1 1 3 1 (ri [1]) :: own (some ⟨g2, 0, none⟩) 3 3 3 1 (ri [3, 1, 2]) :: own (some ⟨g4, 0, none⟩) 3 3 3 1 (ri [2, 3, 5]) :: cel g [Value.slice ar Q.length cr, Value.int .u32 0, Value.int .i32 0, Value.int .u32 0, Value.map none] 57 :: (rowsP ar Q) :: L) rfl
 clear hS39
 refine WO.call rfl rfl Ty.hd10 rfl (same_spec (l := [1]) (m := [1]) (fun h => h.own_rd.1) (fun h => h.own_rd.1) (Nat.le_of_ble_eq_true rfl) hS41) (fun v43 w42 pv43 => ?_)
 obtain ⟨hv, hS42⟩ := pv43
 clear hS41
 replace hv : v43 = Value.bool true := hv.trans (congrArg Value.bool (decide_eq_true rfl))
 subst hv
 replace hS42 : St B (own a35 (([1] : List Int).length) c36 3 1 (ri [1]) :: own (some ⟨g40, 0, none⟩) 1 1 3 1 (ri [1]) :: own (some ⟨g2, 0, none⟩) 3 3 3 1 (ri [3, 1, 2]) :: own (some ⟨g4, 0, none⟩) 3 3 3 1 (ri [2, 3, 5]) :: cel g [Value.slice ar Q.length cr, Value.int .u32 0, Value.int .i32 0, Value.int .u32 0, Value.map none] 57 :: (rowsP ar Q) :: L) w42 := hS42
 have hS44 : St B (own (some ⟨g2, 0, none⟩) 3 3 3 1 (ri [3, 1, 2]) :: own (some ⟨g4, 0, none⟩) 3 3 3 1 (ri [2, 3, 5]) :: cel g [Value.slice ar Q.length cr, Value.int .u32 0, Value.int .i32 0, Value.int .u32 0, Value.map none] 57 :: (rowsP ar Q) :: L) w42 := hS42.drop.drop
 clear hS42
 refine WO.val (run_pickT rfl rfl rfl) rfl rfl rfl ?_
 refine WO.val (run_move rfl) rfl rfl rfl ?_
 refine WO.on rfl rfl rfl ?_
 refine WO.val (run_move rfl) rfl rfl rfl ?_
 refine WO.on rfl rfl rfl ?_
 refine WO.val (run_build (v := Value.agg #[str [98], str [49]]) rfl (fun w => by kernel_rfl)) rfl rfl rfl ?_
 refine WO.on rfl rfl rfl ?_
 have hS45 := hS44.permT [2, 2, 0, 0] (L' := cel g [Value.slice ar Q.length cr, Value.int .u32 0, Value.int .i32 0, Value.int .u32 0, Value.map none] 57 :: (rowsP ar Q) :: own (some ⟨g2, 0, none⟩) 3 3 3 1 (ri [3, 1, 2]) :: own (some ⟨g4, 0, none⟩) 3 3 3 1 (ri [2, 3, 5]) :: L) rfl
 clear hS44
 refine WO.call rfl rfl Ty.hd14 rfl (pOf_spec (by omega) hQb (⟨[98], [49]⟩ : Pr) hS45) (fun v47 w46 pv47 => ?_)
 obtain ⟨a1, c1, rr, ds, hv1, hall, hS46⟩ := pv47
 clear hS45
 rw [hQ, ev_of] at hv1 hS46
 subst hv1
 replace hS46 : St B (own a1 (([1] : List Int).length) c1 3 1 (ri [1]) :: cel g [Value.slice ar Q.length cr, Value.int .u32 1, Value.int .i32 0, Value.int .u32 0, Value.map (some rr)] 57 :: (mpK encPr rr (ents ds)) :: (ownAll ds) :: (rowsP ar Q) :: own (some ⟨g2, 0, none⟩) 3 3 3 1 (ri [3, 1, 2]) :: own (some ⟨g4, 0, none⟩) 3 3 3 1 (ri [2, 3, 5]) :: L) w46 := hS46
 refine WO.on rfl rfl rfl ?_
 refine WO.buildSlice (l := [Value.int .i64 1]) hS46 Tryz.underlying22 rfl (fun w => by kernel_rfl) rfl (fun g49 w48 lg49 hS48 => ?_)
 clear hS46
 have hS48 := hS48.own_of_cel (m := 1) (k := 1) rfl
 replace hS48 : St B (own (some ⟨g49, 0, none⟩) 1 1 3 1 (ri [1]) :: own a1 (([1] : List Int).length) c1 3 1 (ri [1]) :: cel g [Value.slice ar Q.length cr, Value.int .u32 1, Value.int .i32 0, Value.int .u32 0, Value.map (some rr)] 57 :: (mpK encPr rr (ents ds)) :: (ownAll ds) :: (rowsP ar Q) :: own (some ⟨g2, 0, none⟩) 3 3 3 1 (ri [3, 1, 2]) :: own (some ⟨g4, 0, none⟩) 3 3 3 1 (ri [2, 3, 5]) :: L) w48 := hS48
 refine WO.on rfl rfl rfl ?_
 have hS50 := hS48.permT [1, 0, 0, 0, 0, 0, 0, 0] (L' := own a1 (([1] : List Int).length) c1 3 1 (ri [1]) :: own (some ⟨g49, 0, none⟩) 1 1 3 1 (ri [1]) :: cel g [Value.slice ar Q.length cr, Value.int .u32 1, Value.int .i32 0, Value.int .u32 0, Value.map (some rr)] 57 :: (mpK encPr rr (ents ds)) :: (ownAll ds) :: (rowsP ar Q) :: own (some ⟨g2, 0, none⟩) 3 3 3 1 (ri [3, 1, 2]) :: own (some ⟨g4, 0, none⟩) 3 3 3 1 (ri [2, 3, 5]) :: L) rfl
 clear hS48
 refine WO.call rfl rfl Ty.hd10 rfl (same_spec (l := [1]) (m := [1]) (fun h => h.own_rd.1) (fun h => h.own_rd.1) (Nat.le_of_ble_eq_true rfl) hS50) (fun v52 w51 pv52 => ?_)
 obtain ⟨hv, hS51⟩ := pv52
 clear hS50
 replace hv : v52 = Value.bool true := hv.trans (congrArg Value.bool (decide_eq_true rfl))
 subst hv
 replace hS51 : St B (own a1 (([1] : List Int).length) c1 3 1 (ri [1]) :: own (some ⟨g49, 0, none⟩) 1 1 3 1 (ri [1]) :: cel g [Value.slice ar Q.length cr, Value.int .u32 1, Value.int .i32 0, Value.int .u32 0, Value.map (some rr)] 57 :: (mpK encPr rr (ents ds)) :: (ownAll ds) :: (rowsP ar Q) :: own (some ⟨g2, 0, none⟩) 3 3 3 1 (ri [3, 1, 2]) :: own (some ⟨g4, 0, none⟩) 3 3 3 1 (ri [2, 3, 5]) :: L) w51 := hS51
 have hS53 : St B (cel g [Value.slice ar Q.length cr, Value.int .u32 1, Value.int .i32 0, Value.int .u32 0, Value.map (some rr)] 57 :: (rowsP ar Q) :: L) w51 := (hS51.permT [0, 0, 1, 1, 2, 2, 0, 0] (L' := own a1 (([1] : List Int).length) c1 3 1 (ri [1]) :: own (some ⟨g49, 0, none⟩) 1 1 3 1 (ri [1]) :: (mpK encPr rr (ents ds)) :: (ownAll ds) :: own (some ⟨g2, 0, none⟩) 3 3 3 1 (ri [3, 1, 2]) :: own (some ⟨g4, 0, none⟩) 3 3 3 1 (ri [2, 3, 5]) :: cel g [Value.slice ar Q.length cr, Value.int .u32 1, Value.int .i32 0, Value.int .u32 0, Value.map (some rr)] 57 :: (rowsP ar Q) :: L) rfl).drop.drop.drop.drop.drop.drop
 clear hS51
 refine WO.val (run_pickT rfl rfl rfl) rfl rfl rfl ?_
 refine WO.val (run_move rfl) rfl rfl rfl ?_
 refine WO.on rfl rfl rfl ?_
 refine WO.val (run_move rfl) rfl rfl rfl ?_
 refine WO.on rfl rfl rfl ?_
 refine WO.val (run_build (v := Value.agg #[Value.int .i64 2, str [97], str [49]]) rfl (fun w => by kernel_rfl)) rfl rfl rfl ?_
 refine WO.on rfl rfl rfl ?_
 refine WO.buildSlice (l := [Value.int .i64 2, str [97], str [49]]) hS53 Tryz.underlying28 rfl (fun w => by kernel_rfl) rfl (fun g55 w54 lg55 hS54 => ?_)
 clear hS53
 have hS54 := hS54.own_of_cel (m := 1) (k := 3) rfl
 refine WO.on rfl rfl rfl ?_
 have hS56 := hS54.permT [1, 1, 0] (L' := cel g [Value.slice ar Q.length cr, Value.int .u32 1, Value.int .i32 0, Value.int .u32 0, Value.map (some rr)] 57 :: (rowsP ar Q) :: own (some ⟨g55, 0, none⟩) 1 1 37 3 [Value.int .i64 2, str [97], str [49]] :: L) rfl
 clear hS54
 refine WO.call rfl rfl Ty.hd12 rfl (pFind_spec (M := own (some ⟨g55, 0, none⟩) 1 1 37 3 [Value.int .i64 2, str [97], str [49]]) (ms := [(⟨2, [97], [49]⟩ : Mt)]) (fun h => h.own_rd.1) (by omega) hQb (by intro m hm; simp at hm; subst hm; decide) (by decide) hS56) (fun v58 w57 pv58 => ?_)
 obtain ⟨a3, c3, hv3, hS57⟩ := pv58
 clear hS56
 rw [hQ, ev_find] at hv3 hS57
 subst hv3
 replace hS57 : St B (own a3 (([1] : List Int).length) c3 3 1 (ri [1]) :: cel g [Value.slice ar Q.length cr, Value.int .u32 1, Value.int .i32 0, Value.int .u32 0, Value.map (some rr)] 57 :: (rowsP ar Q) :: own (some ⟨g55, 0, none⟩) 1 1 37 3 [Value.int .i64 2, str [97], str [49]] :: L) w57 := hS57
 refine WO.on rfl rfl rfl ?_
 refine WO.buildSlice (l := [Value.int .i64 1]) hS57 Tryz.underlying22 rfl (fun w => by kernel_rfl) rfl (fun g60 w59 lg60 hS59 => ?_)
 clear hS57
 have hS59 := hS59.own_of_cel (m := 1) (k := 1) rfl
 replace hS59 : St B (own (some ⟨g60, 0, none⟩) 1 1 3 1 (ri [1]) :: own a3 (([1] : List Int).length) c3 3 1 (ri [1]) :: cel g [Value.slice ar Q.length cr, Value.int .u32 1, Value.int .i32 0, Value.int .u32 0, Value.map (some rr)] 57 :: (rowsP ar Q) :: own (some ⟨g55, 0, none⟩) 1 1 37 3 [Value.int .i64 2, str [97], str [49]] :: L) w59 := hS59
 refine WO.on rfl rfl rfl ?_
 have hS61 := hS59.permT [1, 0, 0, 0, 0] (L' := own a3 (([1] : List Int).length) c3 3 1 (ri [1]) :: own (some ⟨g60, 0, none⟩) 1 1 3 1 (ri [1]) :: cel g [Value.slice ar Q.length cr, Value.int .u32 1, Value.int .i32 0, Value.int .u32 0, Value.map (some rr)] 57 :: (rowsP ar Q) :: own (some ⟨g55, 0, none⟩) 1 1 37 3 [Value.int .i64 2, str [97], str [49]] :: L) rfl
 clear hS59
 refine WO.call rfl rfl Ty.hd10 rfl (same_spec (l := [1]) (m := [1]) (fun h => h.own_rd.1) (fun h => h.own_rd.1) (Nat.le_of_ble_eq_true rfl) hS61) (fun v63 w62 pv63 => ?_)
 obtain ⟨hv, hS62⟩ := pv63
 clear hS61
 replace hv : v63 = Value.bool true := hv.trans (congrArg Value.bool (decide_eq_true rfl))
 subst hv
 replace hS62 : St B (own a3 (([1] : List Int).length) c3 3 1 (ri [1]) :: own (some ⟨g60, 0, none⟩) 1 1 3 1 (ri [1]) :: cel g [Value.slice ar Q.length cr, Value.int .u32 1, Value.int .i32 0, Value.int .u32 0, Value.map (some rr)] 57 :: (rowsP ar Q) :: own (some ⟨g55, 0, none⟩) 1 1 37 3 [Value.int .i64 2, str [97], str [49]] :: L) w62 := hS62
 have hS64 : St B (cel g [Value.slice ar Q.length cr, Value.int .u32 1, Value.int .i32 0, Value.int .u32 0, Value.map (some rr)] 57 :: (rowsP ar Q) :: L) w62 := (hS62.permT [0, 0, 2, 0, 0] (L' := own a3 (([1] : List Int).length) c3 3 1 (ri [1]) :: own (some ⟨g60, 0, none⟩) 1 1 3 1 (ri [1]) :: own (some ⟨g55, 0, none⟩) 1 1 37 3 [Value.int .i64 2, str [97], str [49]] :: cel g [Value.slice ar Q.length cr, Value.int .u32 1, Value.int .i32 0, Value.int .u32 0, Value.map (some rr)] 57 :: (rowsP ar Q) :: L) rfl).drop.drop.drop
 clear hS62
 refine WO.val (run_pickT rfl rfl rfl) rfl rfl rfl ?_
 refine WO.val (run_assign rfl) rfl rfl rfl ?_
 refine WO.nil ?_
 refine NX.go ?_
 refine WP.ret ?_
 refine NX.done (l := [.tmp 0]) rfl rfl ?_
 exact ⟨rfl, hS64.drop.drop⟩
end Go.Proofs.YtogidmceomlkeaaGreatDoor.SL
