/- An index is made. -/
import Derived.Test.YtogidmceomlkeaaGreatDoorKi4
namespace Go.Proofs.YtogidmceomlkeaaGreatDoor.SL
open Go.RowKit Go.Proofs.YtogidmceomlkeaaGreatDoor
open Go.Proofs.YtogidmceomlkeaaGreatDoorW.PrintLast (rtab opsOf)
set_option linter.unusedVariables false
set_option linter.unusedSimpArgs false
theorem pNew_spec_t5 : rtab .any (opsOf Tryz.f11 5) = (true, [([], []), ([], []), ([1], [1]), ([2], [2]), ([3], [3]), ([], []), ([5], [5]), ([6], [6]), ([4, 7, 6], [4, 7]), ([0, 0, 1, 2, 3, 4, 5, 6, 7, 8], [0]), ([9, 0, 1, 2, 3, 4, 5, 6, 7, 8], [9]), ([10, 8, 8, 0, 1, 2, 3, 4, 5, 6, 7, 8], [8, 10])]) := by kernel_rfl
theorem pNew_spec {B w : World} {L : List HP} {X : HP} {a : Option Addr} {cap : Nat} {R : List RowV} (hX : ∀ {L : List HP} {w : World}, St B (X :: L) w → RdRows w a R) (hn : R.length ≤ 1000000000) (hbR : ∀ r ∈ R, r.l.length ≤ 4398046511104) (hS : St B (X :: L) w) : Does Tryz.prog 11 [Value.slice a R.length cap] w (fun v w1 => ∃ g ar cr Q, v = .pointer (some ⟨g, 0, none⟩) ∧ Q.map RowV.l = R.map RowV.l ∧ St B (cel g [.slice ar Q.length cr, .int .u32 0, .int .i32 0, .int .u32 0, .map none] 57 :: rowsP ar Q :: X :: L) w1) := by
 refine enter (n := 27) Tryz.func11 rfl rfl [Value.slice a R.length cap] rfl ?_
 refine WP.seq ?_
 refine WP.region rfl ?_
 refine WO.val (run_assign rfl) rfl rfl rfl ?_
 refine WO.nil ?_
 refine NX.go ?_
 refine WP.seq ?_
 refine WP.region rfl ?_
 refine WO.val (run_build (v := Value.agg #[Value.slice none 0 0, Value.int .u32 0, Value.int .i32 0, Value.int .u32 0, Value.map none]) rfl (fun w => by kernel_rfl)) rfl rfl rfl ?_
 refine WO.box (l := [Value.slice none 0 0, Value.int .u32 0, Value.int .i32 0, Value.int .u32 0, Value.map none]) hS rfl rfl rfl (fun g2 w1 lg2 hS1 => ?_)
 clear hS
 refine WO.val (run_assign rfl) rfl rfl rfl ?_
 refine WO.nil ?_
 refine NX.go ?_
 refine WP.seq ?_
 refine WP.seq ?_
 refine WP.region rfl ?_
 refine WO.val (run_move rfl) rfl rfl rfl ?_
 refine WO.val (run_len rfl Tryz.underlying27 rfl) rfl rfl rfl ?_
 refine WO.val (run_move rfl) rfl rfl rfl ?_
 refine WO.nil ?_
 refine NX.go ?_
 refine WP.block ?_
 have hq0 : St B (cel g2 [Value.slice none (([] : List RowV).length) 0, Value.int .u32 0, Value.int .i32 0, Value.int .u32 0, Value.map none] 57 :: own none (([] : List RowV).length) 0 29 1 (([] : List RowV).flatMap rowc) :: (roRows ([] : List RowV)) :: X :: L) w1 := (((hS1).addPure (p := True) trivial).own_nil 29 1).permT [2, 0, 0, 0] rfl
 refine WP.loop (α := Nat × List RowV × Option Addr × Nat) (fun x => match x with | ⟨i, Q, an, cn⟩ => [(0, Value.slice a R.length cap), (3, Value.pointer (some ⟨g2, 0, none⟩)), (8, Value.slice a R.length cap), (9, Value.int .i64 ((R.length : Nat) : Int)), (10, Value.int .i64 (i : Int))]) (fun x w => match x with | ⟨i, Q, an, cn⟩ => (i ≤ R.length ∧ Q.map RowV.l = (R.map RowV.l).take i) ∧ St B (cel g2 [Value.slice an Q.length cn, Value.int .u32 0, Value.int .i32 0, Value.int .u32 0, Value.map none] 57 :: own an Q.length cn 29 1 (Q.flatMap rowc) :: (roRows Q) :: X :: L) w) (fun x => match x with | ⟨i, Q, an, cn⟩ => R.length - i) (0, [], none, 0) ⟨⟨Nat.zero_le _, rfl⟩, hq0⟩ (Sub.cons rfl (Sub.cons rfl (Sub.cons rfl (Sub.cons rfl (Sub.consE rfl (by first | rfl | first | rfl | (congr 1; omega) | (simp; done) | (simp; omega)) (Sub.nil _)))))) ?_
 rintro ⟨i, Q, an, cn⟩ w3 ⟨⟨hi, hQ⟩, hS3⟩
 clear hS1
 have hQl : Q.length ≤ i := by have := congrArg List.length hQ; simp at this; omega
 refine WP.seq ?_
 refine WP.region rfl ?_
 refine WO.val (run_lss rfl rfl) rfl rfl rfl ?_
 refine WO.nil ?_
 refine NX.go ?_
 refine WP.seq ?_
 refine WP.condP rfl (fun g11 => ?_) (fun g11 => ?_)
 ·
  obtain ⟨r, hr⟩ : ∃ r, R[i]? = some r := ⟨_, List.getElem?_eq_getElem (by omega)⟩
  have hrm : r ∈ R := List.mem_of_getElem? hr
  have hrl := hbR r hrm
  refine WP.skip ?_
  refine NX.go ?_
  refine WP.seq ?_
  refine WP.block ?_
  refine WP.seq ?_
  refine WP.region rfl ?_
  refine WO.val (run_indexAddr (q := adr a i) Tryz.underlying27 Ty.sz29 rfl rfl (by omega) (by omega) (((fun h => (hX h).1) (hS3.focus 3 rfl)).2.1 (by omega)) (by simp)) rfl rfl rfl ?_
  refine WO.val (run_load Ty.ag29 rfl (((fun h => (hX h).1) (hS3.focus 3 rfl)).cell (row_get hr))) rfl rfl rfl ?_
  refine WO.val (run_assign rfl) rfl rfl rfl ?_
  refine WO.nil ?_
  refine NX.go ?_
  refine WD.start (fun w => (∀ j, World.cell? w ⟨g2, j, none⟩ = [Value.slice an Q.length cn, Value.int .u32 0, Value.int .i32 0, Value.int .u32 0, Value.map none][j]?)) [11] #[false, false, false, false, false, false, false, false, false, false, false, false] Ty.mo rfl (by kernel_rfl) hS3 (fun _ h => h.cel_at 0 rfl) (fun w4 hS4 s5 => ?_)
  clear hS3
  refine WD.pure (i := 0) pNew_spec_t5 #[true, false, false, false, false, false, false, false, false, false, false, false] rfl rfl rfl (by kernel_rfl) (PQ.blk (PQ.then (PQ.then (PQ.blk (PQ.then PQ.body))))) rfl (fun w => run_move rfl) ?_
  refine WD.pure (i := 1) pNew_spec_t5 #[true, true, false, false, false, false, false, false, false, false, false, false] rfl rfl rfl (by kernel_rfl) (PQ.blk (PQ.then (PQ.then (PQ.blk (PQ.then PQ.body))))) rfl (fun w => run_move rfl) ?_
  refine WD.pure (i := 2) pNew_spec_t5 #[true, true, true, false, false, false, false, false, false, false, false, false] rfl rfl rfl (by kernel_rfl) (PQ.blk (PQ.then (PQ.then (PQ.blk (PQ.then PQ.body))))) rfl (fun w => run_nilCheck rfl) ?_
  refine WD.pure (i := 3) pNew_spec_t5 #[true, true, true, true, false, false, false, false, false, false, false, false] rfl rfl rfl (by kernel_rfl) (PQ.blk (PQ.then (PQ.then (PQ.blk (PQ.then PQ.body))))) rfl (fun w => run_fieldAddr (q := ⟨g2, 0, none⟩) (show fieldB Tryz.prog 57 0 = some 0 from by kernel_rfl) rfl rfl) ?_
  refine WD.take (i := 4) pNew_spec_t5 #[true, true, true, true, true, false, false, false, false, false, false, false] s5 rfl rfl rfl (by kernel_rfl) (PQ.blk (PQ.then (PQ.then (PQ.blk (PQ.then PQ.body))))) rfl (fun w hs => run_load Ty.ag27 rfl ((hs 0).trans rfl)) ?_
  refine WD.pure (i := 5) pNew_spec_t5 #[true, true, true, true, true, true, false, false, false, false, false, false] rfl rfl rfl (by kernel_rfl) (PQ.blk (PQ.then (PQ.then (PQ.blk (PQ.then PQ.body))))) rfl (fun w => run_move rfl) ?_
  refine WD.one (i := 6) pNew_spec_t5 #[true, true, true, true, true, true, true, false, false, false, false, false] rfl (by kernel_rfl) ?_
  have hS6 := hS4.permT [3, 0, 0, 0] (L' := X :: cel g2 [Value.slice an Q.length cn, Value.int .u32 0, Value.int .i32 0, Value.int .u32 0, Value.map none] 57 :: own an Q.length cn 29 1 (Q.flatMap rowc) :: (roRows Q) :: L) rfl
  clear hS4
  refine WO.call rfl rfl Ty.hd19 rfl (clonep_spec (fun h => (hX h).2 r hrm) hrl hS6) (fun v8 w7 pv8 => ?_)
  obtain ⟨a1, c1, rfl, hS7⟩ := pv8
  clear hS6
  refine WO.nil ?_
  have s9 : (∀ j, World.cell? w7 ⟨g2, j, none⟩ = [Value.slice an Q.length cn, Value.int .u32 0, Value.int .i32 0, Value.int .u32 0, Value.map none][j]?) := hS7.cel_at 2 rfl
  refine NX.held s9 ?_
  refine WD.one (i := 7) pNew_spec_t5 #[true, true, true, true, true, true, true, true, false, false, false, false] rfl (by kernel_rfl) ?_
  refine WO.buildSlice (l := [Value.slice a1 r.l.length c1]) hS7 Tryz.underlying27 rfl (fun w => by kernel_rfl) rfl (fun g11 w10 lg11 hS10 => ?_)
  clear hS7
  have hS10 := hS10.own_of_cel (m := 1) (k := 1) rfl
  refine WO.nil ?_
  have s12 : (∀ j, World.cell? w10 ⟨g2, j, none⟩ = [Value.slice an Q.length cn, Value.int .u32 0, Value.int .i32 0, Value.int .u32 0, Value.map none][j]?) := hS10.cel_at 3 rfl
  refine NX.held s12 ?_
  refine WD.one (i := 8) pNew_spec_t5 #[true, true, true, true, true, true, true, true, true, false, false, false] rfl (by kernel_rfl) ?_
  refine WO.append (news := [Value.slice a1 r.l.length c1]) 4 rfl Tryz.underlying27 Tryz.underlying27 (fun _ h => by cases h) Ty.sz29 (by decide) Ty.by29 Ty.zr29 rfl rfl rfl rfl hS10 rfl ((hS10.own_rd_i 0 rfl).src) rfl (by omega) (by omega) (fun a14 c15 w13 hS13 => ?_)
  replace hS13 : St B (own (some ⟨g11, 0, none⟩) 1 1 29 1 [Value.slice a1 r.l.length c1] :: own a1 r.l.length c1 35 2 (r.l.flatMap prc) :: X :: cel g2 [Value.slice an Q.length cn, Value.int .u32 0, Value.int .i32 0, Value.int .u32 0, Value.map none] 57 :: own a14 (Q.length + 1) c15 29 1 ((Q.flatMap rowc) ++ [Value.slice a1 r.l.length c1]) :: (roRows Q) :: L) w13 := hS13
  clear hS10
  refine WO.nil ?_
  have s16 : (∀ j, World.cell? w13 ⟨g2, j, none⟩ = [Value.slice an Q.length cn, Value.int .u32 0, Value.int .i32 0, Value.int .u32 0, Value.map none][j]?) := hS13.cel_at 3 rfl
  refine NX.held s16 ?_
  refine WD.pure (i := 9) pNew_spec_t5 #[true, true, true, true, true, true, true, true, true, true, false, false] rfl rfl rfl (by kernel_rfl) (PQ.blk (PQ.then (PQ.then (PQ.blk (PQ.then PQ.body))))) rfl (fun w => run_nilCheck rfl) ?_
  refine WD.pure (i := 10) pNew_spec_t5 #[true, true, true, true, true, true, true, true, true, true, true, false] rfl rfl rfl (by kernel_rfl) (PQ.blk (PQ.then (PQ.then (PQ.blk (PQ.then PQ.body))))) rfl (fun w => run_fieldAddr (q := ⟨g2, 0, none⟩) (show fieldB Tryz.prog 57 0 = some 0 from by kernel_rfl) rfl rfl) ?_
  refine WD.one (i := 11) pNew_spec_t5 #[true, true, true, true, true, true, true, true, true, true, true, true] rfl (by kernel_rfl) ?_
  refine WO.store (l' := [Value.slice a14 (Q.length + 1) c15, Value.int .u32 0, Value.int .i32 0, Value.int .u32 0, Value.map none]) 3 hS13 rfl Ty.sz27 rfl rfl rfl rfl rfl (Nat.le_of_ble_eq_true rfl) rfl (fun w17 (hS17 : St B (own (some ⟨g11, 0, none⟩) 1 1 29 1 [Value.slice a1 r.l.length c1] :: own a1 r.l.length c1 35 2 (r.l.flatMap prc) :: X :: cel g2 [Value.slice a14 (Q.length + 1) c15, Value.int .u32 0, Value.int .i32 0, Value.int .u32 0, Value.map none] 57 :: own a14 (Q.length + 1) c15 29 1 ((Q.flatMap rowc) ++ [Value.slice a1 r.l.length c1]) :: (roRows Q) :: L) w17) => ?_)
  clear hS13
  refine WO.nil ?_
  refine NX.last (by decide) ?_
  refine WD.done pNew_spec_t5 (by kernel_rfl) ?_
  refine NX.blk ?_
  refine NX.go ?_
  refine WP.region rfl ?_
  refine WO.val (run_add rfl rfl (IntWalk.i64_in _ (by omega))) rfl rfl rfl ?_
  refine WO.val (run_move rfl) rfl rfl rfl ?_
  refine WO.nil ?_
  have hk1 := ((hS17.permT [0, 0, 3, 1, 1, 0] (L' := own (some ⟨g11, 0, none⟩) 1 1 29 1 [Value.slice a1 r.l.length c1] :: own a1 r.l.length c1 35 2 (r.l.flatMap prc) :: (roRows Q) :: cel g2 [Value.slice a14 (Q.length + 1) c15, Value.int .u32 0, Value.int .i32 0, Value.int .u32 0, Value.map none] 57 :: own a14 (Q.length + 1) c15 29 1 ((Q.flatMap rowc) ++ [Value.slice a1 r.l.length c1]) :: X :: L) rfl).drop).own_seal.permT [1, 0] (L' := roRows Q :: ro a1 r.l.length 35 2 (r.l.flatMap prc) :: cel g2 [Value.slice a14 (Q.length + 1) c15, Value.int .u32 0, Value.int .i32 0, Value.int .u32 0, Value.map none] 57 :: own a14 (Q.length + 1) c15 29 1 ((Q.flatMap rowc) ++ [Value.slice a1 r.l.length c1]) :: X :: L) rfl
  have hk2 := roRows_snoc (r := ⟨a1, r.l, c1⟩) hk1
  have hQ1 : Q.length + 1 = (Q ++ [(⟨a1, r.l, c1⟩ : RowV)]).length := by simp
  have hk3 : St B (cel g2 [Value.slice a14 ((Q ++ [(⟨a1, r.l, c1⟩ : RowV)]).length) c15, Value.int .u32 0, Value.int .i32 0, Value.int .u32 0, Value.map none] 57 :: own a14 ((Q ++ [(⟨a1, r.l, c1⟩ : RowV)]).length) c15 29 1 ((Q ++ [(⟨a1, r.l, c1⟩ : RowV)]).flatMap rowc) :: (roRows (Q ++ [(⟨a1, r.l, c1⟩ : RowV)])) :: X :: L) w17 := (own_len (hk2.permT [2, 1, 0] (L' := own a14 (Q.length + 1) c15 29 1 ((Q.flatMap rowc) ++ [Value.slice a1 r.l.length c1]) :: cel g2 [Value.slice a14 (Q.length + 1) c15, Value.int .u32 0, Value.int .i32 0, Value.int .u32 0, Value.map none] 57 :: roRows (Q ++ [⟨a1, r.l, c1⟩]) :: X :: L) rfl) hQ1 (show (Q.flatMap rowc) ++ [Value.slice a1 r.l.length c1] = (Q ++ [(⟨a1, r.l, c1⟩ : RowV)]).flatMap rowc by simp [rowc])).permT [1, 0] (by rw [← hQ1]; rfl)
  exact NX.again (i + 1, Q ++ [⟨a1, r.l, c1⟩], a14, c15) ⟨⟨by omega, by rw [List.map_append, hQ, List.take_add_one, List.getElem?_map, hr]; rfl⟩, hk3⟩ (by show R.length - (i + 1) < R.length - i; omega) (Sub.cons rfl (Sub.cons rfl (Sub.cons rfl (Sub.cons rfl (Sub.consE rfl (by congr 1) (Sub.nil _))))))
 ·
  refine WP.exit ?_
  refine NX.thenExit ?_
  refine NX.thenExit ?_
  refine NX.blkExit ?_
  refine NX.go ?_
  refine WP.seq ?_
  refine WP.region rfl ?_
  refine WO.val (run_move rfl) rfl rfl rfl ?_
  refine WO.val (run_assign rfl) rfl rfl rfl ?_
  refine WO.nil ?_
  refine NX.go ?_
  refine WP.ret ?_
  refine NX.done (l := [.tmp 2]) rfl rfl ?_
  have hQQ : Q.map RowV.l = R.map RowV.l := by rw [hQ, List.take_of_length_le (by simp; omega)]
  have hk := (hS3.permT [1, 1, 0, 0] (L' := own an Q.length cn 29 1 (Q.flatMap rowc) :: (roRows Q) :: cel g2 [Value.slice an Q.length cn, Value.int .u32 0, Value.int .i32 0, Value.int .u32 0, Value.map none] 57 :: X :: L) rfl)
  have hk1 := hk.own_seal.join
  exact ⟨g2, an, cn, Q, rfl, hQQ, hk1.permT [1, 0] rfl⟩
end Go.Proofs.YtogidmceomlkeaaGreatDoor.SL
