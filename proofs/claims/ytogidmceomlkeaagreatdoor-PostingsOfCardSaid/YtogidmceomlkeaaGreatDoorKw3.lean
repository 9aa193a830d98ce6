/- What two rows of matchers ask for. -/
import Derived.Test.YtogidmceomlkeaaGreatDoorKw2
namespace Go.Proofs.YtogidmceomlkeaaGreatDoor.SL
open Go.RowKit Go.Proofs.YtogidmceomlkeaaGreatDoor
open Go.Proofs.YtogidmceomlkeaaGreatDoorW.PrintLast (rtab opsOf)
set_option linter.unusedVariables false
set_option linter.unusedSimpArgs false

theorem idxGo_asc (f : List Pr → Bool) : ∀ (l : List (List Pr)) (j : Nat), Asc (idxGo f j l) ∧ ∀ z, z ∈ idxGo f j l → (j : Int) ≤ z
  | [], j => ⟨List.Pairwise.nil, fun z h => by cases h⟩
  | r :: l, j => by
    obtain ⟨h1, h2⟩ := idxGo_asc f l (j + 1)
    simp only [idxGo]
    refine ⟨List.pairwise_append.2 ⟨by split <;> simp, h1, fun a ha b hb => ?_⟩, fun z hz => ?_⟩
    · split at ha
      · simp at ha; have := h2 b hb; omega
      · cases ha
    · rcases List.mem_append.1 hz with h | h
      · split at h
        · simp at h; omega
        · cases h
      · have := h2 z h; omega
theorem idxGo_and (f g h : List Pr → Bool) (e : ∀ r, h r = (f r && g r)) : ∀ (l : List (List Pr)) (j : Nat) (z : Int), z ∈ idxGo h j l ↔ z ∈ idxGo f j l ∧ z ∈ idxGo g j l
  | [], j, z => by simp [idxGo]
  | r :: l, j, z => by
    have ih := idxGo_and f g h e l (j + 1) z
    have k1 := (idxGo_asc f l (j + 1)).2 z
    have k2 := (idxGo_asc g l (j + 1)).2 z
    simp only [idxGo, List.mem_append, ih, e r]
    by_cases hz : z = (j : Int)
    · subst hz
      have n1 : ¬ (j : Int) ∈ idxGo f (j + 1) l := fun h => by have := k1 h; omega
      have n2 : ¬ (j : Int) ∈ idxGo g (j + 1) l := fun h => by have := k2 h; omega
      cases f r <;> cases g r <;> simp [n1, n2]
    · cases f r <;> cases g r <;> simp [hz]
theorem mgo_append : ∀ (a b : List Mt), mgo (a ++ b) = 0 ↔ mgo a = 0 ∧ mgo b = 0
  | [], b => by simp [mgo]
  | m :: a, b => by
    have := mgo_append a b
    simp only [List.cons_append, mgo]
    by_cases h : rightF m = 0
    · simp [h, this]
    · simp [h]
theorem isF_append {ms ns : List Mt} (h : ms.length + ns.length ≤ 8) (r : List Pr) : isF (ms ++ ns) r = (isF ms r && isF ns r) := by
  have e : decide (mchk (ms ++ ns) = 0) = (decide (mchk ms = 0) && decide (mchk ns = 0)) := by
    unfold mchk
    rw [if_neg (by rw [List.length_append]; omega), if_neg (by omega), if_neg (by omega), ← Bool.decide_and]
    exact decide_eq_decide.2 (mgo_append ms ns)
  unfold isF
  rw [e, List.all_append]
  cases decide (mchk ms = 0) <;> cases decide (mchk ns = 0) <;> simp
theorem find_append {ms ns : List Mt} (h : ms.length + ns.length ≤ 8) (rows : List (List Pr)) : findF rows (ms ++ ns) = pickF fAnd (findF rows ms) (findF rows ns) := by
  refine asc_ext (idxGo_asc _ _ _).1 (pickF_spec fAnd _ _).1 fun z => ?_
  rw [mem_pAnd]
  exact idxGo_and _ _ _ (isF_append h) rows 0 z

theorem sz_append {ms ns : List Mt} (h : SzM ms) (k : SzM ns) : SzM (ms ++ ns) := fun m hm => by rcases List.mem_append.1 hm with e | e; exact h m e; exact k m e
set_option maxHeartbeats 2000000 in
theorem postingsMore_core {B w : World} {L : List HP} {a b c : Option Addr} {cap cap2 cap3 : Nat} {R : List RowV} {ms ns : List Mt} (hA : RdRows B a R) (hL : Rd B b ms.length 3 (ms.flatMap mtc)) (hN : Rd B c ns.length 3 (ns.flatMap mtc)) (hmz : SzM ms) (hnz : SzM ns) (hpz : ∀ r ∈ R, r.l.length ≤ 4398046511104) (hml : ms.length ≤ 1000000000000000) (hnl : ns.length ≤ 1000000000000000) (hS : St B L w) : Does Tryz.prog 4 [Value.slice a R.length cap, Value.slice b ms.length cap2, Value.slice c ns.length cap3] w (fun v w1 => v = .bool true ∧ St B L w1) := by
 replace hS := ((hS.addPure (p := True) trivial).addPure (p := True) trivial).addPure (p := True) trivial
 refine enter (n := 55) Tryz.func4 rfl rfl [Value.slice a R.length cap, Value.slice b ms.length cap2, Value.slice c ns.length cap3] rfl ?_
 refine WP.seq ?_
 refine WP.region rfl ?_
 refine WO.val (run_assign rfl) rfl rfl rfl ?_
 refine WO.nil ?_
 refine NX.go ?_
 refine WP.seq ?_
 refine WP.seq ?_
 refine WP.region rfl ?_
 refine WO.call rfl rfl Ty.hd6 rfl (pworks_spec hS) (fun v2 w1 pv2 => ?_)
 obtain ⟨rfl, hS1⟩ := pv2
 clear hS
 refine WO.val (run_not rfl rfl) rfl rfl rfl ?_
 refine WO.nil ?_
 refine NX.go ?_
 refine WP.condF rfl (notB_t rfl) ?_
 refine WP.skip ?_
 refine NX.go ?_
 refine WP.seq ?_
 refine WP.seq ?_
 refine WP.region rfl ?_
 refine WO.val (run_move rfl) rfl rfl rfl ?_
 refine WO.val (run_len rfl Tryz.underlying27 rfl) rfl rfl rfl ?_
 refine WO.val (run_gtr rfl rfl) rfl rfl rfl ?_
 refine WO.val (run_move rfl) rfl rfl rfl ?_
 by_cases g15 : 60 < ((R.length : Nat) : Int)
 ·
  refine WO.off rfl rfl (decide_eq_true g15) rfl ?_
  refine WO.off rfl rfl (decide_eq_true g15) rfl ?_
  refine WO.off rfl rfl (decide_eq_true g15) rfl ?_
  refine WO.off rfl rfl (decide_eq_true g15) rfl ?_
  refine WO.off rfl rfl (decide_eq_true g15) rfl ?_
  refine WO.off rfl rfl (decide_eq_true g15) rfl ?_
  refine WO.val (run_pickT rfl (decide_eq_true g15) rfl) rfl rfl rfl ?_
  refine WO.nil ?_
  refine NX.go ?_
  refine WP.condT rfl rfl ?_
  refine WP.seq ?_
  refine WP.region rfl ?_
  refine WO.val (run_assign rfl) rfl rfl rfl ?_
  refine WO.nil ?_
  refine NX.go ?_
  refine WP.ret ?_
  refine NX.thenRet ?_
  refine NX.done (l := [.tmp 6]) rfl rfl ?_
  exact ⟨rfl, hS1.drop.drop.drop⟩
 ·
  refine WO.on rfl rfl (decide_eq_false g15) ?_
  refine WO.val (run_move rfl) rfl rfl rfl ?_
  refine WO.on rfl rfl (decide_eq_false g15) ?_
  refine WO.val (run_len rfl Tryz.underlying28 rfl) rfl rfl rfl ?_
  refine WO.on rfl rfl (decide_eq_false g15) ?_
  refine WO.val (run_move rfl) rfl rfl rfl ?_
  refine WO.on rfl rfl (decide_eq_false g15) ?_
  refine WO.val (run_len rfl Tryz.underlying28 rfl) rfl rfl rfl ?_
  refine WO.on rfl rfl (decide_eq_false g15) ?_
  refine WO.val (run_add rfl rfl (IntWalk.i64_in _ (by omega))) rfl rfl rfl ?_
  refine WO.on rfl rfl (decide_eq_false g15) ?_
  refine WO.val (run_gtr rfl rfl) rfl rfl rfl ?_
  refine WO.val (run_pickF rfl (decide_eq_false g15) rfl) rfl rfl rfl ?_
  refine WO.nil ?_
  refine NX.go ?_
  refine WP.condP rfl (fun g22 => ?_) (fun g22 => ?_)
  ·
   refine WP.seq ?_
   refine WP.region rfl ?_
   refine WO.val (run_assign rfl) rfl rfl rfl ?_
   refine WO.nil ?_
   refine NX.go ?_
   refine WP.ret ?_
   refine NX.thenRet ?_
   refine NX.done (l := [.tmp 6]) rfl rfl ?_
   exact ⟨rfl, hS1.drop.drop.drop⟩
  ·
   refine WP.skip ?_
   refine NX.go ?_
   refine WP.seq ?_
   refine WP.seq ?_
   refine WP.region rfl ?_
   refine WO.val (run_assign rfl) rfl rfl rfl ?_
   refine WO.nil ?_
   refine NX.go ?_
   refine WP.block ?_
   refine WP.loop (α := Nat) (fun x => match x with | i => [(0, Value.slice a R.length cap), (1, Value.slice b ms.length cap2), (2, Value.slice c ns.length cap3), (7, Value.int .i64 (i : Int))]) (fun x w => match x with | i => (i ≤ R.length) ∧ St B ((.pure True) :: (.pure True) :: (.pure True) :: L) w) (fun x => match x with | i => R.length - i) 0 ⟨Nat.zero_le _, hS1⟩ (Sub.cons rfl (Sub.cons rfl (Sub.cons rfl (Sub.consE rfl (by first | rfl | first | rfl | (congr 1; omega) | (simp; done) | (simp; omega)) (Sub.nil _))))) ?_
   rintro i w3 ⟨hi, hS3⟩
   clear hS1
   refine WP.seq ?_
   refine WP.seq ?_
   refine WP.region rfl ?_
   refine WO.val (run_move rfl) rfl rfl rfl ?_
   refine WO.val (run_move rfl) rfl rfl rfl ?_
   refine WO.val (run_len rfl Tryz.underlying27 rfl) rfl rfl rfl ?_
   refine WO.val (run_lss rfl rfl) rfl rfl rfl ?_
   refine WO.nil ?_
   refine NX.go ?_
   refine WP.condP rfl (fun g26 => ?_) (fun g26 => ?_)
   ·
    obtain ⟨r, hr⟩ : ∃ r, R[i]? = some r := ⟨_, List.getElem?_eq_getElem (by omega)⟩
    have hrz := hpz r (List.mem_of_getElem? hr)
    refine WP.skip ?_
    refine NX.go ?_
    refine WP.seq ?_
    refine WP.block ?_
    refine WP.seq ?_
    refine WP.region rfl ?_
    refine WO.val (run_move rfl) rfl rfl rfl ?_
    refine WO.val (run_move rfl) rfl rfl rfl ?_
    refine WO.val (run_indexAddr (q := adr a i) Tryz.underlying27 Ty.sz29 rfl rfl (by omega) (by omega) (((fun h => St.rdB h hA.1) (hS3.focus 0 rfl)).2.1 (by omega)) (by simp)) rfl rfl rfl ?_
    refine WO.val (run_load Ty.ag29 rfl (((fun h => St.rdB h hA.1) (hS3.focus 0 rfl)).cell (row_get hr))) rfl rfl rfl ?_
    refine WO.val (run_len rfl Tryz.underlying29 rfl) rfl rfl rfl ?_
    refine WO.val (run_gtr rfl rfl) rfl rfl rfl ?_
    refine WO.nil ?_
    refine NX.go ?_
    refine WP.condP rfl (fun g34 => ?_) (fun g34 => ?_)
    ·
     refine WP.seq ?_
     refine WP.region rfl ?_
     refine WO.val (run_assign rfl) rfl rfl rfl ?_
     refine WO.nil ?_
     refine NX.go ?_
     refine WP.ret ?_
     refine NX.blkRet ?_
     refine NX.thenRet ?_
     refine NX.thenRet ?_
     refine NX.blkRet ?_
     refine NX.thenRet ?_
     refine NX.done (l := [.tmp 6]) rfl rfl ?_
     exact ⟨rfl, hS3.drop.drop.drop⟩
    ·
     refine WP.skip ?_
     refine NX.blk ?_
     refine NX.go ?_
     refine WP.region rfl ?_
     refine WO.val (run_move rfl) rfl rfl rfl ?_
     refine WO.val (run_add rfl rfl (IntWalk.i64_in _ (by omega))) rfl rfl rfl ?_
     refine WO.val (run_assign rfl) rfl rfl rfl ?_
     refine WO.nil ?_
     exact NX.again (i + 1) ⟨by omega, hS3⟩ (by show R.length - (i + 1) < R.length - i; omega) (Sub.cons rfl (Sub.cons rfl (Sub.cons rfl (Sub.consE rfl (by congr 1) (Sub.nil _)))))
   ·
    refine WP.exit ?_
    refine NX.thenExit ?_
    refine NX.thenExit ?_
    refine NX.blkExit ?_
    refine NX.go ?_
    refine WP.seq ?_
    refine WP.region rfl ?_
    refine WO.val (run_move rfl) rfl rfl rfl ?_
    refine WO.call rfl rfl Ty.hd11 rfl (pNew_spec (X := .pure True) (fun h => rdRowsB h hA) (by omega) hpz hS3) (fun v5 w4 pv5 => ?_)
    obtain ⟨g, ar, cr, Q, rfl, hQ, hS4⟩ := pv5
    clear hS3
    have hQn : Q.length = R.length := by have := congrArg List.length hQ; simpa using this
    have hQb : ∀ r ∈ Q, r.l.length ≤ 4398046511104 := by
     intro q hq
     have h1 : q.l ∈ Q.map RowV.l := List.mem_map_of_mem hq
     rw [hQ] at h1
     obtain ⟨r, hr, e⟩ := List.mem_map.1 h1
     rw [← e]; exact hpz r hr
    refine WO.val (run_assign rfl) rfl rfl rfl ?_
    refine WO.nil ?_
    refine NX.go ?_
    refine WP.seq ?_
    refine WP.seq ?_
    refine WP.region rfl ?_
    refine WO.val (run_move rfl) rfl rfl rfl ?_
    refine WO.val (run_eqlNilP Tryz.underlying30 rfl rfl) rfl rfl rfl ?_
    refine WO.nil ?_
    refine NX.go ?_
    refine WP.condF rfl rfl ?_
    refine WP.skip ?_
    refine NX.go ?_
    refine WP.seq ?_
    refine WP.region rfl ?_
    refine WO.buildSlice (l := []) hS4 Tryz.underlying28 rfl (fun w => by kernel_rfl) rfl (fun g7 w6 lg7 hS6 => ?_)
    clear hS4
    have hS6 := hS6.own_of_cel (m := 0) (k := 3) rfl
    refine WO.val (run_move rfl) rfl rfl rfl ?_
    refine WO.append (news := (ms.flatMap mtc)) 0 rfl Tryz.underlying28 Tryz.underlying28 (fun _ h => by cases h) Ty.sz37 (by decide) Ty.by37 Ty.zr37 rfl rfl rfl rfl hS6 rfl (((fun h => St.rdB h hL) (hS6.focus 4 rfl)).src) (mts_noAgg ms) (by omega) (by omega) (fun a9 c10 w8 hS8 => ?_)
    replace hS8 : St B (own a9 ms.length c10 37 3 (ms.flatMap mtc) :: cel g [Value.slice ar Q.length cr, Value.int .u32 0, Value.int .i32 0, Value.int .u32 0, Value.map none] 57 :: (rowsP ar Q) :: (.pure True) :: (.pure True) :: (.pure True) :: L) w8 := own_len hS8 (by omega) rfl
    refine WO.as (d := 41) (v := Value.slice a9 ms.length c10) rfl (congrArg (fun z => Value.slice _ z _) (Nat.zero_add _)) ?_
    clear hS6
    refine WO.val (run_move rfl) rfl rfl rfl ?_
    refine WO.append (news := (ns.flatMap mtc)) 0 rfl Tryz.underlying28 Tryz.underlying28 (fun _ h => by cases h) Ty.sz37 (by decide) Ty.by37 Ty.zr37 rfl rfl rfl rfl hS8 rfl (((fun h => St.rdB h hN) (hS8.focus 5 rfl)).src) (mts_noAgg ns) (by omega) (by omega) (fun a12 c13 w11 hS11 => ?_)
    replace hS11 : St B (own a12 ((ms ++ ns).length) c13 37 3 ((ms ++ ns).flatMap mtc) :: cel g [Value.slice ar Q.length cr, Value.int .u32 0, Value.int .i32 0, Value.int .u32 0, Value.map none] 57 :: (rowsP ar Q) :: (.pure True) :: (.pure True) :: (.pure True) :: L) w11 := own_len hS11 List.length_append.symm List.flatMap_append.symm
    refine WO.as (d := 43) (v := Value.slice a12 ((ms ++ ns).length) c13) rfl (congrArg (fun z => Value.slice _ z _) List.length_append.symm) ?_
    clear hS8
    refine WO.val (run_assign rfl) rfl rfl rfl ?_
    refine WO.nil ?_
    refine NX.go ?_
    refine WP.seq ?_
    refine WP.region rfl ?_
    refine WO.val (run_move rfl) rfl rfl rfl ?_
    refine WO.val (run_move rfl) rfl rfl rfl ?_
    have hS14 := hS11.permT [1, 1, 0, 0, 0, 0] (L' := cel g [Value.slice ar Q.length cr, Value.int .u32 0, Value.int .i32 0, Value.int .u32 0, Value.map none] 57 :: (rowsP ar Q) :: own a12 ((ms ++ ns).length) c13 37 3 ((ms ++ ns).flatMap mtc) :: (.pure True) :: (.pure True) :: (.pure True) :: L) rfl
    clear hS11
    refine WO.call rfl rfl Ty.hd12 rfl (pFind_spec (M := own a12 ((ms ++ ns).length) c13 37 3 ((ms ++ ns).flatMap mtc)) (ms := (ms ++ ns)) (fun h => h.own_rd.1) (by omega) hQb (sz_append hmz hnz) (by rw [List.length_append]; omega) hS14) (fun v16 w15 pv16 => ?_)
    obtain ⟨x1, y1, hv1, hS15⟩ := pv16
    clear hS14
    rw [hQ] at hv1 hS15
    subst hv1
    replace hS15 : St B (own x1 ((findF (R.map RowV.l) (ms ++ ns)).length) y1 3 1 (ri (findF (R.map RowV.l) (ms ++ ns))) :: cel g [Value.slice ar Q.length cr, Value.int .u32 0, Value.int .i32 0, Value.int .u32 0, Value.map none] 57 :: (rowsP ar Q) :: own a12 ((ms ++ ns).length) c13 37 3 ((ms ++ ns).flatMap mtc) :: (.pure True) :: (.pure True) :: (.pure True) :: L) w15 := hS15
    refine WO.val (run_move rfl) rfl rfl rfl ?_
    refine WO.val (run_move rfl) rfl rfl rfl ?_
    have hS17 := hS15.permT [1, 1, 3, 0, 0, 0, 0] (L' := cel g [Value.slice ar Q.length cr, Value.int .u32 0, Value.int .i32 0, Value.int .u32 0, Value.map none] 57 :: (rowsP ar Q) :: (.pure True) :: own x1 ((findF (R.map RowV.l) (ms ++ ns)).length) y1 3 1 (ri (findF (R.map RowV.l) (ms ++ ns))) :: own a12 ((ms ++ ns).length) c13 37 3 ((ms ++ ns).flatMap mtc) :: (.pure True) :: (.pure True) :: L) rfl
    clear hS15
    refine WO.call rfl rfl Ty.hd12 rfl (pFind_spec (M := (.pure True)) (ms := ms) (fun h => St.rdB h hL) (by omega) hQb hmz (by omega) hS17) (fun v19 w18 pv19 => ?_)
    obtain ⟨x2, y2, hv2, hS18⟩ := pv19
    clear hS17
    rw [hQ] at hv2 hS18
    subst hv2
    replace hS18 : St B (own x2 ((findF (R.map RowV.l) ms).length) y2 3 1 (ri (findF (R.map RowV.l) ms)) :: cel g [Value.slice ar Q.length cr, Value.int .u32 0, Value.int .i32 0, Value.int .u32 0, Value.map none] 57 :: (rowsP ar Q) :: (.pure True) :: own x1 ((findF (R.map RowV.l) (ms ++ ns)).length) y1 3 1 (ri (findF (R.map RowV.l) (ms ++ ns))) :: own a12 ((ms ++ ns).length) c13 37 3 ((ms ++ ns).flatMap mtc) :: (.pure True) :: (.pure True) :: L) w18 := hS18
    refine WO.val (run_move rfl) rfl rfl rfl ?_
    refine WO.val (run_move rfl) rfl rfl rfl ?_
    have hS20 := hS18.permT [1, 1, 5, 0, 0, 0, 0, 0] (L' := cel g [Value.slice ar Q.length cr, Value.int .u32 0, Value.int .i32 0, Value.int .u32 0, Value.map none] 57 :: (rowsP ar Q) :: (.pure True) :: own x2 ((findF (R.map RowV.l) ms).length) y2 3 1 (ri (findF (R.map RowV.l) ms)) :: (.pure True) :: own x1 ((findF (R.map RowV.l) (ms ++ ns)).length) y1 3 1 (ri (findF (R.map RowV.l) (ms ++ ns))) :: own a12 ((ms ++ ns).length) c13 37 3 ((ms ++ ns).flatMap mtc) :: (.pure True) :: L) rfl
    clear hS18
    refine WO.call rfl rfl Ty.hd12 rfl (pFind_spec (M := (.pure True)) (ms := ns) (fun h => St.rdB h hN) (by omega) hQb hnz (by omega) hS20) (fun v22 w21 pv22 => ?_)
    obtain ⟨x3, y3, hv3, hS21⟩ := pv22
    clear hS20
    rw [hQ] at hv3 hS21
    subst hv3
    replace hS21 : St B (own x3 ((findF (R.map RowV.l) ns).length) y3 3 1 (ri (findF (R.map RowV.l) ns)) :: cel g [Value.slice ar Q.length cr, Value.int .u32 0, Value.int .i32 0, Value.int .u32 0, Value.map none] 57 :: (rowsP ar Q) :: (.pure True) :: own x2 ((findF (R.map RowV.l) ms).length) y2 3 1 (ri (findF (R.map RowV.l) ms)) :: (.pure True) :: own x1 ((findF (R.map RowV.l) (ms ++ ns)).length) y1 3 1 (ri (findF (R.map RowV.l) (ms ++ ns))) :: own a12 ((ms ++ ns).length) c13 37 3 ((ms ++ ns).flatMap mtc) :: (.pure True) :: L) w21 := hS21
    have hS25 := hS21.permT [4, 0, 0, 0, 0, 0, 0, 0, 0] (L' := own x2 ((findF (R.map RowV.l) ms).length) y2 3 1 (ri (findF (R.map RowV.l) ms)) :: own x3 ((findF (R.map RowV.l) ns).length) y3 3 1 (ri (findF (R.map RowV.l) ns)) :: cel g [Value.slice ar Q.length cr, Value.int .u32 0, Value.int .i32 0, Value.int .u32 0, Value.map none] 57 :: (rowsP ar Q) :: (.pure True) :: (.pure True) :: own x1 ((findF (R.map RowV.l) (ms ++ ns)).length) y1 3 1 (ri (findF (R.map RowV.l) (ms ++ ns))) :: own a12 ((ms ++ ns).length) c13 37 3 ((ms ++ ns).flatMap mtc) :: (.pure True) :: L) rfl
    clear hS21
    refine WO.call rfl rfl Ty.hd7 rfl (pAnd_spec (l := (findF (R.map RowV.l) ms)) (m := (findF (R.map RowV.l) ns)) (fun h => h.own_rd.1) (fun h => h.own_rd.1) (Nat.le_trans (find_len _ _) (by rw [List.length_map]; omega)) (Nat.le_trans (find_len _ _) (by rw [List.length_map]; omega)) hS25) (fun v27 w26 pv27 => ?_)
    obtain ⟨a23, c24, rfl, hS26⟩ := pv27
    clear hS25
    have hS28 := hS26.permT [7, 0, 0, 0, 0, 0, 0, 0, 0, 0] (L' := own x1 ((findF (R.map RowV.l) (ms ++ ns)).length) y1 3 1 (ri (findF (R.map RowV.l) (ms ++ ns))) :: own a23 ((pickF fAnd (findF (R.map RowV.l) ms) (findF (R.map RowV.l) ns)).length) c24 3 1 (ri (pickF fAnd (findF (R.map RowV.l) ms) (findF (R.map RowV.l) ns))) :: own x2 ((findF (R.map RowV.l) ms).length) y2 3 1 (ri (findF (R.map RowV.l) ms)) :: own x3 ((findF (R.map RowV.l) ns).length) y3 3 1 (ri (findF (R.map RowV.l) ns)) :: cel g [Value.slice ar Q.length cr, Value.int .u32 0, Value.int .i32 0, Value.int .u32 0, Value.map none] 57 :: (rowsP ar Q) :: (.pure True) :: (.pure True) :: own a12 ((ms ++ ns).length) c13 37 3 ((ms ++ ns).flatMap mtc) :: (.pure True) :: L) rfl
    clear hS26
    refine WO.call rfl rfl Ty.hd10 rfl (same_spec (l := (findF (R.map RowV.l) (ms ++ ns))) (m := (pickF fAnd (findF (R.map RowV.l) ms) (findF (R.map RowV.l) ns))) (fun h => h.own_rd.1) (fun h => h.own_rd.1) (Nat.le_trans (find_len _ _) (by rw [List.length_map]; omega)) hS28) (fun v30 w29 pv30 => ?_)
    obtain ⟨hv, hS29⟩ := pv30
    clear hS28
    replace hv : v30 = Value.bool true := hv.trans (congrArg Value.bool (decide_eq_true (find_append (by omega) _)))
    subst hv
    replace hS29 : St B (own x1 ((findF (R.map RowV.l) (ms ++ ns)).length) y1 3 1 (ri (findF (R.map RowV.l) (ms ++ ns))) :: own a23 ((pickF fAnd (findF (R.map RowV.l) ms) (findF (R.map RowV.l) ns)).length) c24 3 1 (ri (pickF fAnd (findF (R.map RowV.l) ms) (findF (R.map RowV.l) ns))) :: own x2 ((findF (R.map RowV.l) ms).length) y2 3 1 (ri (findF (R.map RowV.l) ms)) :: own x3 ((findF (R.map RowV.l) ns).length) y3 3 1 (ri (findF (R.map RowV.l) ns)) :: cel g [Value.slice ar Q.length cr, Value.int .u32 0, Value.int .i32 0, Value.int .u32 0, Value.map none] 57 :: (rowsP ar Q) :: (.pure True) :: (.pure True) :: own a12 ((ms ++ ns).length) c13 37 3 ((ms ++ ns).flatMap mtc) :: (.pure True) :: L) w29 := hS29
    refine WO.val (run_assign rfl) rfl rfl rfl ?_
    refine WO.nil ?_
    refine NX.go ?_
    refine WP.ret ?_
    refine NX.done (l := [.tmp 6]) rfl rfl ?_
    exact ⟨rfl, hS29.drop.drop.drop.drop.drop.drop.drop.drop.drop.drop⟩
end Go.Proofs.YtogidmceomlkeaaGreatDoor.SL
