/- The law of what is found. -/
import Derived.Test.YtogidmceomlkeaaDoorKf
namespace Go.Proofs.YtogidmceomlkeaaDoor.SL
open Go.RowKit Go.Proofs.YtogidmceomlkeaaDoor
open Go.Proofs.YtogidmceomlkeaaDoorW.PrintLast (rtab opsOf)
set_option linter.unusedVariables false
set_option linter.unusedSimpArgs false
theorem postingsFinds_core_t20 : rtab .any (opsOf Tryd.f3 20) = (true, [([], []), ([], []), ([0, 1], [0, 1]), ([], []), ([], []), ([3, 4, 2], [3, 4]), ([2, 5, 5], [2, 5]), ([6, 6], [6]), ([7], [7]), ([7], [7]), ([7], [7]), ([9, 10, 7, 7], [7, 9, 10]), ([8, 11, 11, 7], [7, 8, 11]), ([7], [7]), ([7], [7]), ([13, 14, 12, 7], [7, 13, 14]), ([12, 15, 15, 7], [7, 12, 15]), ([7, 16], [7, 16]), ([17, 16, 0, 1, 2, 3, 4, 5, 6, 7, 8, 9, 10, 11, 12, 13, 14, 15, 16, 17], [17])]) := by kernel_rfl
set_option maxHeartbeats 2000000 in
theorem postingsFinds_core {B w : World} {L : List HP} {a b : Option Addr} {cap cap2 : Nat} {R : List RowV} {ms : List Mt} (hA : RdRows B a R) (hM : Rd B b ms.length 3 (ms.flatMap mtc)) (hmz : SzM ms) (hpz : ∀ r ∈ R, r.l.length ≤ 4398046511104) (p : Pr) (hS : St B L w) : Does Tryd.prog 3 [Value.slice a R.length cap, Value.slice b ms.length cap2, Value.agg #[str p.n, str p.v]] w (fun v w1 => v = .bool true ∧ St B L w1) := by
 replace hS := (hS.addPure (p := True) trivial).addPure (p := True) trivial
 refine enter (n := 85) Tryd.func3 rfl rfl [Value.slice a R.length cap, Value.slice b ms.length cap2, Value.agg #[str p.n, str p.v]] rfl ?_
 refine WP.seq ?_
 refine WP.region rfl ?_
 refine WO.box (l := [str p.n, str p.v]) hS rfl rfl rfl (fun g2 w1 lg2 hS1 => ?_)
 clear hS
 refine WO.val (run_assign rfl) rfl rfl rfl ?_
 refine WO.nil ?_
 refine NX.go ?_
 refine WP.seq ?_
 refine WP.seq ?_
 refine WP.region rfl ?_
 refine WO.val (run_move rfl) rfl rfl rfl ?_
 refine WO.val (run_len rfl Tryd.underlying22 rfl) rfl rfl rfl ?_
 refine WO.val (run_gtr rfl rfl) rfl rfl rfl ?_
 refine WO.val (run_move rfl) rfl rfl rfl ?_
 by_cases g15 : 100 < ((R.length : Nat) : Int)
 ·
  refine WO.off rfl rfl (decide_eq_true g15) rfl ?_
  refine WO.off rfl rfl (decide_eq_true g15) rfl ?_
  refine WO.off rfl rfl (decide_eq_true g15) rfl ?_
  refine WO.val (run_pickT rfl (decide_eq_true g15) rfl) rfl rfl rfl ?_
  refine WO.nil ?_
  refine NX.go ?_
  refine WP.condT rfl rfl ?_
  refine WP.seq ?_
  refine WP.region rfl ?_
  refine WO.val (run_assign rfl) rfl rfl rfl ?_
  refine WO.nil ?_
  refine NX.go ?_
  refine WP.ret ?_
  refine NX.thenRet ?_
  refine NX.done (l := [.tmp 6]) rfl rfl ?_
  exact ⟨rfl, hS1.drop.drop.drop⟩
 ·
  refine WO.on rfl rfl (decide_eq_false g15) ?_
  refine WO.val (run_move rfl) rfl rfl rfl ?_
  refine WO.on rfl rfl (decide_eq_false g15) ?_
  refine WO.val (run_len rfl Tryd.underlying23 rfl) rfl rfl rfl ?_
  refine WO.on rfl rfl (decide_eq_false g15) ?_
  refine WO.val (run_gtr rfl rfl) rfl rfl rfl ?_
  refine WO.val (run_pickF rfl (decide_eq_false g15) rfl) rfl rfl rfl ?_
  refine WO.nil ?_
  refine NX.go ?_
  refine WP.condP rfl (fun g19 => ?_) (fun g19 => ?_)
  ·
   refine WP.seq ?_
   refine WP.region rfl ?_
   refine WO.val (run_assign rfl) rfl rfl rfl ?_
   refine WO.nil ?_
   refine NX.go ?_
   refine WP.ret ?_
   refine NX.thenRet ?_
   refine NX.done (l := [.tmp 6]) rfl rfl ?_
   exact ⟨rfl, hS1.drop.drop.drop⟩
  ·
   refine WP.skip ?_
   refine NX.go ?_
   refine WP.seq ?_
   refine WP.region rfl ?_
   refine WO.val (run_assign rfl) rfl rfl rfl ?_
   refine WO.nil ?_
   refine NX.go ?_
   refine WP.seq ?_
   refine WP.seq ?_
   refine WP.region rfl ?_
   refine WO.val (run_assign rfl) rfl rfl rfl ?_
   refine WO.nil ?_
   refine NX.go ?_
   refine WP.block ?_
   have hq0 : St B (own none (([] : List RowV).length) 0 26 1 (([] : List RowV).flatMap rowc) :: (ownRows ([] : List RowV)) :: cel g2 [str p.n, str p.v] 25 :: (.pure True) :: (.pure True) :: L) w1 := ((hS1.addPure (p := True) trivial).own_nil 26 1)
   refine WP.loop (α := Nat × List RowV × Option Addr × Nat) (fun x => match x with | ⟨i, Q, ao, co⟩ => [(0, Value.slice a R.length cap), (1, Value.slice b ms.length cap2), (5, Value.pointer (some ⟨g2, 0, none⟩)), (7, Value.slice ao Q.length co), (8, Value.int .i64 (i : Int))]) (fun x w => match x with | ⟨i, Q, ao, co⟩ => (i ≤ R.length ∧ Q.map RowV.l = (R.map RowV.l).take i ∧ ∀ r ∈ Q, r.l.length ≤ 50) ∧ St B (own ao Q.length co 26 1 (Q.flatMap rowc) :: (ownRows Q) :: cel g2 [str p.n, str p.v] 25 :: (.pure True) :: (.pure True) :: L) w) (fun x => match x with | ⟨i, Q, ao, co⟩ => R.length - i) (0, [], none, 0) ⟨⟨Nat.zero_le _, rfl, fun r h => by cases h⟩, hq0⟩ (Sub.cons rfl (Sub.cons rfl (Sub.cons rfl (Sub.consE rfl (by first | rfl | first | rfl | (congr 1; omega) | (simp; done) | (simp; omega)) (Sub.consE rfl (by first | rfl | first | rfl | (congr 1; omega) | (simp; done) | (simp; omega)) (Sub.nil _)))))) ?_
   rintro ⟨i, Q, ao, co⟩ w3 ⟨⟨hi, hQ, hQb⟩, hS3⟩
   clear hS1
   have hQl : Q.length = i := by have := congrArg List.length hQ; simp at this; omega
   refine WP.seq ?_
   refine WP.seq ?_
   refine WP.region rfl ?_
   refine WO.val (run_move rfl) rfl rfl rfl ?_
   refine WO.val (run_move rfl) rfl rfl rfl ?_
   refine WO.val (run_len rfl Tryd.underlying22 rfl) rfl rfl rfl ?_
   refine WO.val (run_lss rfl rfl) rfl rfl rfl ?_
   refine WO.nil ?_
   refine NX.go ?_
   refine WP.condP rfl (fun g23 => ?_) (fun g23 => ?_)
   ·
    obtain ⟨r, hr⟩ : ∃ r, R[i]? = some r := ⟨_, List.getElem?_eq_getElem (by omega)⟩
    have hrm : r ∈ R := List.mem_of_getElem? hr
    refine WP.skip ?_
    refine NX.go ?_
    refine WP.seq ?_
    refine WP.block ?_
    refine WP.seq ?_
    refine WP.seq ?_
    refine WP.region rfl ?_
    refine WO.val (run_move rfl) rfl rfl rfl ?_
    refine WO.val (run_move rfl) rfl rfl rfl ?_
    refine WO.val (run_indexAddr (q := adr a i) Tryd.underlying22 Ty.sz26 rfl rfl (by omega) (by omega) (((fun h => St.rdB h hA.1) (hS3.focus 3 rfl)).2.1 (by omega)) (by simp)) rfl rfl rfl ?_
    refine WO.val (run_load Ty.ag26 rfl (((fun h => St.rdB h hA.1) (hS3.focus 3 rfl)).cell (row_get hr))) rfl rfl rfl ?_
    refine WO.val (run_len rfl Tryd.underlying26 rfl) rfl rfl rfl ?_
    refine WO.val (run_gtr rfl rfl) rfl rfl rfl ?_
    refine WO.nil ?_
    refine NX.go ?_
    refine WP.condP rfl (fun g31 => ?_) (fun g31 => ?_)
    ·
     refine WP.seq ?_
     refine WP.region rfl ?_
     refine WO.val (run_assign rfl) rfl rfl rfl ?_
     refine WO.nil ?_
     refine NX.go ?_
     refine WP.ret ?_
     refine NX.thenRet ?_
     refine NX.blkRet ?_
     refine NX.thenRet ?_
     refine NX.thenRet ?_
     refine NX.blkRet ?_
     refine NX.thenRet ?_
     refine NX.done (l := [.tmp 6]) rfl rfl ?_
     exact ⟨rfl, hS3.drop.drop.drop.drop.drop⟩
    ·
     refine WP.skip ?_
     refine NX.go ?_
     refine WP.region rfl ?_
     refine WO.val (run_move rfl) rfl rfl rfl ?_
     refine WO.buildSlice (l := []) hS3 Tryd.underlying26 rfl (fun w => by kernel_rfl) rfl (fun g5 w4 lg5 hS4 => ?_)
     clear hS3
     have hS4 := hS4.own_of_cel (m := 0) (k := 2) rfl
     refine WO.val (run_move rfl) rfl rfl rfl ?_
     refine WO.val (run_move rfl) rfl rfl rfl ?_
     refine WO.val (run_indexAddr (q := adr a i) Tryd.underlying22 Ty.sz26 rfl rfl (by omega) (by omega) (((fun h => St.rdB h hA.1) (hS4.focus 4 rfl)).2.1 (by omega)) (by simp)) rfl rfl rfl ?_
     refine WO.val (run_load Ty.ag26 rfl (((fun h => St.rdB h hA.1) (hS4.focus 4 rfl)).cell (row_get hr))) rfl rfl rfl ?_
     refine WO.append (news := (r.l.flatMap prc)) 0 rfl Tryd.underlying26 Tryd.underlying26 (fun _ h => by cases h) Ty.sz25 (by decide) Ty.by25 Ty.zr25 rfl rfl rfl rfl hS4 rfl (((fun h => St.rdB h (hA.2 r hrm)) (hS4.focus 4 rfl)).src) (prs_noAgg r.l) (by omega) (by omega) (fun a7 c8 w6 hS6 => ?_)
     replace hS6 : St B (own a7 (0 + r.l.length) c8 25 2 ([] ++ (r.l.flatMap prc)) :: own ao Q.length co 26 1 (Q.flatMap rowc) :: (ownRows Q) :: cel g2 [str p.n, str p.v] 25 :: (.pure True) :: (.pure True) :: L) w6 := hS6
     clear hS4
     refine WO.buildSlice (l := [Value.slice a7 (0 + r.l.length) c8]) hS6 Tryd.underlying22 rfl (fun w => by kernel_rfl) rfl (fun g10 w9 lg10 hS9 => ?_)
     clear hS6
     have hS9 := hS9.own_of_cel (m := 1) (k := 1) rfl
     refine WO.append (news := [Value.slice a7 (0 + r.l.length) c8]) 2 rfl Tryd.underlying22 Tryd.underlying22 (fun _ h => by cases h) Ty.sz26 (by decide) Ty.by26 Ty.zr26 rfl rfl rfl rfl hS9 rfl ((hS9.own_rd_i 0 rfl).src) rfl (by omega) (by omega) (fun a12 c13 w11 hS11 => ?_)
     replace hS11 : St B (own (some ⟨g10, 0, none⟩) 1 1 26 1 [Value.slice a7 (0 + r.l.length) c8] :: own a7 (0 + r.l.length) c8 25 2 ([] ++ (r.l.flatMap prc)) :: own a12 (Q.length + 1) c13 26 1 ((Q.flatMap rowc) ++ [Value.slice a7 (0 + r.l.length) c8]) :: (ownRows Q) :: cel g2 [str p.n, str p.v] 25 :: (.pure True) :: (.pure True) :: L) w11 := hS11
     clear hS9
     refine WO.val (run_assign rfl) rfl rfl rfl ?_
     refine WO.nil ?_
     refine NX.blk ?_
     refine NX.go ?_
     refine WP.region rfl ?_
     refine WO.val (run_move rfl) rfl rfl rfl ?_
     refine WO.val (run_add rfl rfl (IntWalk.i64_in _ (by omega))) rfl rfl rfl ?_
     refine WO.val (run_assign rfl) rfl rfl rfl ?_
     refine WO.nil ?_
     have hk0 := own_len ((hS11.permT [0, 0, 1, 0, 0, 0, 0] (L' := own (some ⟨g10, 0, none⟩) 1 1 26 1 [Value.slice a7 (0 + r.l.length) c8] :: own a7 (0 + r.l.length) c8 25 2 ([] ++ (r.l.flatMap prc)) :: (ownRows Q) :: own a12 (Q.length + 1) c13 26 1 ((Q.flatMap rowc) ++ [Value.slice a7 (0 + r.l.length) c8]) :: cel g2 [str p.n, str p.v] 25 :: (.pure True) :: (.pure True) :: L) rfl).drop) (show _ = r.l.length by omega) (show _ = r.l.flatMap prc by simp)
     have hk1 := ownRows_snoc (r := (⟨a7, r.l, c8⟩ : RowV)) (hk0.permT [1, 0] (L' := ownRows Q :: own a7 r.l.length c8 25 2 (r.l.flatMap prc) :: own a12 (Q.length + 1) c13 26 1 ((Q.flatMap rowc) ++ [Value.slice a7 (0 + r.l.length) c8]) :: cel g2 [str p.n, str p.v] 25 :: (.pure True) :: (.pure True) :: L) rfl)
     have hk2 := own_len (hk1.permT [1, 0] (L' := own a12 (Q.length + 1) c13 26 1 ((Q.flatMap rowc) ++ [Value.slice a7 (0 + r.l.length) c8]) :: ownRows (Q ++ [(⟨a7, r.l, c8⟩ : RowV)]) :: cel g2 [str p.n, str p.v] 25 :: (.pure True) :: (.pure True) :: L) rfl) (show _ = (Q ++ [(⟨a7, r.l, c8⟩ : RowV)]).length by simp) (show _ = (Q ++ [(⟨a7, r.l, c8⟩ : RowV)]).flatMap rowc by simp [rowc])
     exact NX.again (i + 1, (Q ++ [(⟨a7, r.l, c8⟩ : RowV)]), a12, c13) ⟨⟨by omega, by rw [List.map_append, hQ, List.take_add_one, List.getElem?_map, hr]; rfl, by intro q hq; rcases List.mem_append.1 hq with e | e; (exact hQb q e); (simp at e; subst e; show r.l.length ≤ 50; omega)⟩, hk2⟩ (by show R.length - (i + 1) < R.length - i; omega) (Sub.cons rfl (Sub.cons rfl (Sub.cons rfl (Sub.consE rfl (by simp) (Sub.consE rfl (by congr 1) (Sub.nil _))))))
   ·
    refine WP.exit ?_
    refine NX.thenExit ?_
    refine NX.thenExit ?_
    refine NX.blkExit ?_
    refine NX.go ?_
    refine WP.seq ?_
    have hQa : Q.map RowV.l = R.map RowV.l := by rw [hQ, List.take_of_length_le (by simp; omega)]
    have hQn : Q.length = R.length := by have := congrArg List.length hQa; simpa using this
    have hS14 := St.join hS3
    clear hS3
    refine WP.region rfl ?_
    refine WO.val (run_move rfl) rfl rfl rfl ?_
    refine WO.call rfl rfl Ty.hd5 rfl (pNew_spec (X := (HP.sep (own ao Q.length co 26 1 (Q.flatMap rowc)) (ownRows Q))) (fun h => ⟨h.sep.own_rd.1, ownRows_rd (h.sep.permT [1, 0] rfl)⟩) (by omega) (fun r hr => Nat.le_trans (hQb r hr) (by decide)) hS14) (fun v16 w15 pv16 => ?_)
    obtain ⟨g, ar, cr, Q2, rfl, hQ2, hS15⟩ := pv16
    clear hS14
    refine WO.val (run_assign rfl) rfl rfl rfl ?_
    refine WO.nil ?_
    refine NX.go ?_
    refine WP.seq ?_
    refine WP.seq ?_
    have hQ2a : Q2.map RowV.l = R.map RowV.l := hQ2.trans hQa
    have hQ2n : Q2.length = R.length := by have := congrArg List.length hQ2a; simpa using this
    have hQ2b : ∀ r ∈ Q2, r.l.length ≤ 4398046511104 := by
     intro q hq
     have h1 : q.l ∈ Q2.map RowV.l := List.mem_map_of_mem hq
     rw [hQ2a] at h1
     obtain ⟨r, hr, e⟩ := List.mem_map.1 h1
     rw [← e]; exact hpz r hr
    have hS17 := St.sep (hS15.permT [2] (L' := (HP.sep (own ao Q.length co 26 1 (Q.flatMap rowc)) (ownRows Q)) :: cel g [Value.slice ar Q2.length cr, Value.int .u32 0, Value.int .i32 0, Value.int .u32 0, Value.map none] 71 :: (rowsP ar Q2) :: cel g2 [str p.n, str p.v] 25 :: (.pure True) :: (.pure True) :: L) rfl)
    clear hS15
    refine WP.region rfl ?_
    refine WO.val (run_move rfl) rfl rfl rfl ?_
    refine WO.val (run_eqlNilP Tryd.underlying27 rfl rfl) rfl rfl rfl ?_
    refine WO.nil ?_
    refine NX.go ?_
    refine WP.condF rfl rfl ?_
    refine WP.skip ?_
    refine NX.go ?_
    refine WP.seq ?_
    refine WP.seq ?_
    refine WP.region rfl ?_
    refine WO.val (run_assign rfl) rfl rfl rfl ?_
    refine WO.nil ?_
    refine NX.go ?_
    refine WP.block ?_
    refine WP.loop (α := Nat × List RowV) (fun x => match x with | ⟨i, Z⟩ => [(0, Value.slice a R.length cap), (1, Value.slice b ms.length cap2), (5, Value.pointer (some ⟨g2, 0, none⟩)), (7, Value.slice ao Z.length co), (9, Value.pointer (some ⟨g, 0, none⟩)), (10, Value.int .i64 (i : Int))]) (fun x w => match x with | ⟨i, Z⟩ => (Z.length = Q.length ∧ i ≤ Q.length ∧ ∀ r ∈ Z, r.l.length ≤ 50) ∧ St B (own ao Z.length co 26 1 (Z.flatMap rowc) :: (ownRows Z) :: cel g [Value.slice ar Q2.length cr, Value.int .u32 0, Value.int .i32 0, Value.int .u32 0, Value.map none] 71 :: (rowsP ar Q2) :: cel g2 [str p.n, str p.v] 25 :: (.pure True) :: (.pure True) :: L) w) (fun x => match x with | ⟨i, Z⟩ => Q.length - i) (0, Q) ⟨⟨rfl, Nat.zero_le _, hQb⟩, hS17⟩ (Sub.cons rfl (Sub.cons rfl (Sub.cons rfl (Sub.consE rfl (by first | rfl | first | rfl | (congr 1; omega) | (simp; done) | (simp; omega)) (Sub.cons rfl (Sub.consE rfl (by first | rfl | first | rfl | (congr 1; omega) | (simp; done) | (simp; omega)) (Sub.nil _))))))) ?_
    rintro ⟨i, Z⟩ w18 ⟨⟨hZn, hi2, hZb⟩, hS18⟩
    clear hS17
    refine WP.seq ?_
    refine WP.seq ?_
    refine WP.region rfl ?_
    refine WO.val (run_move rfl) rfl rfl rfl ?_
    refine WO.val (run_move rfl) rfl rfl rfl ?_
    refine WO.val (run_len rfl Tryd.underlying22 rfl) rfl rfl rfl ?_
    refine WO.val (run_lss rfl rfl) rfl rfl rfl ?_
    refine WO.nil ?_
    refine NX.go ?_
    refine WP.condP rfl (fun g48 => ?_) (fun g48 => ?_)
    ·
     refine WP.skip ?_
     refine NX.go ?_
     refine WP.seq ?_
     refine WP.block ?_
     refine WP.seq ?_
     obtain ⟨r, hr⟩ : ∃ r, Z[i]? = some r := ⟨_, List.getElem?_eq_getElem (by omega)⟩
     have hS19 := ownRows_pick hr (hS18.permT [1] (L' := ownRows Z :: own ao Z.length co 26 1 (Z.flatMap rowc) :: cel g [Value.slice ar Q2.length cr, Value.int .u32 0, Value.int .i32 0, Value.int .u32 0, Value.map none] 71 :: (rowsP ar Q2) :: cel g2 [str p.n, str p.v] 25 :: (.pure True) :: (.pure True) :: L) rfl)
     clear hS18
     refine WP.region rfl ?_
     refine WO.val (run_assign rfl) rfl rfl rfl ?_
     refine WO.nil ?_
     refine NX.go ?_
     refine WP.block ?_
     refine WP.loop (α := Nat × List Pr) (fun x => match x with | ⟨k, l1⟩ => [(0, Value.slice a R.length cap), (1, Value.slice b ms.length cap2), (5, Value.pointer (some ⟨g2, 0, none⟩)), (7, Value.slice ao Z.length co), (9, Value.pointer (some ⟨g, 0, none⟩)), (10, Value.int .i64 (i : Int)), (11, Value.int .i64 (k : Int))]) (fun x w => match x with | ⟨k, l1⟩ => (k ≤ r.l.length ∧ l1.length = r.l.length) ∧ St B (own r.a r.l.length r.cap 25 2 (l1.flatMap prc) :: (ownBut i Z) :: own ao Z.length co 26 1 (Z.flatMap rowc) :: cel g [Value.slice ar Q2.length cr, Value.int .u32 0, Value.int .i32 0, Value.int .u32 0, Value.map none] 71 :: (rowsP ar Q2) :: cel g2 [str p.n, str p.v] 25 :: (.pure True) :: (.pure True) :: L) w) (fun x => match x with | ⟨k, l1⟩ => r.l.length - k) (0, r.l) ⟨⟨Nat.zero_le _, rfl⟩, hS19⟩ (Sub.cons rfl (Sub.cons rfl (Sub.cons rfl (Sub.cons rfl (Sub.cons rfl (Sub.cons rfl (Sub.consE rfl (by first | rfl | first | rfl | (congr 1; omega) | (simp; done) | (simp; omega)) (Sub.nil _)))))))) ?_
     rintro ⟨k, l1⟩ w20 ⟨⟨hk, hl1⟩, hS20⟩
     clear hS19
     have hrb := hZb r (List.mem_of_getElem? hr)
     refine WP.seq ?_
     refine WP.seq ?_
     refine WP.region rfl ?_
     refine WO.val (run_move rfl) rfl rfl rfl ?_
     refine WO.val (run_move rfl) rfl rfl rfl ?_
     refine WO.val (run_move rfl) rfl rfl rfl ?_
     refine WO.val (run_indexAddr (q := adr ao i) Tryd.underlying22 Ty.sz26 rfl rfl (by omega) (by omega) ((hS20.own_rd_i 2 rfl).2.1 (by omega)) (by simp)) rfl rfl rfl ?_
     refine WO.val (run_load Ty.ag26 rfl ((hS20.own_rd_i 2 rfl).cell (row_get hr))) rfl rfl rfl ?_
     refine WO.val (run_len rfl Tryd.underlying26 rfl) rfl rfl rfl ?_
     refine WO.val (run_lss rfl rfl) rfl rfl rfl ?_
     refine WO.nil ?_
     refine NX.go ?_
     refine WP.condP rfl (fun g57 => ?_) (fun g57 => ?_)
     ·
      refine WP.skip ?_
      refine NX.go ?_
      refine WP.seq ?_
      refine WP.block ?_
      refine WP.region rfl ?_
      refine WO.val (run_move rfl) rfl rfl rfl ?_
      refine WO.val (run_move rfl) rfl rfl rfl ?_
      refine WO.val (run_indexAddr (q := adr ao i) Tryd.underlying22 Ty.sz26 rfl rfl (by omega) (by omega) ((hS20.own_rd_i 2 rfl).2.1 (by omega)) (by simp)) rfl rfl rfl ?_
      refine WO.val (run_load Ty.ag26 rfl ((hS20.own_rd_i 2 rfl).cell (row_get hr))) rfl rfl rfl ?_
      refine WO.val (run_move rfl) rfl rfl rfl ?_
      refine WO.val (run_build (v := Value.agg #[str [], str []]) rfl (fun w => by kernel_rfl)) rfl rfl rfl ?_
      refine WO.val (run_indexAddr (q := adr r.a (k * 2)) Tryd.underlying26 Ty.sz25 rfl rfl (by omega) (by omega) ((hS20.own_rd_i 0 rfl).2.1 (by omega)) rfl) rfl rfl rfl ?_
      refine WO.storeOwn (l' := ((l1.set k ⟨[], []⟩).flatMap prc)) 0 hS20 rfl Ty.sz25 rfl rfl rfl rfl rfl (by decide) (by rw [flat_len prc_len]; omega) (flat_splice prc_len (⟨[], []⟩ : Pr) (by omega)) (fun w21 (hS21 : St B (own r.a r.l.length r.cap 25 2 ((l1.set k ⟨[], []⟩).flatMap prc) :: (ownBut i Z) :: own ao Z.length co 26 1 (Z.flatMap rowc) :: cel g [Value.slice ar Q2.length cr, Value.int .u32 0, Value.int .i32 0, Value.int .u32 0, Value.map none] 71 :: (rowsP ar Q2) :: cel g2 [str p.n, str p.v] 25 :: (.pure True) :: (.pure True) :: L) w21) => ?_)
      clear hS20
      refine WO.nil ?_
      refine NX.blk ?_
      refine NX.go ?_
      refine WP.region rfl ?_
      refine WO.val (run_move rfl) rfl rfl rfl ?_
      refine WO.val (run_add rfl rfl (IntWalk.i64_in _ (by omega))) rfl rfl rfl ?_
      refine WO.val (run_assign rfl) rfl rfl rfl ?_
      refine WO.nil ?_
      exact NX.again (k + 1, l1.set k ⟨[], []⟩) ⟨⟨by omega, by simpa using hl1⟩, hS21⟩ (by show r.l.length - (k + 1) < r.l.length - k; omega) (Sub.cons rfl (Sub.cons rfl (Sub.cons rfl (Sub.cons rfl (Sub.cons rfl (Sub.cons rfl (Sub.consE rfl (by congr 1) (Sub.nil _))))))))
     ·
      refine WP.exit ?_
      refine NX.thenExit ?_
      refine NX.thenExit ?_
      refine NX.blkExit ?_
      refine NX.blk ?_
      refine NX.go ?_
      refine WP.region rfl ?_
      refine WO.val (run_move rfl) rfl rfl rfl ?_
      refine WO.val (run_add rfl rfl (IntWalk.i64_in _ (by omega))) rfl rfl rfl ?_
      refine WO.val (run_assign rfl) rfl rfl rfl ?_
      refine WO.nil ?_
      have hzc : rowc (⟨r.a, l1, r.cap⟩ : RowV) = rowc r := by simp [rowc, hl1]
      have hk1 := ownRows_back (r := ⟨r.a, l1, r.cap⟩) (i := i) (R := Z) (by omega) (own_len (hS20) hl1.symm rfl)
      have hk2 := own_len (hk1.permT [1, 0] (L' := own ao Z.length co 26 1 (Z.flatMap rowc) :: ownRows (Z.set i ⟨r.a, l1, r.cap⟩) :: cel g [Value.slice ar Q2.length cr, Value.int .u32 0, Value.int .i32 0, Value.int .u32 0, Value.map none] 71 :: (rowsP ar Q2) :: cel g2 [str p.n, str p.v] 25 :: (.pure True) :: (.pure True) :: L) rfl) (show _ = (Z.set i (⟨r.a, l1, r.cap⟩ : RowV)).length by simp) (rowc_set hr hzc).symm
      exact NX.again (i + 1, Z.set i ⟨r.a, l1, r.cap⟩) ⟨⟨by simpa using hZn, by omega, by intro q hq; rcases List.mem_or_eq_of_mem_set hq with e | e; (exact hZb q e); (subst e; show l1.length ≤ 50; have := hZb r (List.mem_of_getElem? hr); omega)⟩, hk2⟩ (by show Q.length - (i + 1) < Q.length - i; omega) (Sub.cons rfl (Sub.cons rfl (Sub.cons rfl (Sub.consE rfl (by simp) (Sub.cons rfl (Sub.consE rfl (by congr 1) (Sub.nil _)))))))
    ·
     refine WP.exit ?_
     refine NX.thenExit ?_
     refine NX.thenExit ?_
     refine NX.blkExit ?_
     refine NX.go ?_
     refine WP.seq ?_
     have hS22 := St.drop (St.drop hS18)
     clear hS18
     refine WD.start (fun w => (∀ j, World.cell? w ⟨g2, j, none⟩ = [str p.n, str p.v][j]?)) [] #[false, false, false, false, false, false, false, false, false, false, false, false, false, false, false, false, false, false, false] Ty.mo rfl (by kernel_rfl) hS22 (fun _ h => h.cel_at 2 rfl) (fun w23 hS23 s24 => ?_)
     clear hS22
     refine WD.pure (i := 0) postingsFinds_core_t20 #[true, false, false, false, false, false, false, false, false, false, false, false, false, false, false, false, false, false, false] rfl rfl rfl (by kernel_rfl) (PQ.then PQ.body) rfl (fun w => run_move rfl) ?_
     refine WD.take (i := 1) postingsFinds_core_t20 #[true, true, false, false, false, false, false, false, false, false, false, false, false, false, false, false, false, false, false] s24 rfl rfl rfl (by kernel_rfl) (PQ.then PQ.body) rfl (fun w hs => run_loadAgg (vs := [str p.n, str p.v]) Ty.ag25 Ty.sz25 rfl rfl (cell_all (hs) 0 rfl)) ?_
     refine WD.pure (i := 3) postingsFinds_core_t20 #[true, true, false, true, false, false, false, false, false, false, false, false, false, false, false, false, false, false, false] rfl rfl rfl (by kernel_rfl) (PQ.then PQ.body) rfl (fun w => run_move rfl) ?_
     refine WD.take (i := 4) postingsFinds_core_t20 #[true, true, false, true, true, false, false, false, false, false, false, false, false, false, false, false, false, false, false] s24 rfl rfl rfl (by kernel_rfl) (PQ.then PQ.body) rfl (fun w hs => run_loadAgg (vs := [str p.n, str p.v]) Ty.ag25 Ty.sz25 rfl rfl (cell_all (hs) 0 rfl)) ?_
     refine WD.one (i := 2) postingsFinds_core_t20 #[true, true, true, true, true, false, false, false, false, false, false, false, false, false, false, false, false, false, false] rfl (by kernel_rfl) ?_
     refine WO.call rfl rfl Ty.hd7 rfl (pOf_spec (by omega) hQ2b p hS23) (fun v26 w25 pv26 => ?_)
     obtain ⟨a1, c1, rr, ds, hv1, hall, hS25⟩ := pv26
     clear hS23
     rw [hQ2a] at hv1 hS25
     subst hv1
     replace hS25 : St B (own a1 ((ofF (R.map RowV.l) p).length) c1 3 1 (ri (ofF (R.map RowV.l) p)) :: cel g [Value.slice ar Q2.length cr, Value.int .u32 1, Value.int .i32 0, Value.int .u32 0, Value.map (some rr)] 71 :: (mpK encPr rr (ents ds)) :: (ownAll ds) :: (rowsP ar Q2) :: cel g2 [str p.n, str p.v] 25 :: (.pure True) :: (.pure True) :: L) w25 := hS25
     refine WO.nil ?_
     have s27 : (∀ j, World.cell? w25 ⟨g2, j, none⟩ = [str p.n, str p.v][j]?) := hS25.cel_at 5 rfl
     refine NX.held s27 ?_
     refine WD.one (i := 5) postingsFinds_core_t20 #[true, true, true, true, true, true, false, false, false, false, false, false, false, false, false, false, false, false, false] rfl (by kernel_rfl) ?_
     have hS28 := hS25.permT [6, 0, 0, 0, 0, 0, 0, 0] (L' := (.pure True) :: own a1 ((ofF (R.map RowV.l) p).length) c1 3 1 (ri (ofF (R.map RowV.l) p)) :: cel g [Value.slice ar Q2.length cr, Value.int .u32 1, Value.int .i32 0, Value.int .u32 0, Value.map (some rr)] 71 :: (mpK encPr rr (ents ds)) :: (ownAll ds) :: (rowsP ar Q2) :: cel g2 [str p.n, str p.v] 25 :: (.pure True) :: L) rfl
     clear hS25
     refine WO.call rfl rfl Ty.hd8 rfl (rOf_spec (X := .pure True) (fun h => rdRowsB h hA) (by omega) hpz p hS28) (fun v30 w29 pv30 => ?_)
     obtain ⟨a2, c2, rfl, hS29⟩ := pv30
     clear hS28
     refine WO.nil ?_
     have s31 : (∀ j, World.cell? w29 ⟨g2, j, none⟩ = [str p.n, str p.v][j]?) := hS29.cel_at 7 rfl
     refine NX.held s31 ?_
     refine WD.one (i := 6) postingsFinds_core_t20 #[true, true, true, true, true, true, true, false, false, false, false, false, false, false, false, false, false, false, false] rfl (by kernel_rfl) ?_
     have hS32 := hS29.permT [2, 0, 0, 0, 0, 0, 0, 0, 0] (L' := own a1 ((ofF (R.map RowV.l) p).length) c1 3 1 (ri (ofF (R.map RowV.l) p)) :: own a2 ((ofF (R.map RowV.l) p).length) c2 3 1 (ri (ofF (R.map RowV.l) p)) :: (.pure True) :: cel g [Value.slice ar Q2.length cr, Value.int .u32 1, Value.int .i32 0, Value.int .u32 0, Value.map (some rr)] 71 :: (mpK encPr rr (ents ds)) :: (ownAll ds) :: (rowsP ar Q2) :: cel g2 [str p.n, str p.v] 25 :: (.pure True) :: L) rfl
     clear hS29
     refine WO.call rfl rfl Ty.hd6 rfl (same_spec (fun h => h.own_rd.1) (fun h => h.own_rd.1) (by first | exact Nat.le_trans (of_len _ _) (by simp; omega) | exact Nat.le_trans (find_len _ _) (by simp; omega)) hS32) (fun v34 w33 pv34 => ?_)
     obtain ⟨hv, hS33⟩ := pv34
     clear hS32
     replace hv : v34 = Value.bool true := hv.trans (congrArg Value.bool (decide_eq_true rfl))
     subst hv
     replace hS33 : St B (own a1 ((ofF (R.map RowV.l) p).length) c1 3 1 (ri (ofF (R.map RowV.l) p)) :: own a2 ((ofF (R.map RowV.l) p).length) c2 3 1 (ri (ofF (R.map RowV.l) p)) :: (.pure True) :: cel g [Value.slice ar Q2.length cr, Value.int .u32 1, Value.int .i32 0, Value.int .u32 0, Value.map (some rr)] 71 :: (mpK encPr rr (ents ds)) :: (ownAll ds) :: (rowsP ar Q2) :: cel g2 [str p.n, str p.v] 25 :: (.pure True) :: L) w33 := hS33
     refine WO.nil ?_
     have s35 : (∀ j, World.cell? w33 ⟨g2, j, none⟩ = [str p.n, str p.v][j]?) := hS33.cel_at 7 rfl
     refine NX.held s35 ?_
     refine WD.pure (i := 7) postingsFinds_core_t20 #[true, true, true, true, true, true, true, true, false, false, false, false, false, false, false, false, false, false, false] rfl rfl rfl (by kernel_rfl) (PQ.then PQ.body) rfl (fun w => run_move rfl) ?_
     refine WD.pureOn (i := 8) postingsFinds_core_t20 #[true, true, true, true, true, true, true, true, true, false, false, false, false, false, false, false, false, false, false] rfl rfl rfl rfl (by kernel_rfl) (PQ.then PQ.body) rfl (fun w => run_move rfl) ?_
     refine WD.pureOn (i := 10) postingsFinds_core_t20 #[true, true, true, true, true, true, true, true, true, false, true, false, false, false, false, false, false, false, false] rfl rfl rfl rfl (by kernel_rfl) (PQ.then PQ.body) rfl (fun w => run_move rfl) ?_
     refine WD.pureOn (i := 13) postingsFinds_core_t20 #[true, true, true, true, true, true, true, true, true, false, true, false, false, true, false, false, false, false, false] rfl rfl rfl rfl (by kernel_rfl) (PQ.then PQ.body) rfl (fun w => run_move rfl) ?_
     refine WD.pureOn (i := 14) postingsFinds_core_t20 #[true, true, true, true, true, true, true, true, true, false, true, false, false, true, true, false, false, false, false] rfl rfl rfl rfl (by kernel_rfl) (PQ.then PQ.body) rfl (fun w => run_move rfl) ?_
     refine WD.one (i := 9) postingsFinds_core_t20 #[true, true, true, true, true, true, true, true, true, true, true, false, false, true, true, false, false, false, false] rfl (by kernel_rfl) ?_
     refine WO.on rfl rfl rfl ?_
     refine WO.buildSlice (l := []) hS33 Tryd.underlying23 rfl (fun w => by kernel_rfl) rfl (fun g37 w36 lg37 hS36 => ?_)
     clear hS33
     have hS36 := hS36.own_of_cel (m := 0) (k := 3) rfl
     refine WO.nil ?_
     have s38 : (∀ j, World.cell? w36 ⟨g2, j, none⟩ = [str p.n, str p.v][j]?) := hS36.cel_at 8 rfl
     refine NX.held s38 ?_
     refine WD.one (i := 11) postingsFinds_core_t20 #[true, true, true, true, true, true, true, true, true, true, true, true, false, true, true, false, false, false, false] rfl (by kernel_rfl) ?_
     refine WO.on rfl rfl rfl ?_
     refine WO.append (news := (ms.flatMap mtc)) 0 rfl Tryd.underlying23 Tryd.underlying23 (fun _ h => by cases h) Ty.sz106 (by decide) Ty.by106 Ty.zr106 rfl rfl rfl rfl hS36 rfl (((fun h => St.rdB h hM) (hS36.focus 9 rfl)).src) (mts_noAgg ms) (by omega) (by omega) (fun a40 c41 w39 hS39 => ?_)
     replace hS39 : St B (own a40 ms.length c41 106 3 (ms.flatMap mtc) :: own a1 ((ofF (R.map RowV.l) p).length) c1 3 1 (ri (ofF (R.map RowV.l) p)) :: own a2 ((ofF (R.map RowV.l) p).length) c2 3 1 (ri (ofF (R.map RowV.l) p)) :: (.pure True) :: cel g [Value.slice ar Q2.length cr, Value.int .u32 1, Value.int .i32 0, Value.int .u32 0, Value.map (some rr)] 71 :: (mpK encPr rr (ents ds)) :: (ownAll ds) :: (rowsP ar Q2) :: cel g2 [str p.n, str p.v] 25 :: (.pure True) :: L) w39 := own_len hS39 (by omega) rfl
     refine WO.as (d := 78) (v := Value.slice a40 ms.length c41) rfl (congrArg (fun z => Value.slice _ z _) (Nat.zero_add _)) ?_
     clear hS36
     refine WO.nil ?_
     have s42 : (∀ j, World.cell? w39 ⟨g2, j, none⟩ = [str p.n, str p.v][j]?) := hS39.cel_at 8 rfl
     refine NX.held s42 ?_
     refine WD.one (i := 12) postingsFinds_core_t20 #[true, true, true, true, true, true, true, true, true, true, true, true, true, true, true, false, false, false, false] rfl (by kernel_rfl) ?_
     refine WO.on rfl rfl rfl ?_
     have hS43 := hS39.permT [4, 6, 0, 0, 0, 0, 0, 0, 0, 0] (L' := cel g [Value.slice ar Q2.length cr, Value.int .u32 1, Value.int .i32 0, Value.int .u32 0, Value.map (some rr)] 71 :: (rowsP ar Q2) :: own a40 ms.length c41 106 3 (ms.flatMap mtc) :: own a1 ((ofF (R.map RowV.l) p).length) c1 3 1 (ri (ofF (R.map RowV.l) p)) :: own a2 ((ofF (R.map RowV.l) p).length) c2 3 1 (ri (ofF (R.map RowV.l) p)) :: (.pure True) :: (mpK encPr rr (ents ds)) :: (ownAll ds) :: cel g2 [str p.n, str p.v] 25 :: (.pure True) :: L) rfl
     clear hS39
     refine WO.call rfl rfl Ty.hd9 rfl (pFind_spec (M := own a40 ms.length c41 106 3 (ms.flatMap mtc)) (fun h => h.own_rd.1) (by omega) hQ2b hmz (by omega) hS43) (fun v45 w44 pv45 => ?_)
     obtain ⟨a3, c3, hv3, hS44⟩ := pv45
     clear hS43
     rw [hQ2a] at hv3 hS44
     subst hv3
     replace hS44 : St B (own a3 ((findF (R.map RowV.l) ms).length) c3 3 1 (ri (findF (R.map RowV.l) ms)) :: cel g [Value.slice ar Q2.length cr, Value.int .u32 1, Value.int .i32 0, Value.int .u32 0, Value.map (some rr)] 71 :: (rowsP ar Q2) :: own a40 ms.length c41 106 3 (ms.flatMap mtc) :: own a1 ((ofF (R.map RowV.l) p).length) c1 3 1 (ri (ofF (R.map RowV.l) p)) :: own a2 ((ofF (R.map RowV.l) p).length) c2 3 1 (ri (ofF (R.map RowV.l) p)) :: (.pure True) :: (mpK encPr rr (ents ds)) :: (ownAll ds) :: cel g2 [str p.n, str p.v] 25 :: (.pure True) :: L) w44 := hS44
     refine WO.nil ?_
     have s46 : (∀ j, World.cell? w44 ⟨g2, j, none⟩ = [str p.n, str p.v][j]?) := hS44.cel_at 9 rfl
     refine NX.held s46 ?_
     refine WD.one (i := 15) postingsFinds_core_t20 #[true, true, true, true, true, true, true, true, true, true, true, true, true, true, true, true, false, false, false] rfl (by kernel_rfl) ?_
     refine WO.on rfl rfl rfl ?_
     have hS47 := hS44.permT [6, 9, 0, 0, 0, 0, 0, 0, 0, 0, 0] (L' := (.pure True) :: (.pure True) :: own a3 ((findF (R.map RowV.l) ms).length) c3 3 1 (ri (findF (R.map RowV.l) ms)) :: cel g [Value.slice ar Q2.length cr, Value.int .u32 1, Value.int .i32 0, Value.int .u32 0, Value.map (some rr)] 71 :: (rowsP ar Q2) :: own a40 ms.length c41 106 3 (ms.flatMap mtc) :: own a1 ((ofF (R.map RowV.l) p).length) c1 3 1 (ri (ofF (R.map RowV.l) p)) :: own a2 ((ofF (R.map RowV.l) p).length) c2 3 1 (ri (ofF (R.map RowV.l) p)) :: (mpK encPr rr (ents ds)) :: (ownAll ds) :: cel g2 [str p.n, str p.v] 25 :: L) rfl
     clear hS44
     refine WO.call rfl rfl Ty.hd10 rfl (rFind_spec (X := .pure True) (M := .pure True) (fun h => rdRowsB h hA) (fun h => St.rdB h hM) (by omega) hpz hmz (by omega) hS47) (fun v49 w48 pv49 => ?_)
     obtain ⟨a4, c4, rfl, hS48⟩ := pv49
     clear hS47
     refine WO.nil ?_
     have s50 : (∀ j, World.cell? w48 ⟨g2, j, none⟩ = [str p.n, str p.v][j]?) := hS48.cel_at 11 rfl
     refine NX.held s50 ?_
     refine WD.one (i := 16) postingsFinds_core_t20 #[true, true, true, true, true, true, true, true, true, true, true, true, true, true, true, true, true, false, false] rfl (by kernel_rfl) ?_
     refine WO.on rfl rfl rfl ?_
     have hS51 := hS48.permT [3, 0, 0, 0, 0, 0, 0, 0, 0, 0, 0, 0] (L' := own a3 ((findF (R.map RowV.l) ms).length) c3 3 1 (ri (findF (R.map RowV.l) ms)) :: own a4 ((findF (R.map RowV.l) ms).length) c4 3 1 (ri (findF (R.map RowV.l) ms)) :: (.pure True) :: (.pure True) :: cel g [Value.slice ar Q2.length cr, Value.int .u32 1, Value.int .i32 0, Value.int .u32 0, Value.map (some rr)] 71 :: (rowsP ar Q2) :: own a40 ms.length c41 106 3 (ms.flatMap mtc) :: own a1 ((ofF (R.map RowV.l) p).length) c1 3 1 (ri (ofF (R.map RowV.l) p)) :: own a2 ((ofF (R.map RowV.l) p).length) c2 3 1 (ri (ofF (R.map RowV.l) p)) :: (mpK encPr rr (ents ds)) :: (ownAll ds) :: cel g2 [str p.n, str p.v] 25 :: L) rfl
     clear hS48
     refine WO.call rfl rfl Ty.hd6 rfl (same_spec (fun h => h.own_rd.1) (fun h => h.own_rd.1) (by first | exact Nat.le_trans (of_len _ _) (by simp; omega) | exact Nat.le_trans (find_len _ _) (by simp; omega)) hS51) (fun v53 w52 pv53 => ?_)
     obtain ⟨hv, hS52⟩ := pv53
     clear hS51
     replace hv : v53 = Value.bool true := hv.trans (congrArg Value.bool (decide_eq_true rfl))
     subst hv
     replace hS52 : St B (own a3 ((findF (R.map RowV.l) ms).length) c3 3 1 (ri (findF (R.map RowV.l) ms)) :: own a4 ((findF (R.map RowV.l) ms).length) c4 3 1 (ri (findF (R.map RowV.l) ms)) :: (.pure True) :: (.pure True) :: cel g [Value.slice ar Q2.length cr, Value.int .u32 1, Value.int .i32 0, Value.int .u32 0, Value.map (some rr)] 71 :: (rowsP ar Q2) :: own a40 ms.length c41 106 3 (ms.flatMap mtc) :: own a1 ((ofF (R.map RowV.l) p).length) c1 3 1 (ri (ofF (R.map RowV.l) p)) :: own a2 ((ofF (R.map RowV.l) p).length) c2 3 1 (ri (ofF (R.map RowV.l) p)) :: (mpK encPr rr (ents ds)) :: (ownAll ds) :: cel g2 [str p.n, str p.v] 25 :: L) w52 := hS52
     refine WO.nil ?_
     have s54 : (∀ j, World.cell? w52 ⟨g2, j, none⟩ = [str p.n, str p.v][j]?) := hS52.cel_at 11 rfl
     refine NX.held s54 ?_
     refine WD.pure (i := 17) postingsFinds_core_t20 #[true, true, true, true, true, true, true, true, true, true, true, true, true, true, true, true, true, true, false] rfl rfl rfl (by kernel_rfl) (PQ.then PQ.body) rfl (fun w => run_pickT rfl rfl rfl) ?_
     refine WD.pure (i := 18) postingsFinds_core_t20 #[true, true, true, true, true, true, true, true, true, true, true, true, true, true, true, true, true, true, true] rfl rfl rfl (by kernel_rfl) (PQ.then PQ.body) rfl (fun w => run_assign rfl) ?_
     refine WD.done postingsFinds_core_t20 (by kernel_rfl) ?_
     refine NX.go ?_
     refine WP.ret ?_
     refine NX.done (l := [.tmp 6]) rfl rfl ?_
     exact ⟨rfl, hS52.drop.drop.drop.drop.drop.drop.drop.drop.drop.drop.drop.drop⟩
end Go.Proofs.YtogidmceomlkeaaDoor.SL
